/- Texts that ledgerTurns_holds leans on, part 3: each says at its head what it holds; no condition beyond its theorems' own. -/
import Derived.Test.YtfhjhaogmdaepaaGreatDoorMt2
/- Go's stable sort: merging. Printed by gen.py. -/
set_option linter.unusedVariables false
set_option linter.unusedSimpArgs false
set_option maxRecDepth 100000
namespace Go.Proofs.YtfhjhaogmdaepaaGreatDoor
open Go Go.RowKit Go.Proofs Go.Sort
def SymOk (gl : Nat → Obj) (N : Nat) : Prop := ∀ (b0 cap : Nat) (d : Array Mem) (a m b : Nat), b - a ≤ N → a < m → m < b → b ≤ d.size → d.size ≤ 4611686018427387 → d.size ≤ cap → SortedIn bt a m d → SortedIn bt m b d → Spec (cx gl) 182 [.slice (some ⟨b0, 0, none⟩) d.size cap, .int .i64 ((a : Nat) : Int), .int .i64 ((m : Nat) : Int), .int .i64 ((b : Nat) : Int), .func (.func 84) #[] #[]] (fun _ _ => True) [ownS 76 3 (.slice (some ⟨b0, 0, none⟩) d.size cap) d.size (rc (d).toList)] (fun u rs => u = .tuple #[] ∧ ∃ d' : Array Mem, (PermIn a b d d' ∧ SortedIn bt a b d') ∧ rs = [ownS 76 3 (.slice (some ⟨b0, 0, none⟩) d.size cap) d.size (rc (d').toList)])
theorem up_all {lo i : Nat} {p : Nat → Prop} (_ : ∀ c, lo ≤ c → c < i → p c) (m : Nat) (k : ∀ c, lo ≤ c → c ≤ m → p c) : ∀ c, lo ≤ c → c < m + 1 → p c := fun c h1 h2 => k c h1 (by omega)
theorem down_all {j hi : Nat} {p : Nat → Prop} (_ : ∀ c, j ≤ c → c < hi → p c) (m : Nat) (k : ∀ c, m ≤ c → c < hi → p c) : ∀ c, m ≤ c → c < hi → p c := k
section
variable {d : Array Mem} {a m b h c mid : Nat}
theorem le_sorted {lo hi : Nat} (hs : SortedIn bt lo hi d) {i j : Nat} (h1 : lo ≤ i) (h2 : i ≤ j) (h3 : j < hi) : bt d[j]! d[i]! = false := by
 rcases Nat.lt_or_ge i j with h | h
 ·exact hs i j h1 h h3
 ·rw [show i = j by omega]; exact swo_bt.irrefl _
theorem up_1 (hs : SortedIn bt m b d) (h1 : m ≤ c) (h2 : c ≤ h) (h3 : h < b) (hb : bt d[h]! d[a]! = true) : bt d[c]! d[a]! = true := lt_down swo_bt (le_sorted hs h1 h2 h3) hb
theorem down_1 (hs : SortedIn bt m b d) (h1 : m ≤ h) (h2 : h ≤ c) (h3 : c < b) (hb : bt d[h]! d[a]! = false) : bt d[c]! d[a]! = false := swo_bt.ntrans _ _ _ (le_sorted hs h1 h2 h3) hb
theorem up_2 (hs : SortedIn bt a m d) (h1 : a ≤ c) (h2 : c ≤ h) (h3 : h < m) (hb : bt d[m]! d[h]! = false) : bt d[m]! d[c]! = false := swo_bt.ntrans _ _ _ hb (le_sorted hs h1 h2 h3)
theorem down_2 (hs : SortedIn bt a m d) (h1 : a ≤ h) (h2 : h ≤ c) (h3 : c < m) (hb : bt d[m]! d[h]! = true) : bt d[m]! d[c]! = true := lt_up swo_bt (le_sorted hs h1 h2 h3) hb
theorem search_mono' (hL : SortedIn bt a m d) (hR : SortedIn bt m b d) (h1 : a ≤ h) (h2 : h ≤ c) (h3 : c < m) (h4 : m ≤ mid + m - 1 - c) (h5 : mid + m - 1 - h < b) (hb : bt d[mid + m - 1 - h]! d[h]! = true) : bt d[mid + m - 1 - c]! d[c]! = true :=
 lt_down swo_bt (le_sorted hR h4 (by omega) h5) (lt_up swo_bt (le_sorted hL h1 h2 h3) hb)
theorem up_3 (hL : SortedIn bt a m d) (hR : SortedIn bt m b d) (h1 : a ≤ c) (h2 : c ≤ h) (h3 : h < m) (h4 : m ≤ mid + m - 1 - h) (h5 : mid + m - 1 - c < b) (hb : bt d[mid + m - 1 - h]! d[h]! = false) : bt d[mid + m - 1 - c]! d[c]! = false := by
 cases hc : bt d[mid + m - 1 - c]! d[c]! with
 | false => rfl
 | true => rw [search_mono' hL hR h1 h2 h3 h4 h5 hc] at hb; cases hb
theorem sort_edge {s : Nat} (h1 : SortedIn bt a s d) (h2 : SortedIn bt s mid d) (h : s ≤ a ∨ mid ≤ s) : SortedIn bt a mid d := by
 rcases h with h | h
 ·exact sortSub h2 h (Nat.le_refl _)
 ·exact sortSub h1 (Nat.le_refl _) h
end
set_option maxHeartbeats 4000000 in
theorem sym_step {gl : Nat → Obj} (N : Nat) (hih : SymOk gl N) (b0 cap : Nat) (d : Array Mem) (a m b : Nat) (hN : b - a ≤ N + 1) (ham : a < m) (hmb : m < b) (hb : b ≤ d.size) (hsz : d.size ≤ 4611686018427387) (hcap : d.size ≤ cap) (hSL : SortedIn bt a m d) (hSR : SortedIn bt m b d) : Spec (cx gl) 182 [.slice (some ⟨b0, 0, none⟩) d.size cap, .int .i64 ((a : Nat) : Int), .int .i64 ((m : Nat) : Int), .int .i64 ((b : Nat) : Int), .func (.func 84) #[] #[]] (fun _ _ => True) [ownS 76 3 (.slice (some ⟨b0, 0, none⟩) d.size cap) d.size (rc (d).toList)] (fun u rs => u = .tuple #[] ∧ ∃ d' : Array Mem, (PermIn a b d d' ∧ SortedIn bt a b d') ∧ rs = [ownS 76 3 (.slice (some ⟨b0, 0, none⟩) d.size cap) d.size (rc (d').toList)]) := by
 have hrec : ∀ (e : Array Mem), e.size = d.size → ∀ a m b, b - a ≤ N → a < m → m < b → b ≤ d.size → SortedIn bt a m e → SortedIn bt m b e → Spec (cx gl) 182 [.slice (some ⟨b0, 0, none⟩) d.size cap, .int .i64 ((a : Nat) : Int), .int .i64 ((m : Nat) : Int), .int .i64 ((b : Nat) : Int), .func (.func 84) #[] #[]] (fun _ _ => True) [ownS 76 3 (.slice (some ⟨b0, 0, none⟩) d.size cap) d.size (rc (e).toList)] (fun u rs => u = .tuple #[] ∧ ∃ d' : Array Mem, (PermIn a b e d' ∧ SortedIn bt a b d') ∧ rs = [ownS 76 3 (.slice (some ⟨b0, 0, none⟩) d.size cap) d.size (rc (d').toList)]) := fun e he a m b h1 h2 h3 h4 h5 h6 => by have h9 := hih b0 cap e a m b h1 h2 h3 (by omega) (by omega) (by omega) h5 h6; rw [he] at h9; exact h9
 refine Spec.enter (C := cx gl) Tryz.func182 rfl 220 rfl rfl fun w0 h0 hsep hsub hpre => ?_
 show St (cx gl) _ [(0, .slice (some ⟨b0, 0, none⟩) d.size cap), (1, .int .i64 ((a : Nat) : Int)), (2, .int .i64 ((m : Nat) : Int)), (3, .int .i64 ((b : Nat) : Int)), (4, .func (.func 84) #[] #[])] _ _
 refine R_seq ?_
 refine R_seq ?_
 refine R_region ?_
 refine L_val rfl rfl rfl (OpP.v (P_move rfl rfl)) ?_
 refine L_val rfl rfl rfl (OpP.v (P_move rfl rfl)) ?_
 first | (refine L_val rfl rfl rfl (OpP.v (P_subN rfl rfl rfl (by simp only [fits]; omega))) ?_) | (refine L_val rfl rfl rfl (OpP.v (P_sub rfl rfl rfl)) ?_)
 refine E_as (t := 27) (v' := .int .i64 ((m - a : Nat) : Int)) rfl (by congr 1; omega) ?_
 refine L_val rfl rfl rfl (OpP.v (P_eql rfl rfl rfl)) ?_
 refine L_nil ?_
 refine St.env (.cons (t := 0) rfl (.cons (t := 1) rfl (.cons (t := 2) rfl (.cons (t := 3) rfl (.cons (t := 4) rfl (.cons (t := 28) rfl .nil)))))) ?_
 refine Q_then ?_
 refine R_condP rfl (fun h1 => ?_) (fun h1 => ?_)
 ·skip
  have hm1 : m = a + 1 := by omega
  have hga := arr_get (d := d) (i := a) (by omega)
  refine R_seq ?_
  refine R_region ?_
  refine L_val rfl rfl rfl (OpP.v (P_move rfl rfl)) ?_
  refine L_val rfl rfl rfl (OpP.v (P_assign rfl rfl)) ?_
  refine L_nil ?_
  refine St.env (.cons (t := 0) rfl (.cons (t := 1) rfl (.cons (t := 2) rfl (.cons (t := 3) rfl (.cons (t := 4) rfl (.cons (t := 10) rfl .nil)))))) ?_
  refine Q_then ?_
  refine R_seq ?_
  refine R_region ?_
  refine L_val rfl rfl rfl (OpP.v (P_move rfl rfl)) ?_
  refine L_val rfl rfl rfl (OpP.v (P_assign rfl rfl)) ?_
  refine L_nil ?_
  refine St.env (.cons (t := 0) rfl (.cons (t := 1) rfl (.cons (t := 2) rfl (.cons (t := 3) rfl (.cons (t := 4) rfl (.cons (t := 10) rfl (.cons (t := 11) rfl .nil))))))) ?_
  refine Q_then ?_
  refine R_seq ?_
  refine R_block ?_
  refine R_loopE (G := Nat × Nat) (.cons (t := 0) rfl (.cons (t := 1) rfl (.cons (t := 2) rfl (.cons (t := 3) rfl (.cons (t := 4) rfl .nil))))) (fun g => [(10, .int .i64 ((g.1 : Nat) : Int)), (11, .int .i64 ((g.2 : Nat) : Int))]) (fun _ => _) (fun g => m ≤ g.1 ∧ g.1 ≤ g.2 ∧ g.2 ≤ b ∧ (∀ c, m ≤ c → c < g.1 → bt d[c]! d[a]! = true) ∧ (∀ c, g.2 ≤ c → c < b → bt d[c]! d[a]! = false)) (fun g => g.2 - g.1) (m, b) (by show m ≤ (m) ∧ (m) ≤ (b) ∧ (b) ≤ b ∧ (∀ c, m ≤ c → c < (m) → bt d[c]! d[a]! = true) ∧ (∀ c, (b) ≤ c → c < b → bt d[c]! d[a]! = false); exact ⟨Nat.le_refl _, by omega, Nat.le_refl _, fun c _ _ => by omega, fun c _ _ => by omega⟩) (by repeat (first | exact .nil | refine .cons rfl ?_ | refine .consE rfl (by first | rfl | (congr 1; omega) | (congr 1; push_cast; omega)) ?_)) (Weak.refl _) ?_
  rintro ⟨i, j⟩ hinv
  replace hinv : m ≤ i ∧ i ≤ j ∧ j ≤ b ∧ (∀ c, m ≤ c → c < i → bt d[c]! d[a]! = true) ∧ (∀ c, j ≤ c → c < b → bt d[c]! d[a]! = false) := hinv
  show St (cx gl) _ ((10, .int .i64 ((i : Nat) : Int)) :: (11, .int .i64 ((j : Nat) : Int)) :: _) _ _
  obtain ⟨hmi, hij, hjb, hl, hr⟩ := hinv
  refine R_seq ?_
  refine R_seq ?_
  refine R_region ?_
  refine L_val rfl rfl rfl (OpP.v (P_move rfl rfl)) ?_
  refine L_val rfl rfl rfl (OpP.v (P_move rfl rfl)) ?_
  refine L_val rfl rfl rfl (OpP.v (P_lss rfl rfl rfl)) ?_
  refine L_nil ?_
  refine Q_then ?_
  refine R_condP rfl (fun hlt => ?_) (fun hlt => ?_)
  ·skip
   have hgh := arr_get (d := d) (i := (i + j) / 2) (by omega)
   refine R_skip ?_
   refine Q_then ?_
   refine R_block ?_
   refine R_seq ?_
   refine R_region ?_
   refine L_val rfl rfl rfl (OpP.v (P_move rfl rfl)) ?_
   refine L_val rfl rfl rfl (OpP.v (P_move rfl rfl)) ?_
   first | (refine L_val rfl rfl rfl (OpP.v (P_addN rfl rfl rfl (by simp only [fits]; omega))) ?_) | (refine L_val rfl rfl rfl (OpP.v (P_add rfl rfl rfl)) ?_)
   first | (refine L_val rfl rfl rfl (OpP.v (P_convN rfl ty_int_3 ty_int_133 rfl (by simp only [fits]; omega))) ?_) | (refine L_val rfl rfl rfl (OpP.v (P_conv rfl ty_int_3 ty_int_133 rfl)) ?_)
   refine L_val rfl rfl rfl (OpP.v (P_shr rfl rfl rfl (by omega))) ?_
   refine E_as (t := 38) (v' := .int .u64 (((i + j) / 2 : Nat) : Int)) rfl (by have h9 := half_nat (i + j); push_cast at h9 ⊢; rw [h9]) ?_
   first | (refine L_val rfl rfl rfl (OpP.v (P_convN rfl ty_int_133 ty_int_3 rfl (by simp only [fits]; omega))) ?_) | (refine L_val rfl rfl rfl (OpP.v (P_conv rfl ty_int_133 ty_int_3 rfl)) ?_)
   refine L_val rfl rfl rfl (OpP.v (P_assign rfl rfl)) ?_
   refine L_nil ?_
   refine Q_then ?_
   refine R_seq ?_
   refine R_open [(0, 0), (1, 0), (2, 0), (3, 0), (4, 1), (5, 0), (6, 0), (7, 0), (8, 1), (9, 2), (10, 0)] mixed (by kernel_rfl) (QOk.then (QOk.block (QOk.then (QOk.block (QOk.then (QOk.then QOk.body)))))) ?_
   refine O_pure rfl rfl rfl rfl (P_move rfl rfl) ?_
   refine O_pure rfl rfl rfl rfl (P_move rfl rfl) ?_
   refine O_pure rfl rfl rfl rfl (P_move rfl rfl) ?_
   refine O_pure rfl rfl rfl rfl (P_ixs ((i + j) / 2) rfl ty_sl_68 rfl rfl (by first | rfl | omega) (by omega)) ?_
   refine O_val rfl rfl rfl rfl (V_loadAgg rfl rfl ty_ag_76 (rds_rc (rds_own .h0) hgh) (rfl)) ?_
   refine O_pure rfl rfl rfl rfl (P_move rfl rfl) ?_
   refine O_pure rfl rfl rfl rfl (P_move rfl rfl) ?_
   refine O_pure rfl rfl rfl rfl (P_ixs (a) rfl ty_sl_68 rfl rfl (by first | rfl | omega) (by omega)) ?_
   refine O_val rfl rfl rfl rfl (V_loadAgg rfl rfl ty_ag_76 (rds_rc (rds_own .h0) hga) (rfl)) ?_
   refine O_keep rfl rfl (W_callFV (fi := []) (ca := []) rfl rfl rfl rfl rfl rfl fn_ca_84 (seats1_ok (d[(i + j) / 2]!) (d[a]!)) (fun _ _ => trivial) (K_keep (Weak.refl _) ?_))
   refine O_pure rfl rfl rfl rfl (P_lss rfl rfl rfl) ?_
   refine E_as (t := 50) (v' := .bool (bt (d[(i + j) / 2]!) (d[a]!))) rfl (by rw [← ltOf_bt]; rfl) ?_
   refine O_nil ?_
   refine Q_then ?_
   refine R_cond rfl (fun hb => ?_) (fun hb => ?_)
   ·skip
    refine R_region ?_
    refine L_val rfl rfl rfl (OpP.v (P_move rfl rfl)) ?_
    first | (refine L_val rfl rfl rfl (OpP.v (P_addN rfl rfl rfl (by simp only [fits]; omega))) ?_) | (refine L_val rfl rfl rfl (OpP.v (P_add rfl rfl rfl)) ?_)
    refine L_val rfl rfl rfl (OpP.v (P_assign rfl rfl)) ?_
    refine L_nil ?_
    refine Q_block ?_
    exact Q_round ((i + j) / 2 + 1, j) (by show m ≤ ((i + j) / 2 + 1) ∧ ((i + j) / 2 + 1) ≤ (j) ∧ (j) ≤ b ∧ (∀ c, m ≤ c → c < ((i + j) / 2 + 1) → bt d[c]! d[a]! = true) ∧ (∀ c, (j) ≤ c → c < b → bt d[c]! d[a]! = false); exact ⟨by omega, by omega, hjb, up_all hl ((i + j) / 2) fun c hc1 hc2 => up_1 hSR (by omega) hc2 (by omega) hb, hr⟩) (by show j - ((i + j) / 2 + 1) < j - i; omega) (by repeat (first | exact .nil | refine .cons rfl ?_ | refine .consE rfl (by first | rfl | (congr 1; omega) | (congr 1; push_cast; omega)) ?_)) (Weak.refl _)
   ·skip
    refine R_region ?_
    refine L_val rfl rfl rfl (OpP.v (P_move rfl rfl)) ?_
    refine L_val rfl rfl rfl (OpP.v (P_assign rfl rfl)) ?_
    refine L_nil ?_
    refine Q_block ?_
    exact Q_round (i, (i + j) / 2) (by show m ≤ (i) ∧ (i) ≤ ((i + j) / 2) ∧ ((i + j) / 2) ≤ b ∧ (∀ c, m ≤ c → c < (i) → bt d[c]! d[a]! = true) ∧ (∀ c, ((i + j) / 2) ≤ c → c < b → bt d[c]! d[a]! = false); exact ⟨hmi, by omega, by omega, hl, down_all hr ((i + j) / 2) fun c hc1 hc2 => down_1 hSR (by omega) hc1 (by omega) hb⟩) (by show (i + j) / 2 - i < j - i; omega) (by repeat (first | exact .nil | refine .cons rfl ?_ | refine .consE rfl (by first | rfl | (congr 1; omega) | (congr 1; push_cast; omega)) ?_)) (Weak.refl _)
  ·skip
   have hin : i = j := by omega
   rw [← hin] at hr
   refine R_exit ?_
   refine Q_then_exit ?_
   refine Q_then_exit ?_
   refine Q_block_eq ?_
   refine St.env (.cons (t := 0) rfl (.cons (t := 1) rfl (.cons (t := 2) rfl (.cons (t := 3) rfl (.cons (t := 4) rfl (.cons (t := 10) rfl .nil)))))) ?_
   refine Q_then ?_
   refine R_seq ?_
   refine R_seq ?_
   refine R_region ?_
   refine L_val rfl rfl rfl (OpP.v (P_move rfl rfl)) ?_
   refine L_val rfl rfl rfl (OpP.v (P_assign rfl rfl)) ?_
   refine L_nil ?_
   refine St.env (.cons (t := 0) rfl (.cons (t := 1) rfl (.cons (t := 2) rfl (.cons (t := 3) rfl (.cons (t := 4) rfl (.cons (t := 10) rfl (.cons (t := 13) rfl .nil))))))) ?_
   refine Q_then ?_
   refine R_block ?_
   refine R_loopE (G := Nat) (.cons (t := 0) rfl (.cons (t := 1) rfl (.cons (t := 2) rfl (.cons (t := 3) rfl (.cons (t := 4) rfl (.cons (t := 10) rfl .nil)))))) (fun g => [(13, .int .i64 ((a + g : Nat) : Int))]) (fun g => [ownS 76 3 (.slice (some ⟨b0, 0, none⟩) d.size cap) d.size (rc (shR d a g).toList)]) (fun g => g ≤ i - 1 - a) (fun g => i - 1 - a - g) (0) (Nat.zero_le _) (by repeat (first | exact .nil | refine .cons rfl ?_ | refine .consE rfl (by first | rfl | (congr 1; omega) | (congr 1; push_cast; omega)) ?_)) (Weak.refl _) ?_
   intro n hinv
   replace hinv : n ≤ i - 1 - a := hinv
   show St (cx gl) _ ((13, .int .i64 ((a + n : Nat) : Int)) :: _) [ownS 76 3 (.slice (some ⟨b0, 0, none⟩) d.size cap) d.size (rc (shR d a n).toList)] _
   refine R_seq ?_
   refine R_seq ?_
   refine R_region ?_
   refine L_val rfl rfl rfl (OpP.v (P_move rfl rfl)) ?_
   refine L_val rfl rfl rfl (OpP.v (P_move rfl rfl)) ?_
   first | (refine L_val rfl rfl rfl (OpP.v (P_subN rfl rfl rfl (by simp only [fits]; omega))) ?_) | (refine L_val rfl rfl rfl (OpP.v (P_sub rfl rfl rfl)) ?_)
   refine E_as (t := 57) (v' := .int .i64 ((i - 1 : Nat) : Int)) rfl (by congr 1; omega) ?_
   refine L_val rfl rfl rfl (OpP.v (P_lss rfl rfl rfl)) ?_
   refine L_nil ?_
   refine Q_then ?_
   refine R_condP rfl (fun hlt2 => ?_) (fun hlt2 => ?_)
   ·skip
    have hes := shR_size d a n
    have hgj := arr_get (d := shR d a n) (i := a + n + 1) (by omega)
    have hgi := arr_get (d := shR d a n) (i := a + n) (by omega)
    refine R_skip ?_
    refine Q_then ?_
    refine R_seq ?_
    refine R_block ?_
    refine R_open [(0, 0), (1, 0), (2, 0), (3, 0), (4, 0), (5, 0), (6, 0), (7, 0), (8, 0), (9, 1), (10, 0), (11, 0), (12, 0), (13, 1), (14, 0), (15, 3), (16, 0), (17, 3)] mixed (by kernel_rfl) (QOk.block (QOk.then (QOk.then (QOk.block (QOk.then (QOk.then QOk.body)))))) ?_
    refine O_pure rfl rfl rfl rfl (P_move rfl rfl) ?_
    refine O_pure rfl rfl rfl rfl (P_move rfl rfl) ?_
    refine O_pure rfl rfl rfl rfl (P_move rfl rfl) ?_
    refine O_pure rfl rfl rfl rfl (P_move rfl rfl) ?_
    first | (refine O_pure rfl rfl rfl rfl (P_addN rfl rfl rfl (by simp only [fits]; omega)) ?_) | (refine O_pure rfl rfl rfl rfl (P_add rfl rfl rfl) ?_)
    refine O_pure rfl rfl rfl rfl (P_move rfl rfl) ?_
    refine O_pure rfl rfl rfl rfl (P_move rfl rfl) ?_
    first | (refine O_pure rfl rfl rfl rfl (P_addN rfl rfl rfl (by simp only [fits]; omega)) ?_) | (refine O_pure rfl rfl rfl rfl (P_add rfl rfl rfl) ?_)
    refine O_pure rfl rfl rfl rfl (P_ixs (a + n + 1) rfl ty_sl_68 rfl rfl (by first | rfl | omega) (by omega)) ?_
    refine O_val rfl rfl rfl rfl (V_loadAgg rfl rfl ty_ag_76 (rds_rc (rds_own .h0) hgj) (rfl)) ?_
    refine O_pure rfl rfl rfl rfl (P_move rfl rfl) ?_
    refine O_pure rfl rfl rfl rfl (P_move rfl rfl) ?_
    refine O_pure rfl rfl rfl rfl (P_ixs (a + n) rfl ty_sl_68 rfl rfl (by first | rfl | omega) (by omega)) ?_
    refine O_val rfl rfl rfl rfl (V_loadAgg rfl rfl ty_ag_76 (rds_rc (rds_own .h0) hgi) (rfl)) ?_
    refine O_pure rfl rfl rfl rfl (P_ixs (a + n) rfl ty_sl_68 rfl rfl (by first | rfl | omega) (by omega)) ?_
    refine O_new rfl rfl (W_storeOwn (T := 76) (sz := 3) (n := d.size) (c := cap) (cs := rc (shR d a n).toList) rfl rfl rfl rfl ty_ag_76 rfl (Mem.cells_one _) .h0 (by rw [rc_length]; simp only [Array.length_toList]; show 0 + (a + n) * 3 + 3 ≤ _ * 3; omega) ?_)
    refine St.res (rs' := [ownS 76 3 (.slice (some ⟨b0, 0, none⟩) d.size cap) d.size (rc ((shR d a n).toList.set (a + n) (shR d a n)[a + n + 1]!))]) ((by have h9 := rc_splice (l := (shR d a n).toList) (i := a + n) (shR d a n)[a + n + 1]! (by simp only [Array.length_toList]; omega); rw [show Rec.n Mem = 3 from rfl] at h9; rw [Nat.zero_add, h9]; exact Weak.refl _)) ?_
    refine K_new ?_
    refine O_pure rfl rfl rfl rfl (P_ixs (a + n + 1) rfl ty_sl_68 rfl rfl (by first | rfl | omega) (by omega)) ?_
    refine O_new rfl rfl (W_storeOwn (T := 76) (sz := 3) (n := d.size) (c := cap) (cs := rc ((shR d a n).toList.set (a + n) (shR d a n)[a + n + 1]!)) rfl rfl rfl rfl ty_ag_76 rfl (Mem.cells_one _) .h0 (by rw [rc_length]; rw [List.length_set]; simp only [Array.length_toList]; show 0 + (a + n + 1) * 3 + 3 ≤ _ * 3; omega) ?_)
    refine St.res (rs' := [ownS 76 3 (.slice (some ⟨b0, 0, none⟩) d.size cap) d.size (rc (swp (shR d a n) (a + n) (a + n + 1)).toList)]) ((by have h9 := rc_splice (l := (shR d a n).toList.set (a + n) (shR d a n)[a + n + 1]!) (i := a + n + 1) (shR d a n)[a + n]! (by rw [List.length_set]; simp only [Array.length_toList]; omega); rw [show Rec.n Mem = 3 from rfl] at h9; rw [Nat.zero_add, h9, ← swp_toList]; exact Weak.refl _)) ?_
    refine K_new ?_
    refine O_nil ?_
    refine Q_block ?_
    refine Q_then ?_
    refine R_region ?_
    refine L_val rfl rfl rfl (OpP.v (P_move rfl rfl)) ?_
    first | (refine L_val rfl rfl rfl (OpP.v (P_addN rfl rfl rfl (by simp only [fits]; omega))) ?_) | (refine L_val rfl rfl rfl (OpP.v (P_add rfl rfl rfl)) ?_)
    refine L_val rfl rfl rfl (OpP.v (P_assign rfl rfl)) ?_
    refine L_nil ?_
    exact Q_round (n + 1) (by omega) (by show i - 1 - a - (n + 1) < i - 1 - a - n; omega) (by repeat (first | exact .nil | refine .cons rfl ?_ | refine .consE rfl (by first | rfl | (congr 1; omega) | (congr 1; push_cast; omega)) ?_)) (Weak.refl _)
   ·skip
    have hn : n = i - 1 - a := by omega
    have hsg := fun k => shR_get d a n k (by omega)
    refine R_exit ?_
    refine Q_then_exit ?_
    refine Q_then_exit ?_
    refine Q_block_eq ?_
    refine St.env (.cons (t := 0) rfl (.cons (t := 1) rfl (.cons (t := 2) rfl (.cons (t := 3) rfl (.cons (t := 4) rfl .nil))))) ?_
    refine Q_then ?_
    refine R_ret ?_
    refine Q_then_ret ?_
    exact R_end (rs2 := _) rfl rfl (.nil) (⟨rfl, _, ⟨shR_perm d a a b (Nat.le_refl _) (by omega) n (by omega), merge_one swo_bt (i := i) (by omega) (by omega) (by rw [← hm1]; exact hSR) (fun c h5 h6 => hl c (by omega) h6) hr (fun k h5 h6 => by rw [hsg, if_pos ⟨h5, by omega⟩]) (by rw [hsg, if_neg (by omega), if_pos (by omega)]) (fun k h5 h6 => by rw [hsg, if_neg (by omega), if_neg (by omega)])⟩, rfl⟩) (Weak.refl _)
 ·skip
  have h1 : a + 1 < m := by omega
  refine R_skip ?_
  refine Q_then ?_
  refine R_seq ?_
  refine R_seq ?_
  refine R_region ?_
  refine L_val rfl rfl rfl (OpP.v (P_move rfl rfl)) ?_
  refine L_val rfl rfl rfl (OpP.v (P_move rfl rfl)) ?_
  first | (refine L_val rfl rfl rfl (OpP.v (P_subN rfl rfl rfl (by simp only [fits]; omega))) ?_) | (refine L_val rfl rfl rfl (OpP.v (P_sub rfl rfl rfl)) ?_)
  refine E_as (t := 79) (v' := .int .i64 ((b - m : Nat) : Int)) rfl (by congr 1; omega) ?_
  refine L_val rfl rfl rfl (OpP.v (P_eql rfl rfl rfl)) ?_
  refine L_nil ?_
  refine St.env (.cons (t := 0) rfl (.cons (t := 1) rfl (.cons (t := 2) rfl (.cons (t := 3) rfl (.cons (t := 4) rfl (.cons (t := 80) rfl .nil)))))) ?_
  refine Q_then ?_
  refine R_condP rfl (fun h2 => ?_) (fun h2 => ?_)
  ·skip
   have hb1 : b = m + 1 := by omega
   have hga := arr_get (d := d) (i := m) (by omega)
   refine R_seq ?_
   refine R_region ?_
   refine L_val rfl rfl rfl (OpP.v (P_move rfl rfl)) ?_
   refine L_val rfl rfl rfl (OpP.v (P_assign rfl rfl)) ?_
   refine L_nil ?_
   refine St.env (.cons (t := 0) rfl (.cons (t := 1) rfl (.cons (t := 2) rfl (.cons (t := 3) rfl (.cons (t := 4) rfl (.cons (t := 14) rfl .nil)))))) ?_
   refine Q_then ?_
   refine R_seq ?_
   refine R_region ?_
   refine L_val rfl rfl rfl (OpP.v (P_move rfl rfl)) ?_
   refine L_val rfl rfl rfl (OpP.v (P_assign rfl rfl)) ?_
   refine L_nil ?_
   refine St.env (.cons (t := 0) rfl (.cons (t := 1) rfl (.cons (t := 2) rfl (.cons (t := 3) rfl (.cons (t := 4) rfl (.cons (t := 14) rfl (.cons (t := 15) rfl .nil))))))) ?_
   refine Q_then ?_
   refine R_seq ?_
   refine R_block ?_
   refine R_loopE (G := Nat × Nat) (.cons (t := 0) rfl (.cons (t := 1) rfl (.cons (t := 2) rfl (.cons (t := 3) rfl (.cons (t := 4) rfl .nil))))) (fun g => [(14, .int .i64 ((g.1 : Nat) : Int)), (15, .int .i64 ((g.2 : Nat) : Int))]) (fun _ => _) (fun g => a ≤ g.1 ∧ g.1 ≤ g.2 ∧ g.2 ≤ m ∧ (∀ c, a ≤ c → c < g.1 → bt d[m]! d[c]! = false) ∧ (∀ c, g.2 ≤ c → c < m → bt d[m]! d[c]! = true)) (fun g => g.2 - g.1) (a, m) (by show a ≤ (a) ∧ (a) ≤ (m) ∧ (m) ≤ m ∧ (∀ c, a ≤ c → c < (a) → bt d[m]! d[c]! = false) ∧ (∀ c, (m) ≤ c → c < m → bt d[m]! d[c]! = true); exact ⟨Nat.le_refl _, by omega, Nat.le_refl _, fun c _ _ => by omega, fun c _ _ => by omega⟩) (by repeat (first | exact .nil | refine .cons rfl ?_ | refine .consE rfl (by first | rfl | (congr 1; omega) | (congr 1; push_cast; omega)) ?_)) (Weak.refl _) ?_
   rintro ⟨i, j⟩ hinv
   replace hinv : a ≤ i ∧ i ≤ j ∧ j ≤ m ∧ (∀ c, a ≤ c → c < i → bt d[m]! d[c]! = false) ∧ (∀ c, j ≤ c → c < m → bt d[m]! d[c]! = true) := hinv
   show St (cx gl) _ ((14, .int .i64 ((i : Nat) : Int)) :: (15, .int .i64 ((j : Nat) : Int)) :: _) _ _
   obtain ⟨hmi, hij, hjb, hl, hr⟩ := hinv
   refine R_seq ?_
   refine R_seq ?_
   refine R_region ?_
   refine L_val rfl rfl rfl (OpP.v (P_move rfl rfl)) ?_
   refine L_val rfl rfl rfl (OpP.v (P_move rfl rfl)) ?_
   refine L_val rfl rfl rfl (OpP.v (P_lss rfl rfl rfl)) ?_
   refine L_nil ?_
   refine Q_then ?_
   refine R_condP rfl (fun hlt => ?_) (fun hlt => ?_)
   ·skip
    have hgh := arr_get (d := d) (i := (i + j) / 2) (by omega)
    refine R_skip ?_
    refine Q_then ?_
    refine R_block ?_
    refine R_seq ?_
    refine R_region ?_
    refine L_val rfl rfl rfl (OpP.v (P_move rfl rfl)) ?_
    refine L_val rfl rfl rfl (OpP.v (P_move rfl rfl)) ?_
    first | (refine L_val rfl rfl rfl (OpP.v (P_addN rfl rfl rfl (by simp only [fits]; omega))) ?_) | (refine L_val rfl rfl rfl (OpP.v (P_add rfl rfl rfl)) ?_)
    first | (refine L_val rfl rfl rfl (OpP.v (P_convN rfl ty_int_3 ty_int_133 rfl (by simp only [fits]; omega))) ?_) | (refine L_val rfl rfl rfl (OpP.v (P_conv rfl ty_int_3 ty_int_133 rfl)) ?_)
    refine L_val rfl rfl rfl (OpP.v (P_shr rfl rfl rfl (by omega))) ?_
    refine E_as (t := 90) (v' := .int .u64 (((i + j) / 2 : Nat) : Int)) rfl (by have h9 := half_nat (i + j); push_cast at h9 ⊢; rw [h9]) ?_
    first | (refine L_val rfl rfl rfl (OpP.v (P_convN rfl ty_int_133 ty_int_3 rfl (by simp only [fits]; omega))) ?_) | (refine L_val rfl rfl rfl (OpP.v (P_conv rfl ty_int_133 ty_int_3 rfl)) ?_)
    refine L_val rfl rfl rfl (OpP.v (P_assign rfl rfl)) ?_
    refine L_nil ?_
    refine Q_then ?_
    refine R_seq ?_
    refine R_open [(0, 0), (1, 0), (2, 0), (3, 0), (4, 1), (5, 0), (6, 0), (7, 0), (8, 1), (9, 2), (10, 0), (11, 0)] mixed (by kernel_rfl) (QOk.then (QOk.block (QOk.then (QOk.block (QOk.then (QOk.then QOk.body)))))) ?_
    refine O_pure rfl rfl rfl rfl (P_move rfl rfl) ?_
    refine O_pure rfl rfl rfl rfl (P_move rfl rfl) ?_
    refine O_pure rfl rfl rfl rfl (P_move rfl rfl) ?_
    refine O_pure rfl rfl rfl rfl (P_ixs (m) rfl ty_sl_68 rfl rfl (by first | rfl | omega) (by omega)) ?_
    refine O_val rfl rfl rfl rfl (V_loadAgg rfl rfl ty_ag_76 (rds_rc (rds_own .h0) hga) (rfl)) ?_
    refine O_pure rfl rfl rfl rfl (P_move rfl rfl) ?_
    refine O_pure rfl rfl rfl rfl (P_move rfl rfl) ?_
    refine O_pure rfl rfl rfl rfl (P_ixs ((i + j) / 2) rfl ty_sl_68 rfl rfl (by first | rfl | omega) (by omega)) ?_
    refine O_val rfl rfl rfl rfl (V_loadAgg rfl rfl ty_ag_76 (rds_rc (rds_own .h0) hgh) (rfl)) ?_
    refine O_keep rfl rfl (W_callFV (fi := []) (ca := []) rfl rfl rfl rfl rfl rfl fn_ca_84 (seats1_ok (d[m]!) (d[(i + j) / 2]!)) (fun _ _ => trivial) (K_keep (Weak.refl _) ?_))
    refine O_pure rfl rfl rfl rfl (P_lss rfl rfl rfl) ?_
    refine E_as (t := 102) (v' := .bool (bt (d[m]!) (d[(i + j) / 2]!))) rfl (by rw [← ltOf_bt]; rfl) ?_
    refine O_pure rfl rfl rfl rfl (P_not rfl rfl) ?_
    refine O_nil ?_
    refine Q_then ?_
    refine R_cond rfl (fun hb => ?_) (fun hb => ?_)
    ·skip
     have hb : bt d[m]! d[(i + j) / 2]! = false := by simpa using hb
     refine R_region ?_
     refine L_val rfl rfl rfl (OpP.v (P_move rfl rfl)) ?_
     first | (refine L_val rfl rfl rfl (OpP.v (P_addN rfl rfl rfl (by simp only [fits]; omega))) ?_) | (refine L_val rfl rfl rfl (OpP.v (P_add rfl rfl rfl)) ?_)
     refine L_val rfl rfl rfl (OpP.v (P_assign rfl rfl)) ?_
     refine L_nil ?_
     refine Q_block ?_
     exact Q_round ((i + j) / 2 + 1, j) (by show a ≤ ((i + j) / 2 + 1) ∧ ((i + j) / 2 + 1) ≤ (j) ∧ (j) ≤ m ∧ (∀ c, a ≤ c → c < ((i + j) / 2 + 1) → bt d[m]! d[c]! = false) ∧ (∀ c, (j) ≤ c → c < m → bt d[m]! d[c]! = true); exact ⟨by omega, by omega, hjb, up_all hl ((i + j) / 2) fun c hc1 hc2 => up_2 hSL hc1 hc2 (by omega) hb, hr⟩) (by show j - ((i + j) / 2 + 1) < j - i; omega) (by repeat (first | exact .nil | refine .cons rfl ?_ | refine .consE rfl (by first | rfl | (congr 1; omega) | (congr 1; push_cast; omega)) ?_)) (Weak.refl _)
    ·skip
     have hb : bt d[m]! d[(i + j) / 2]! = true := by simpa using hb
     refine R_region ?_
     refine L_val rfl rfl rfl (OpP.v (P_move rfl rfl)) ?_
     refine L_val rfl rfl rfl (OpP.v (P_assign rfl rfl)) ?_
     refine L_nil ?_
     refine Q_block ?_
     exact Q_round (i, (i + j) / 2) (by show a ≤ (i) ∧ (i) ≤ ((i + j) / 2) ∧ ((i + j) / 2) ≤ m ∧ (∀ c, a ≤ c → c < (i) → bt d[m]! d[c]! = false) ∧ (∀ c, ((i + j) / 2) ≤ c → c < m → bt d[m]! d[c]! = true); exact ⟨hmi, by omega, by omega, hl, down_all hr ((i + j) / 2) fun c hc1 hc2 => down_2 hSL (by omega) hc1 (by omega) hb⟩) (by show (i + j) / 2 - i < j - i; omega) (by repeat (first | exact .nil | refine .cons rfl ?_ | refine .consE rfl (by first | rfl | (congr 1; omega) | (congr 1; push_cast; omega)) ?_)) (Weak.refl _)
   ·skip
    have hin : i = j := by omega
    rw [← hin] at hr
    refine R_exit ?_
    refine Q_then_exit ?_
    refine Q_then_exit ?_
    refine Q_block_eq ?_
    refine St.env (.cons (t := 0) rfl (.cons (t := 1) rfl (.cons (t := 2) rfl (.cons (t := 3) rfl (.cons (t := 4) rfl (.cons (t := 14) rfl .nil)))))) ?_
    refine Q_then ?_
    refine R_seq ?_
    refine R_seq ?_
    refine R_region ?_
    refine L_val rfl rfl rfl (OpP.v (P_move rfl rfl)) ?_
    refine L_val rfl rfl rfl (OpP.v (P_assign rfl rfl)) ?_
    refine L_nil ?_
    refine St.env (.cons (t := 0) rfl (.cons (t := 1) rfl (.cons (t := 2) rfl (.cons (t := 3) rfl (.cons (t := 4) rfl (.cons (t := 14) rfl (.cons (t := 17) rfl .nil))))))) ?_
    refine Q_then ?_
    refine R_block ?_
    refine R_loopE (G := Nat) (.cons (t := 0) rfl (.cons (t := 1) rfl (.cons (t := 2) rfl (.cons (t := 3) rfl (.cons (t := 4) rfl (.cons (t := 14) rfl .nil)))))) (fun g => [(17, .int .i64 ((m - g : Nat) : Int))]) (fun g => [ownS 76 3 (.slice (some ⟨b0, 0, none⟩) d.size cap) d.size (rc (shL d m g).toList)]) (fun g => g ≤ m - i) (fun g => m - i - g) (0) (Nat.zero_le _) (by repeat (first | exact .nil | refine .cons rfl ?_ | refine .consE rfl (by first | rfl | (congr 1; omega) | (congr 1; push_cast; omega)) ?_)) (Weak.refl _) ?_
    intro n hinv
    replace hinv : n ≤ m - i := hinv
    show St (cx gl) _ ((17, .int .i64 ((m - n : Nat) : Int)) :: _) [ownS 76 3 (.slice (some ⟨b0, 0, none⟩) d.size cap) d.size (rc (shL d m n).toList)] _
    refine R_seq ?_
    refine R_seq ?_
    refine R_region ?_
    refine L_val rfl rfl rfl (OpP.v (P_move rfl rfl)) ?_
    refine L_val rfl rfl rfl (OpP.v (P_move rfl rfl)) ?_
    refine L_val rfl rfl rfl (OpP.v (P_gtr rfl rfl rfl)) ?_
    refine L_nil ?_
    refine Q_then ?_
    refine R_condP rfl (fun hlt2 => ?_) (fun hlt2 => ?_)
    ·skip
     have hes := shL_size d m n
     have hgj := arr_get (d := shL d m n) (i := m - n - 1) (by omega)
     have hgi := arr_get (d := shL d m n) (i := m - n) (by omega)
     refine R_skip ?_
     refine Q_then ?_
     refine R_seq ?_
     refine R_block ?_
     refine R_open [(0, 0), (1, 0), (2, 0), (3, 0), (4, 0), (5, 0), (6, 0), (7, 0), (8, 0), (9, 1), (10, 0), (11, 0), (12, 0), (13, 1), (14, 0), (15, 3), (16, 0), (17, 3)] mixed (by kernel_rfl) (QOk.block (QOk.then (QOk.then (QOk.block (QOk.then (QOk.then QOk.body)))))) ?_
     refine O_pure rfl rfl rfl rfl (P_move rfl rfl) ?_
     refine O_pure rfl rfl rfl rfl (P_move rfl rfl) ?_
     refine O_pure rfl rfl rfl rfl (P_move rfl rfl) ?_
     refine O_pure rfl rfl rfl rfl (P_move rfl rfl) ?_
     first | (refine O_pure rfl rfl rfl rfl (P_subN rfl rfl rfl (by simp only [fits]; omega)) ?_) | (refine O_pure rfl rfl rfl rfl (P_sub rfl rfl rfl) ?_)
     refine E_as (t := 117) (v' := .int .i64 ((m - n - 1 : Nat) : Int)) rfl (by congr 1; omega) ?_
     refine O_pure rfl rfl rfl rfl (P_move rfl rfl) ?_
     refine O_pure rfl rfl rfl rfl (P_move rfl rfl) ?_
     first | (refine O_pure rfl rfl rfl rfl (P_subN rfl rfl rfl (by simp only [fits]; omega)) ?_) | (refine O_pure rfl rfl rfl rfl (P_sub rfl rfl rfl) ?_)
     refine E_as (t := 120) (v' := .int .i64 ((m - n - 1 : Nat) : Int)) rfl (by congr 1; omega) ?_
     refine O_pure rfl rfl rfl rfl (P_ixs (m - n - 1) rfl ty_sl_68 rfl rfl (by first | rfl | omega) (by omega)) ?_
     refine O_val rfl rfl rfl rfl (V_loadAgg rfl rfl ty_ag_76 (rds_rc (rds_own .h0) hgj) (rfl)) ?_
     refine O_pure rfl rfl rfl rfl (P_move rfl rfl) ?_
     refine O_pure rfl rfl rfl rfl (P_move rfl rfl) ?_
     refine O_pure rfl rfl rfl rfl (P_ixs (m - n) rfl ty_sl_68 rfl rfl (by first | rfl | omega) (by omega)) ?_
     refine O_val rfl rfl rfl rfl (V_loadAgg rfl rfl ty_ag_76 (rds_rc (rds_own .h0) hgi) (rfl)) ?_
     refine O_pure rfl rfl rfl rfl (P_ixs (m - n) rfl ty_sl_68 rfl rfl (by first | rfl | omega) (by omega)) ?_
     refine O_new rfl rfl (W_storeOwn (T := 76) (sz := 3) (n := d.size) (c := cap) (cs := rc (shL d m n).toList) rfl rfl rfl rfl ty_ag_76 rfl (Mem.cells_one _) .h0 (by rw [rc_length]; simp only [Array.length_toList]; show 0 + (m - n) * 3 + 3 ≤ _ * 3; omega) ?_)
     refine St.res (rs' := [ownS 76 3 (.slice (some ⟨b0, 0, none⟩) d.size cap) d.size (rc ((shL d m n).toList.set (m - n) (shL d m n)[m - n - 1]!))]) ((by have h9 := rc_splice (l := (shL d m n).toList) (i := m - n) (shL d m n)[m - n - 1]! (by simp only [Array.length_toList]; omega); rw [show Rec.n Mem = 3 from rfl] at h9; rw [Nat.zero_add, h9]; exact Weak.refl _)) ?_
     refine K_new ?_
     refine O_pure rfl rfl rfl rfl (P_ixs (m - n - 1) rfl ty_sl_68 rfl rfl (by first | rfl | omega) (by omega)) ?_
     refine O_new rfl rfl (W_storeOwn (T := 76) (sz := 3) (n := d.size) (c := cap) (cs := rc ((shL d m n).toList.set (m - n) (shL d m n)[m - n - 1]!)) rfl rfl rfl rfl ty_ag_76 rfl (Mem.cells_one _) .h0 (by rw [rc_length]; rw [List.length_set]; simp only [Array.length_toList]; show 0 + (m - n - 1) * 3 + 3 ≤ _ * 3; omega) ?_)
     refine St.res (rs' := [ownS 76 3 (.slice (some ⟨b0, 0, none⟩) d.size cap) d.size (rc (swp (shL d m n) (m - n) (m - n - 1)).toList)]) ((by have h9 := rc_splice (l := (shL d m n).toList.set (m - n) (shL d m n)[m - n - 1]!) (i := m - n - 1) (shL d m n)[m - n]! (by rw [List.length_set]; simp only [Array.length_toList]; omega); rw [show Rec.n Mem = 3 from rfl] at h9; rw [Nat.zero_add, h9, ← swp_toList]; exact Weak.refl _)) ?_
     refine K_new ?_
     refine O_nil ?_
     refine Q_block ?_
     refine Q_then ?_
     refine R_region ?_
     refine L_val rfl rfl rfl (OpP.v (P_move rfl rfl)) ?_
     first | (refine L_val rfl rfl rfl (OpP.v (P_subN rfl rfl rfl (by simp only [fits]; omega))) ?_) | (refine L_val rfl rfl rfl (OpP.v (P_sub rfl rfl rfl)) ?_)
     refine E_as (t := 112) (v' := .int .i64 ((m - (n + 1) : Nat) : Int)) rfl (by congr 1; omega) ?_
     refine L_val rfl rfl rfl (OpP.v (P_assign rfl rfl)) ?_
     refine L_nil ?_
     exact Q_round (n + 1) (by omega) (by show m - i - (n + 1) < m - i - n; omega) (by repeat (first | exact .nil | refine .cons rfl ?_ | refine .consE rfl (by first | rfl | (congr 1; omega) | (congr 1; push_cast; omega)) ?_)) (Weak.refl _)
    ·skip
     have hn : n = m - i := by omega
     have hsg := fun k => shL_get d m n k (by omega) (by omega)
     refine R_exit ?_
     refine Q_then_exit ?_
     refine Q_then_exit ?_
     refine Q_block_eq ?_
     refine St.env (.cons (t := 0) rfl (.cons (t := 1) rfl (.cons (t := 2) rfl (.cons (t := 3) rfl (.cons (t := 4) rfl .nil))))) ?_
     refine Q_then ?_
     refine R_ret ?_
     refine Q_then_ret ?_
     exact R_end (rs2 := _) rfl rfl (.nil) (⟨rfl, _, ⟨shL_perm d m a b (by omega) (by omega) n (by omega), by rw [hb1]; exact merge_last swo_bt (i := i) (by omega) (by omega) hSL hl hr (fun k h5 h6 => by rw [hsg, if_pos ⟨by omega, h6⟩]) (by rw [hsg, if_neg (by omega), if_pos (by omega)]) (fun k h5 h6 => by rw [hsg, if_neg (by omega), if_neg (by omega)])⟩, rfl⟩) (Weak.refl _)
  ·skip
   have h2 : m + 1 < b := by omega
   refine R_skip ?_
   refine Q_then ?_
   refine R_seq ?_
   obtain ⟨mid, hmid⟩ : ∃ x, x = (a + b) / 2 := ⟨_, rfl⟩
   obtain ⟨s0, hs0⟩ : ∃ x, x = (if m > mid then mid + m - b else a) := ⟨_, rfl⟩
   obtain ⟨r0, hr0⟩ : ∃ x, x = (if m > mid then mid else m) := ⟨_, rfl⟩
   refine R_region ?_
   refine L_val rfl rfl rfl (OpP.v (P_move rfl rfl)) ?_
   refine L_val rfl rfl rfl (OpP.v (P_move rfl rfl)) ?_
   first | (refine L_val rfl rfl rfl (OpP.v (P_addN rfl rfl rfl (by simp only [fits]; omega))) ?_) | (refine L_val rfl rfl rfl (OpP.v (P_add rfl rfl rfl)) ?_)
   first | (refine L_val rfl rfl rfl (OpP.v (P_convN rfl ty_int_3 ty_int_133 rfl (by simp only [fits]; omega))) ?_) | (refine L_val rfl rfl rfl (OpP.v (P_conv rfl ty_int_3 ty_int_133 rfl)) ?_)
   refine L_val rfl rfl rfl (OpP.v (P_shr rfl rfl rfl (by omega))) ?_
   refine E_as (t := 133) (v' := .int .u64 (((a + b) / 2 : Nat) : Int)) rfl (by have h9 := half_nat (a + b); push_cast at h9 ⊢; rw [h9]) ?_
   first | (refine L_val rfl rfl rfl (OpP.v (P_convN rfl ty_int_133 ty_int_3 rfl (by simp only [fits]; omega))) ?_) | (refine L_val rfl rfl rfl (OpP.v (P_conv rfl ty_int_133 ty_int_3 rfl)) ?_)
   refine E_as (t := 134) (v' := .int .i64 ((mid : Nat) : Int)) rfl (by rw [hmid]) ?_
   refine L_val rfl rfl rfl (OpP.v (P_assign rfl rfl)) ?_
   refine L_nil ?_
   refine St.env (.cons (t := 0) rfl (.cons (t := 1) rfl (.cons (t := 2) rfl (.cons (t := 3) rfl (.cons (t := 4) rfl (.cons (t := 18) rfl .nil)))))) ?_
   refine Q_then ?_
   refine R_seq ?_
   refine R_region ?_
   refine L_val rfl rfl rfl (OpP.v (P_move rfl rfl)) ?_
   refine L_val rfl rfl rfl (OpP.v (P_move rfl rfl)) ?_
   first | (refine L_val rfl rfl rfl (OpP.v (P_addN rfl rfl rfl (by simp only [fits]; omega))) ?_) | (refine L_val rfl rfl rfl (OpP.v (P_add rfl rfl rfl)) ?_)
   refine L_val rfl rfl rfl (OpP.v (P_assign rfl rfl)) ?_
   refine L_nil ?_
   refine St.env (.cons (t := 0) rfl (.cons (t := 1) rfl (.cons (t := 2) rfl (.cons (t := 3) rfl (.cons (t := 4) rfl (.cons (t := 18) rfl (.cons (t := 19) rfl .nil))))))) ?_
   refine Q_then ?_
   refine R_seq ?_
   refine R_region ?_
   refine L_val rfl rfl rfl (OpP.v (P_assign rfl rfl)) ?_
   refine L_val rfl rfl rfl (OpP.v (P_assign rfl rfl)) ?_
   refine L_nil ?_
   refine Q_then ?_
   refine R_joinE0 (G := Unit) (.cons (t := 0) rfl (.cons (t := 1) rfl (.cons (t := 2) rfl (.cons (t := 3) rfl (.cons (t := 4) rfl (.cons (t := 18) rfl (.cons (t := 19) rfl .nil))))))) (fun g => [(20, .int .i64 ((s0 : Nat) : Int)), (21, .int .i64 ((r0 : Nat) : Int))]) (fun g => True) ?_ ?_
   ·skip
    refine R_seq ?_
    refine R_region ?_
    refine L_val rfl rfl rfl (OpP.v (P_move rfl rfl)) ?_
    refine L_val rfl rfl rfl (OpP.v (P_move rfl rfl)) ?_
    refine L_val rfl rfl rfl (OpP.v (P_gtr rfl rfl rfl)) ?_
    refine L_nil ?_
    refine St.env (.cons (t := 0) rfl (.cons (t := 1) rfl (.cons (t := 2) rfl (.cons (t := 3) rfl (.cons (t := 4) rfl (.cons (t := 18) rfl (.cons (t := 19) rfl (.cons (t := 20) rfl (.cons (t := 21) rfl (.cons (t := 140) rfl .nil)))))))))) ?_
    refine Q_then ?_
    refine R_condP rfl (fun hgt => ?_) (fun hgt => ?_)
    ·skip
     refine R_seq ?_
     refine R_region ?_
     refine L_val rfl rfl rfl (OpP.v (P_move rfl rfl)) ?_
     refine L_val rfl rfl rfl (OpP.v (P_move rfl rfl)) ?_
     first | (refine L_val rfl rfl rfl (OpP.v (P_subN rfl rfl rfl (by simp only [fits]; omega))) ?_) | (refine L_val rfl rfl rfl (OpP.v (P_sub rfl rfl rfl)) ?_)
     refine E_as (t := 143) (v' := .int .i64 ((s0 : Nat) : Int)) rfl (by congr 1; rw [hs0, if_pos (by omega)]; omega) ?_
     refine L_val rfl rfl rfl (OpP.v (P_assign rfl rfl)) ?_
     refine L_nil ?_
     refine St.env (.cons (t := 0) rfl (.cons (t := 1) rfl (.cons (t := 2) rfl (.cons (t := 3) rfl (.cons (t := 4) rfl (.cons (t := 18) rfl (.cons (t := 19) rfl (.cons (t := 20) rfl (.cons (t := 21) rfl .nil))))))))) ?_
     refine Q_then ?_
     refine R_region ?_
     refine L_val rfl rfl rfl (OpP.v (P_move rfl rfl)) ?_
     refine L_val rfl rfl rfl (OpP.v (P_assign rfl rfl)) ?_
     refine L_nil ?_
     refine St.env (.cons (t := 0) rfl (.cons (t := 1) rfl (.cons (t := 2) rfl (.cons (t := 3) rfl (.cons (t := 4) rfl (.cons (t := 18) rfl (.cons (t := 19) rfl (.cons (t := 20) rfl (.cons (t := 21) rfl .nil))))))))) ?_
     refine E_as (t := 20) (v' := .int .i64 ((s0 : Nat) : Int)) rfl (rfl) ?_
     refine E_as (t := 21) (v' := .int .i64 ((r0 : Nat) : Int)) rfl (by congr 1; rw [hr0, if_pos (by omega)]) ?_
     exact Q_meet () (trivial) (by repeat (first | exact .nil | refine .cons rfl ?_ | refine .consE rfl (by first | rfl | (congr 1; omega) | (congr 1; push_cast; omega)) ?_)) (Weak.refl _)
    ·skip
     refine R_seq ?_
     refine R_region ?_
     refine L_val rfl rfl rfl (OpP.v (P_move rfl rfl)) ?_
     refine L_val rfl rfl rfl (OpP.v (P_assign rfl rfl)) ?_
     refine L_nil ?_
     refine St.env (.cons (t := 0) rfl (.cons (t := 1) rfl (.cons (t := 2) rfl (.cons (t := 3) rfl (.cons (t := 4) rfl (.cons (t := 18) rfl (.cons (t := 19) rfl (.cons (t := 20) rfl (.cons (t := 21) rfl .nil))))))))) ?_
     refine Q_then ?_
     refine R_region ?_
     refine L_val rfl rfl rfl (OpP.v (P_move rfl rfl)) ?_
     refine L_val rfl rfl rfl (OpP.v (P_assign rfl rfl)) ?_
     refine L_nil ?_
     refine St.env (.cons (t := 0) rfl (.cons (t := 1) rfl (.cons (t := 2) rfl (.cons (t := 3) rfl (.cons (t := 4) rfl (.cons (t := 18) rfl (.cons (t := 19) rfl (.cons (t := 20) rfl (.cons (t := 21) rfl .nil))))))))) ?_
     refine E_as (t := 20) (v' := .int .i64 ((s0 : Nat) : Int)) rfl (by congr 1; rw [hs0, if_neg (by omega)]) ?_
     refine E_as (t := 21) (v' := .int .i64 ((r0 : Nat) : Int)) rfl (by congr 1; rw [hr0, if_neg (by omega)]) ?_
     exact Q_meet () (trivial) (by repeat (first | exact .nil | refine .cons rfl ?_ | refine .consE rfl (by first | rfl | (congr 1; omega) | (congr 1; push_cast; omega)) ?_)) (Weak.refl _)
   ·rintro ⟨⟩ hinv
    replace hinv : True := hinv
    show St (cx gl) _ ((20, .int .i64 ((s0 : Nat) : Int)) :: (21, .int .i64 ((r0 : Nat) : Int)) :: _) _ _
    have hb0 : s0 ≤ r0 ∧ a ≤ s0 ∧ r0 ≤ m ∧ r0 ≤ mid := by rw [hs0, hr0]; (repeat' split) <;> omega
    have hb9 : mid + m ≤ s0 + b ∧ m ≤ mid + m - r0 := by rw [hs0, hr0]; (repeat' split) <;> omega
    refine R_seq ?_
    refine R_region ?_
    refine L_val rfl rfl rfl (OpP.v (P_move rfl rfl)) ?_
    first | (refine L_val rfl rfl rfl (OpP.v (P_subN rfl rfl rfl (by simp only [fits]; omega))) ?_) | (refine L_val rfl rfl rfl (OpP.v (P_sub rfl rfl rfl)) ?_)
    refine E_as (t := 148) (v' := .int .i64 ((mid + m - 1 : Nat) : Int)) rfl (by congr 1; omega) ?_
    refine L_val rfl rfl rfl (OpP.v (P_assign rfl rfl)) ?_
    refine L_nil ?_
    refine St.env (.cons (t := 0) rfl (.cons (t := 1) rfl (.cons (t := 2) rfl (.cons (t := 3) rfl (.cons (t := 4) rfl (.cons (t := 18) rfl (.cons (t := 19) rfl (.cons (t := 20) rfl (.cons (t := 21) rfl (.cons (t := 22) rfl .nil)))))))))) ?_
    refine Q_then ?_
    refine R_seq ?_
    refine R_block ?_
    refine R_loopE (G := Nat × Nat) (.cons (t := 0) rfl (.cons (t := 1) rfl (.cons (t := 2) rfl (.cons (t := 3) rfl (.cons (t := 4) rfl (.cons (t := 18) rfl (.cons (t := 19) rfl (.cons (t := 22) rfl .nil)))))))) (fun g => [(20, .int .i64 ((g.1 : Nat) : Int)), (21, .int .i64 ((g.2 : Nat) : Int))]) (fun _ => _) (fun g => s0 ≤ g.1 ∧ g.1 ≤ g.2 ∧ g.2 ≤ r0 ∧ (∀ c, s0 ≤ c → c < g.1 → bt d[mid + m - 1 - c]! d[c]! = false) ∧ (∀ c, g.2 ≤ c → c < r0 → bt d[mid + m - 1 - c]! d[c]! = true)) (fun g => g.2 - g.1) (s0, r0) (by show s0 ≤ (s0) ∧ (s0) ≤ (r0) ∧ (r0) ≤ r0 ∧ (∀ c, s0 ≤ c → c < (s0) → bt d[mid + m - 1 - c]! d[c]! = false) ∧ (∀ c, (r0) ≤ c → c < r0 → bt d[mid + m - 1 - c]! d[c]! = true); exact ⟨Nat.le_refl _, by omega, Nat.le_refl _, fun c _ _ => by omega, fun c _ _ => by omega⟩) (by repeat (first | exact .nil | refine .cons rfl ?_ | refine .consE rfl (by first | rfl | (congr 1; omega) | (congr 1; push_cast; omega)) ?_)) (Weak.refl _) ?_
    rintro ⟨s, r⟩ hinv
    replace hinv : s0 ≤ s ∧ s ≤ r ∧ r ≤ r0 ∧ (∀ c, s0 ≤ c → c < s → bt d[mid + m - 1 - c]! d[c]! = false) ∧ (∀ c, r ≤ c → c < r0 → bt d[mid + m - 1 - c]! d[c]! = true) := hinv
    show St (cx gl) _ ((20, .int .i64 ((s : Nat) : Int)) :: (21, .int .i64 ((r : Nat) : Int)) :: _) _ _
    obtain ⟨hsi, hsr, hrr, hl, hr⟩ := hinv
    refine R_seq ?_
    refine R_seq ?_
    refine R_region ?_
    refine L_val rfl rfl rfl (OpP.v (P_move rfl rfl)) ?_
    refine L_val rfl rfl rfl (OpP.v (P_move rfl rfl)) ?_
    refine L_val rfl rfl rfl (OpP.v (P_lss rfl rfl rfl)) ?_
    refine L_nil ?_
    refine Q_then ?_
    refine R_condP rfl (fun hlt => ?_) (fun hlt => ?_)
    ·skip
     have hgh := arr_get (d := d) (i := (s + r) / 2) (by omega)
     have hga := arr_get (d := d) (i := mid + m - 1 - (s + r) / 2) (by omega)
     refine R_skip ?_
     refine Q_then ?_
     refine R_block ?_
     refine R_seq ?_
     refine R_region ?_
     refine L_val rfl rfl rfl (OpP.v (P_move rfl rfl)) ?_
     refine L_val rfl rfl rfl (OpP.v (P_move rfl rfl)) ?_
     first | (refine L_val rfl rfl rfl (OpP.v (P_addN rfl rfl rfl (by simp only [fits]; omega))) ?_) | (refine L_val rfl rfl rfl (OpP.v (P_add rfl rfl rfl)) ?_)
     first | (refine L_val rfl rfl rfl (OpP.v (P_convN rfl ty_int_3 ty_int_133 rfl (by simp only [fits]; omega))) ?_) | (refine L_val rfl rfl rfl (OpP.v (P_conv rfl ty_int_3 ty_int_133 rfl)) ?_)
     refine L_val rfl rfl rfl (OpP.v (P_shr rfl rfl rfl (by omega))) ?_
     refine E_as (t := 156) (v' := .int .u64 (((s + r) / 2 : Nat) : Int)) rfl (by have h9 := half_nat (s + r); push_cast at h9 ⊢; rw [h9]) ?_
     first | (refine L_val rfl rfl rfl (OpP.v (P_convN rfl ty_int_133 ty_int_3 rfl (by simp only [fits]; omega))) ?_) | (refine L_val rfl rfl rfl (OpP.v (P_conv rfl ty_int_133 ty_int_3 rfl)) ?_)
     refine L_val rfl rfl rfl (OpP.v (P_assign rfl rfl)) ?_
     refine L_nil ?_
     refine Q_then ?_
     refine R_seq ?_
     refine R_open [(0, 0), (1, 0), (2, 0), (3, 0), (4, 0), (5, 0), (6, 1), (7, 0), (8, 0), (9, 0), (10, 1), (11, 2), (12, 0), (13, 0)] mixed (by kernel_rfl) (QOk.then (QOk.block (QOk.then (QOk.block (QOk.then QOk.body))))) ?_
     refine O_pure rfl rfl rfl rfl (P_move rfl rfl) ?_
     refine O_pure rfl rfl rfl rfl (P_move rfl rfl) ?_
     refine O_pure rfl rfl rfl rfl (P_move rfl rfl) ?_
     refine O_pure rfl rfl rfl rfl (P_move rfl rfl) ?_
     first | (refine O_pure rfl rfl rfl rfl (P_subN rfl rfl rfl (by simp only [fits]; omega)) ?_) | (refine O_pure rfl rfl rfl rfl (P_sub rfl rfl rfl) ?_)
     refine E_as (t := 162) (v' := .int .i64 ((mid + m - 1 - (s + r) / 2 : Nat) : Int)) rfl (by congr 1; omega) ?_
     refine O_pure rfl rfl rfl rfl (P_ixs (mid + m - 1 - (s + r) / 2) rfl ty_sl_68 rfl rfl (by first | rfl | omega) (by omega)) ?_
     refine O_val rfl rfl rfl rfl (V_loadAgg rfl rfl ty_ag_76 (rds_rc (rds_own .h0) hga) (rfl)) ?_
     refine O_pure rfl rfl rfl rfl (P_move rfl rfl) ?_
     refine O_pure rfl rfl rfl rfl (P_move rfl rfl) ?_
     refine O_pure rfl rfl rfl rfl (P_ixs ((s + r) / 2) rfl ty_sl_68 rfl rfl (by first | rfl | omega) (by omega)) ?_
     refine O_val rfl rfl rfl rfl (V_loadAgg rfl rfl ty_ag_76 (rds_rc (rds_own .h0) hgh) (rfl)) ?_
     refine O_keep rfl rfl (W_callFV (fi := []) (ca := []) rfl rfl rfl rfl rfl rfl fn_ca_84 (seats1_ok (d[mid + m - 1 - (s + r) / 2]!) (d[(s + r) / 2]!)) (fun _ _ => trivial) (K_keep (Weak.refl _) ?_))
     refine O_pure rfl rfl rfl rfl (P_lss rfl rfl rfl) ?_
     refine E_as (t := 170) (v' := .bool (bt (d[mid + m - 1 - (s + r) / 2]!) (d[(s + r) / 2]!))) rfl (by rw [← ltOf_bt]; rfl) ?_
     refine O_pure rfl rfl rfl rfl (P_not rfl rfl) ?_
     refine O_nil ?_
     refine Q_then ?_
     refine R_cond rfl (fun hb => ?_) (fun hb => ?_)
     ·skip
      have hb : bt d[mid + m - 1 - (s + r) / 2]! d[(s + r) / 2]! = false := by simpa using hb
      refine R_region ?_
      refine L_val rfl rfl rfl (OpP.v (P_move rfl rfl)) ?_
      first | (refine L_val rfl rfl rfl (OpP.v (P_addN rfl rfl rfl (by simp only [fits]; omega))) ?_) | (refine L_val rfl rfl rfl (OpP.v (P_add rfl rfl rfl)) ?_)
      refine L_val rfl rfl rfl (OpP.v (P_assign rfl rfl)) ?_
      refine L_nil ?_
      refine Q_block ?_
      exact Q_round ((s + r) / 2 + 1, r) (by show s0 ≤ ((s + r) / 2 + 1) ∧ ((s + r) / 2 + 1) ≤ (r) ∧ (r) ≤ r0 ∧ (∀ c, s0 ≤ c → c < ((s + r) / 2 + 1) → bt d[mid + m - 1 - c]! d[c]! = false) ∧ (∀ c, (r) ≤ c → c < r0 → bt d[mid + m - 1 - c]! d[c]! = true); exact ⟨by omega, by omega, hrr, up_all hl ((s + r) / 2) fun c hc1 hc2 => up_3 (mid := mid) hSL hSR (by omega) hc2 (by omega) (by omega) (by omega) hb, hr⟩) (by show r - ((s + r) / 2 + 1) < r - s; omega) (by repeat (first | exact .nil | refine .cons rfl ?_ | refine .consE rfl (by first | rfl | (congr 1; omega) | (congr 1; push_cast; omega)) ?_)) (Weak.refl _)
     ·skip
      have hb : bt d[mid + m - 1 - (s + r) / 2]! d[(s + r) / 2]! = true := by simpa using hb
      refine R_region ?_
      refine L_val rfl rfl rfl (OpP.v (P_move rfl rfl)) ?_
      refine L_val rfl rfl rfl (OpP.v (P_assign rfl rfl)) ?_
      refine L_nil ?_
      refine Q_block ?_
      exact Q_round (s, (s + r) / 2) (by show s0 ≤ (s) ∧ (s) ≤ ((s + r) / 2) ∧ ((s + r) / 2) ≤ r0 ∧ (∀ c, s0 ≤ c → c < (s) → bt d[mid + m - 1 - c]! d[c]! = false) ∧ (∀ c, ((s + r) / 2) ≤ c → c < r0 → bt d[mid + m - 1 - c]! d[c]! = true); exact ⟨hsi, by omega, by omega, hl, down_all hr ((s + r) / 2) fun c hc1 hc2 => search_mono' (mid := mid) hSL hSR (by omega) hc1 (by omega) (by omega) (by omega) hb⟩) (by show (s + r) / 2 - s < r - s; omega) (by repeat (first | exact .nil | refine .cons rfl ?_ | refine .consE rfl (by first | rfl | (congr 1; omega) | (congr 1; push_cast; omega)) ?_)) (Weak.refl _)
    ·skip
     have hin : s = r := by omega
     subst hin
     refine R_exit ?_
     refine Q_then_exit ?_
     refine Q_then_exit ?_
     refine Q_block_eq ?_
     refine St.env (.cons (t := 0) rfl (.cons (t := 1) rfl (.cons (t := 2) rfl (.cons (t := 3) rfl (.cons (t := 4) rfl (.cons (t := 18) rfl (.cons (t := 19) rfl (.cons (t := 20) rfl .nil)))))))) ?_
     refine Q_then ?_
     refine R_seq ?_
     refine R_region ?_
     refine L_val rfl rfl rfl (OpP.v (P_move rfl rfl)) ?_
     refine L_val rfl rfl rfl (OpP.v (P_move rfl rfl)) ?_
     first | (refine L_val rfl rfl rfl (OpP.v (P_subN rfl rfl rfl (by simp only [fits]; omega))) ?_) | (refine L_val rfl rfl rfl (OpP.v (P_sub rfl rfl rfl)) ?_)
     refine E_as (t := 177) (v' := .int .i64 ((mid + m - s : Nat) : Int)) rfl (by congr 1; omega) ?_
     refine L_val rfl rfl rfl (OpP.v (P_assign rfl rfl)) ?_
     refine L_nil ?_
     refine St.env (.cons (t := 0) rfl (.cons (t := 1) rfl (.cons (t := 2) rfl (.cons (t := 3) rfl (.cons (t := 4) rfl (.cons (t := 18) rfl (.cons (t := 20) rfl (.cons (t := 24) rfl .nil)))))))) ?_
     refine Q_then ?_
     refine R_joinE (G := Array Mem) (.cons (t := 0) rfl (.cons (t := 1) rfl (.cons (t := 3) rfl (.cons (t := 4) rfl (.cons (t := 18) rfl (.cons (t := 20) rfl (.cons (t := 24) rfl .nil))))))) (fun g => []) (fun g => [ownS 76 3 (.slice (some ⟨b0, 0, none⟩) d.size cap) d.size (rc (g).toList)]) (fun g => g.size = d.size ∧ PermIn a b d g ∧ Rot s m (mid + m - s) d g) ?_ ?_
     ·skip
      refine R_seq ?_
      refine R_region ?_
      refine L_val rfl rfl rfl (OpP.v (P_move rfl rfl)) ?_
      refine L_val rfl rfl rfl (OpP.v (P_move rfl rfl)) ?_
      refine L_val rfl rfl rfl (OpP.v (P_lss rfl rfl rfl)) ?_
      refine E_bool (t := 180) rfl (fun hp => ?_) (fun hp => ?_)
      ·skip
       have hp := of_decide_eq_true hp
       refine L_val rfl rfl rfl (OpP.v (P_move rfl rfl)) ?_
       refine L_val rfl rfl rfl (OpP.v (P_move rfl rfl)) ?_
       refine L_val rfl rfl rfl (OpP.v (P_move rfl rfl)) ?_
       refine L_val rfl rfl rfl (OpP.v (P_lss rfl rfl rfl)) ?_
       refine L_val rfl rfl rfl (OpP.v (P_pick rfl rfl rfl)) ?_
       refine L_nil ?_
       refine St.env (.cons (t := 0) rfl (.cons (t := 1) rfl (.cons (t := 2) rfl (.cons (t := 3) rfl (.cons (t := 4) rfl (.cons (t := 18) rfl (.cons (t := 20) rfl (.cons (t := 24) rfl (.cons (t := 185) rfl .nil))))))))) ?_
       refine Q_then ?_
       refine R_condP rfl (fun hq => ?_) (fun hq => ?_)
       ·skip
        refine R_region ?_
        refine L_val rfl rfl rfl (OpP.v (P_move rfl rfl)) ?_
        refine L_val rfl rfl rfl (OpP.v (P_move rfl rfl)) ?_
        refine L_val rfl rfl rfl (OpP.v (P_move rfl rfl)) ?_
        refine L_val rfl rfl rfl (OpP.v (P_move rfl rfl)) ?_
        refine L_val rfl rfl rfl (OpP.v (P_move rfl rfl)) ?_
        refine L_op rfl (W_call rfl rfl rfl rfl fn_ca_213 (rot_ok b0 cap d s m (mid + m - s) (by omega) (by omega) (by omega) hsz hcap (.func (.func 84) #[] #[])) (Split.one (p := [])) (fun _ _ _ _ _ _ _ => trivial) fun vv rs1 ⟨z1, e1, ⟨hr1, hp1⟩, z2⟩ => ?_)
        subst z1; subst z2
        refine St.res (rs' := [ownS 76 3 (.slice (some ⟨b0, 0, none⟩) d.size cap) d.size (rc (e1).toList)]) (Weak.refl _) ?_
        refine L_nil ?_
        refine St.env (.cons (t := 0) rfl (.cons (t := 1) rfl (.cons (t := 3) rfl (.cons (t := 4) rfl (.cons (t := 18) rfl (.cons (t := 20) rfl (.cons (t := 24) rfl .nil))))))) ?_
        exact Q_meet (e1) (by show (e1).size = d.size ∧ PermIn a b d (e1) ∧ Rot s m (mid + m - s) d (e1); exact ⟨hr1.1, permMono hp1 (by omega) (by omega) (by omega), hr1⟩) (by repeat (first | exact .nil | refine .cons rfl ?_ | refine .consE rfl (by first | rfl | (congr 1; omega) | (congr 1; push_cast; omega)) ?_)) (Weak.refl _)
       ·skip
        refine R_skip ?_
        exact Q_meet (d) (by show (d).size = d.size ∧ PermIn a b d (d) ∧ Rot s m (mid + m - s) d (d); exact ⟨rfl, permIn_refl _ _ _, Rot.triv (by omega) (by omega) (by omega)⟩) (by repeat (first | exact .nil | refine .cons rfl ?_ | refine .consE rfl (by first | rfl | (congr 1; omega) | (congr 1; push_cast; omega)) ?_)) (Weak.refl _)
      ·skip
       have hp := of_decide_eq_false hp
       refine L_val rfl rfl rfl (OpP.v (P_move rfl rfl)) ?_
       refine L_no rfl rfl rfl ?_
       refine L_no rfl rfl rfl ?_
       refine L_no rfl rfl rfl ?_
       refine L_val rfl rfl rfl (OpP.v (P_pick rfl rfl rfl)) ?_
       refine L_nil ?_
       refine St.env (.cons (t := 0) rfl (.cons (t := 1) rfl (.cons (t := 2) rfl (.cons (t := 3) rfl (.cons (t := 4) rfl (.cons (t := 18) rfl (.cons (t := 20) rfl (.cons (t := 24) rfl (.cons (t := 185) rfl .nil))))))))) ?_
       refine Q_then ?_
       refine R_condF rfl ?_
       refine R_skip ?_
       exact Q_meet (d) (by show (d).size = d.size ∧ PermIn a b d (d) ∧ Rot s m (mid + m - s) d (d); exact ⟨rfl, permIn_refl _ _ _, Rot.triv (by omega) (by omega) (by omega)⟩) (by repeat (first | exact .nil | refine .cons rfl ?_ | refine .consE rfl (by first | rfl | (congr 1; omega) | (congr 1; push_cast; omega)) ?_)) (Weak.refl _)
     ·intro e hinv
      replace hinv : e.size = d.size ∧ PermIn a b d e ∧ Rot s m (mid + m - s) d e := hinv
      show St (cx gl) _ _ [ownS 76 3 (.slice (some ⟨b0, 0, none⟩) d.size cap) d.size (rc (e).toList)] _
      obtain ⟨hes, hpe, hrot⟩ := hinv
      obtain ⟨q1, q2, q3, q4, q5⟩ := merge_parts swo_bt ham hmb hb hmid hSL hSR (by rw [← hs0]; exact hsi) (by rw [← hr0]; exact hrr) (fun c h5 h6 => hl c (by rw [hs0]; exact h5) h6) (fun c h5 h6 => hr c h5 (by rw [hr0]; exact h6)) hrot
      refine R_joinE (G := Array Mem) (.cons (t := 0) rfl (.cons (t := 3) rfl (.cons (t := 4) rfl (.cons (t := 18) rfl (.cons (t := 24) rfl .nil))))) (fun g => []) (fun g => [ownS 76 3 (.slice (some ⟨b0, 0, none⟩) d.size cap) d.size (rc (g).toList)]) (fun g => g.size = d.size ∧ PermIn a mid e g ∧ SortedIn bt a mid g) ?_ ?_
      ·skip
       refine R_seq ?_
       refine R_region ?_
       refine L_val rfl rfl rfl (OpP.v (P_move rfl rfl)) ?_
       refine L_val rfl rfl rfl (OpP.v (P_move rfl rfl)) ?_
       refine L_val rfl rfl rfl (OpP.v (P_lss rfl rfl rfl)) ?_
       refine E_bool (t := 194) rfl (fun hp2 => ?_) (fun hp2 => ?_)
       ·skip
        have hp2 := of_decide_eq_true hp2
        refine L_val rfl rfl rfl (OpP.v (P_move rfl rfl)) ?_
        refine L_val rfl rfl rfl (OpP.v (P_move rfl rfl)) ?_
        refine L_val rfl rfl rfl (OpP.v (P_move rfl rfl)) ?_
        refine L_val rfl rfl rfl (OpP.v (P_lss rfl rfl rfl)) ?_
        refine L_val rfl rfl rfl (OpP.v (P_pick rfl rfl rfl)) ?_
        refine L_nil ?_
        refine St.env (.cons (t := 0) rfl (.cons (t := 1) rfl (.cons (t := 3) rfl (.cons (t := 4) rfl (.cons (t := 18) rfl (.cons (t := 20) rfl (.cons (t := 24) rfl (.cons (t := 199) rfl .nil)))))))) ?_
        refine Q_then ?_
        refine R_condP rfl (fun hq2 => ?_) (fun hq2 => ?_)
        ·skip
         refine R_region ?_
         refine L_val rfl rfl rfl (OpP.v (P_move rfl rfl)) ?_
         refine L_val rfl rfl rfl (OpP.v (P_move rfl rfl)) ?_
         refine L_val rfl rfl rfl (OpP.v (P_move rfl rfl)) ?_
         refine L_val rfl rfl rfl (OpP.v (P_move rfl rfl)) ?_
         refine L_val rfl rfl rfl (OpP.v (P_move rfl rfl)) ?_
         refine L_op rfl (W_call rfl rfl rfl rfl fn_ca_182 (hrec e hes a s mid (by omega) (by omega) (by omega) (by omega) q1 q2) (Split.one (p := [])) (fun _ _ _ _ _ _ _ => trivial) fun vv rs1 ⟨z1, e3, ⟨hp3, hs3⟩, z2⟩ => ?_)
         subst z1; subst z2
         refine St.res (rs' := [ownS 76 3 (.slice (some ⟨b0, 0, none⟩) d.size cap) d.size (rc (e3).toList)]) (Weak.refl _) ?_
         refine L_nil ?_
         refine St.env (.cons (t := 0) rfl (.cons (t := 3) rfl (.cons (t := 4) rfl (.cons (t := 18) rfl (.cons (t := 24) rfl .nil))))) ?_
         exact Q_meet (e3) (by show (e3).size = d.size ∧ PermIn a mid e (e3) ∧ SortedIn bt a mid (e3); exact ⟨by rw [hp3.1, hes], hp3, hs3⟩) (by repeat (first | exact .nil | refine .cons rfl ?_ | refine .consE rfl (by first | rfl | (congr 1; omega) | (congr 1; push_cast; omega)) ?_)) (Weak.refl _)
        ·skip
         refine R_skip ?_
         exact Q_meet (e) (by show (e).size = d.size ∧ PermIn a mid e (e) ∧ SortedIn bt a mid (e); exact ⟨hes, permIn_refl _ _ _, sort_edge q1 q2 (by omega)⟩) (by repeat (first | exact .nil | refine .cons rfl ?_ | refine .consE rfl (by first | rfl | (congr 1; omega) | (congr 1; push_cast; omega)) ?_)) (Weak.refl _)
       ·skip
        have hp2 := of_decide_eq_false hp2
        refine L_val rfl rfl rfl (OpP.v (P_move rfl rfl)) ?_
        refine L_no rfl rfl rfl ?_
        refine L_no rfl rfl rfl ?_
        refine L_no rfl rfl rfl ?_
        refine L_val rfl rfl rfl (OpP.v (P_pick rfl rfl rfl)) ?_
        refine L_nil ?_
        refine St.env (.cons (t := 0) rfl (.cons (t := 1) rfl (.cons (t := 3) rfl (.cons (t := 4) rfl (.cons (t := 18) rfl (.cons (t := 20) rfl (.cons (t := 24) rfl (.cons (t := 199) rfl .nil)))))))) ?_
        refine Q_then ?_
        refine R_condF rfl ?_
        refine R_skip ?_
        exact Q_meet (e) (by show (e).size = d.size ∧ PermIn a mid e (e) ∧ SortedIn bt a mid (e); exact ⟨hes, permIn_refl _ _ _, sort_edge q1 q2 (by omega)⟩) (by repeat (first | exact .nil | refine .cons rfl ?_ | refine .consE rfl (by first | rfl | (congr 1; omega) | (congr 1; push_cast; omega)) ?_)) (Weak.refl _)
      ·intro e2 hinv
       replace hinv : e2.size = d.size ∧ PermIn a mid e e2 ∧ SortedIn bt a mid e2 := hinv
       show St (cx gl) _ _ [ownS 76 3 (.slice (some ⟨b0, 0, none⟩) d.size cap) d.size (rc (e2).toList)] _
       obtain ⟨he2, hpe2, hso2⟩ := hinv
       have q3' := sortEq q3 fun k h5 h6 => hpe2.2.1 k (.inr h5)
       have q4' := sortEq q4 fun k h5 h6 => hpe2.2.1 k (.inr (by omega))
       have q5' := between_perm (by omega) (by omega) q5 hpe2
       refine R_seq ?_
       refine R_region ?_
       refine L_val rfl rfl rfl (OpP.v (P_move rfl rfl)) ?_
       refine L_val rfl rfl rfl (OpP.v (P_move rfl rfl)) ?_
       refine L_val rfl rfl rfl (OpP.v (P_lss rfl rfl rfl)) ?_
       refine E_bool (t := 208) rfl (fun hp4 => ?_) (fun hp4 => ?_)
       ·skip
        have hp4 := of_decide_eq_true hp4
        refine L_val rfl rfl rfl (OpP.v (P_move rfl rfl)) ?_
        refine L_val rfl rfl rfl (OpP.v (P_move rfl rfl)) ?_
        refine L_val rfl rfl rfl (OpP.v (P_move rfl rfl)) ?_
        refine L_val rfl rfl rfl (OpP.v (P_lss rfl rfl rfl)) ?_
        refine L_val rfl rfl rfl (OpP.v (P_pick rfl rfl rfl)) ?_
        refine L_nil ?_
        refine St.env (.cons (t := 0) rfl (.cons (t := 3) rfl (.cons (t := 4) rfl (.cons (t := 18) rfl (.cons (t := 24) rfl (.cons (t := 213) rfl .nil)))))) ?_
        refine Q_then ?_
        refine R_condP rfl (fun hq4 => ?_) (fun hq4 => ?_)
        ·skip
         refine R_region ?_
         refine L_val rfl rfl rfl (OpP.v (P_move rfl rfl)) ?_
         refine L_val rfl rfl rfl (OpP.v (P_move rfl rfl)) ?_
         refine L_val rfl rfl rfl (OpP.v (P_move rfl rfl)) ?_
         refine L_val rfl rfl rfl (OpP.v (P_move rfl rfl)) ?_
         refine L_val rfl rfl rfl (OpP.v (P_move rfl rfl)) ?_
         refine L_op rfl (W_call rfl rfl rfl rfl fn_ca_182 (hrec e2 he2 mid (mid + m - s) b (by omega) (by omega) (by omega) (by omega) q3' q4') (Split.one (p := [])) (fun _ _ _ _ _ _ _ => trivial) fun vv rs1 ⟨z1, e5, ⟨hp5, hs5⟩, z2⟩ => ?_)
         subst z1; subst z2
         refine St.res (rs' := [ownS 76 3 (.slice (some ⟨b0, 0, none⟩) d.size cap) d.size (rc (e5).toList)]) (Weak.refl _) ?_
         refine L_nil ?_
         refine St.env (.nil) ?_
         exact R_end0 (rs2 := _) rfl rfl (.nil) (⟨rfl, e5, ⟨permTr hpe (permTr (permMono hpe2 (by omega) (by omega) (by omega)) (permMono hp5 (by omega) (by omega) (by omega))), merge_join (sortEq hso2 fun k h5 h6 => hp5.2.1 k (.inl h6)) hs5 (between_perm' (by omega) q5' hp5)⟩, rfl⟩) (Weak.refl _)
        ·skip
         refine R_skip ?_
         exact R_end0 (rs2 := _) rfl rfl (.nil) (⟨rfl, e2, ⟨permTr hpe (permTr (permMono hpe2 (by omega) (by omega) (by omega)) (permIn_refl _ _ _)), merge_join hso2 (sort_edge q3' q4' (by omega)) q5'⟩, rfl⟩) (Weak.refl _)
       ·skip
        have hp4 := of_decide_eq_false hp4
        refine L_val rfl rfl rfl (OpP.v (P_move rfl rfl)) ?_
        refine L_no rfl rfl rfl ?_
        refine L_no rfl rfl rfl ?_
        refine L_no rfl rfl rfl ?_
        refine L_val rfl rfl rfl (OpP.v (P_pick rfl rfl rfl)) ?_
        refine L_nil ?_
        refine St.env (.cons (t := 0) rfl (.cons (t := 3) rfl (.cons (t := 4) rfl (.cons (t := 18) rfl (.cons (t := 24) rfl (.cons (t := 213) rfl .nil)))))) ?_
        refine Q_then ?_
        refine R_condF rfl ?_
        refine R_skip ?_
        exact R_end0 (rs2 := _) rfl rfl (.nil) (⟨rfl, e2, ⟨permTr hpe (permTr (permMono hpe2 (by omega) (by omega) (by omega)) (permIn_refl _ _ _)), merge_join hso2 (sort_edge q3' q4' (by omega)) q5'⟩, rfl⟩) (Weak.refl _)
theorem sym_ok {gl : Nat → Obj} : ∀ N, SymOk gl N
 | 0 => fun b0 cap d a m b h1 h2 h3 _ _ _ _ _ => by omega
 | N + 1 => fun b0 cap d a m b h1 h2 h3 h4 h5 h6 h7 h8 => sym_step N (sym_ok N) b0 cap d a m b h1 h2 h3 h4 h5 h6 h7 h8
end Go.Proofs.YtfhjhaogmdaepaaGreatDoor

/- Go's stable sort of members. Printed by gen.py. -/
set_option linter.unusedVariables false
set_option linter.unusedSimpArgs false
set_option maxRecDepth 100000
namespace Go.Proofs.YtfhjhaogmdaepaaGreatDoor
open Go Go.RowKit Go.Proofs Go.Sort
theorem blk_keep {a b x y : Nat} {d d' : Array Mem} (h : SortedIn bt x y d) (hp : PermIn a b d d') (hd : y ≤ a ∨ b ≤ x) : SortedIn bt x y d' := sortEq h fun k h1 h2 => hp.2.1 k (by omega)
theorem dvd_apart {sz x a : Nat} (h1 : sz ∣ x) (h2 : sz ∣ a) (h : x < a) : x + sz ≤ a := by
 obtain ⟨p, rfl⟩ := h1
 obtain ⟨q, rfl⟩ := h2
 have hpq : p < q := Nat.lt_of_mul_lt_mul_left h
 calc sz * p + sz = sz * (p + 1) := (Nat.mul_succ sz p).symm
  _ ≤ sz * q := Nat.mul_le_mul_left sz hpq
theorem dvd_apart' {sz x a : Nat} (h1 : sz ∣ x) (h2 : sz ∣ a) (h : x ≠ a) : x + sz ≤ a ∨ a + sz ≤ x := by
 rcases Nat.lt_or_gt_of_ne h with h | h
 ·exact .inl (dvd_apart h1 h2 h)
 ·exact .inr (dvd_apart h2 h1 h)
theorem dvd_two {sz a : Nat} (h : 2 * sz ∣ a) : sz ∣ a := Nat.dvd_trans (Nat.dvd_mul_left sz 2) h
theorem ins_next {a : Nat} {e e1 : Array Mem} (hdv : 20 ∣ a) (hdo : ∀ x, 20 ∣ x → x + 20 ≤ a → SortedIn bt x (x + 20) e) (hp : PermIn a (a + 20) e e1) (hs : SortedIn bt a (a + 20) e1) : ∀ x, 20 ∣ x → x + 20 ≤ a + 20 → SortedIn bt x (x + 20) e1 := fun x hx hx2 => by
 by_cases he : x = a
 ·subst he; exact hs
 ·rcases dvd_apart' hx hdv he with h | h
  ·exact blk_keep (hdo x hx h) hp (.inl h)
  ·omega
/-- All blocks of that size are in order. -/
def Blk (sz n : Nat) (d : Array Mem) : Prop := ∀ x, sz ∣ x → SortedIn bt x (min (x + sz) n) d
theorem blk_first {n a : Nat} {d d' : Array Mem} (ha : 20 ∣ a) (han : a ≤ n) (hbn : n < a + 20) (h : ∀ x, 20 ∣ x → x + 20 ≤ a → SortedIn bt x (x + 20) d) (hp : PermIn a n d d') (hs : SortedIn bt a n d') : Blk 20 n d' := fun x hx => by
 by_cases he : x = a
 ·subst he; rw [Nat.min_eq_right (by omega)]; exact hs
 ·rcases dvd_apart' hx ha he with h1 | h1
  ·rw [Nat.min_eq_left (by omega)]; exact blk_keep (h x hx h1) hp (.inl h1)
  ·exact sorted_one (by omega)
structure Half (sz n a : Nat) (e : Array Mem) : Prop where
 dv : 2 * sz ∣ a
 le : a ≤ n
 done : ∀ x, 2 * sz ∣ x → x + 2 * sz ≤ a → SortedIn bt x (x + 2 * sz) e
 todo : ∀ x, sz ∣ x → a ≤ x → SortedIn bt x (min (x + sz) n) e
theorem Half.start {sz n : Nat} {d : Array Mem} (h : Blk sz n d) (hp : 0 < sz) : Half sz n 0 d := ⟨⟨0, rfl⟩, Nat.zero_le _, fun x _ hx => by omega, fun x hx _ => h x hx⟩
theorem Half.left {sz n a : Nat} {e : Array Mem} (h : Half sz n a e) (hn : a + sz ≤ n) : SortedIn bt a (a + sz) e := by
 have := h.todo a (dvd_two h.dv) (Nat.le_refl _)
 rwa [Nat.min_eq_left hn] at this
theorem Half.right {sz n a y : Nat} {e : Array Mem} (h : Half sz n a e) (hy : y ≤ n) (h2 : y ≤ a + 2 * sz) : SortedIn bt (a + sz) y e := by
 have := h.todo (a + sz) (Nat.dvd_add (dvd_two h.dv) (Nat.dvd_refl _)) (by omega)
 exact sortSub this (Nat.le_refl _) (by omega)
theorem Half.next {sz n a : Nat} {e e' : Array Mem} (h : Half sz n a e) (hp : 0 < sz) (hn : a + 2 * sz ≤ n) (hpm : PermIn a (a + 2 * sz) e e') (hs : SortedIn bt a (a + 2 * sz) e') : Half sz n (a + 2 * sz) e' := by
 refine ⟨Nat.dvd_add h.dv (Nat.dvd_refl _), hn, fun x hx hx2 => ?_, fun x hx hx2 => ?_⟩
 ·by_cases he : x = a
  ·subst he; exact hs
  ·rcases dvd_apart' hx h.dv he with h1 | h1
   ·exact blk_keep (h.done x hx h1) hpm (.inl h1)
   ·omega
 ·exact blk_keep (h.todo x hx (by omega)) hpm (.inr hx2)
theorem Half.full {sz n a : Nat} {e : Array Mem} (h : Half sz n a e) (hp : 0 < sz) (hn : n < a + 2 * sz) (hs : SortedIn bt a n e) : Blk (2 * sz) n e := fun x hx => by
 by_cases he : x = a
 ·subst he; rw [Nat.min_eq_right (by omega)]; exact hs
 ·rcases dvd_apart' hx h.dv he with h1 | h1
  ·have := h.le; rw [Nat.min_eq_left (by omega)]; exact h.done x hx h1
  ·exact sorted_one (by omega)
theorem Half.keep {sz n a : Nat} {e e' : Array Mem} (h : Half sz n a e) (hp : PermIn a n e e') (hs : SortedIn bt a n e') (hz : 0 < sz) (hn : n < a + 2 * sz) : Blk (2 * sz) n e' := fun x hx => by
 by_cases he : x = a
 ·subst he; rw [Nat.min_eq_right (by omega)]; exact hs
 ·rcases dvd_apart' hx h.dv he with h1 | h1
  ·have := h.le; rw [Nat.min_eq_left (by omega)]; exact blk_keep (h.done x hx h1) hp (.inl h1)
  ·exact sorted_one (by omega)
set_option maxHeartbeats 1000000 in
theorem st_pos {gl : Nat → Obj} (b0 cap : Nat) (d : Array Mem) (hsz : d.size ≤ 1000000000000) (hcap : d.size ≤ cap) : Spec (cx gl) 137 [.slice (some ⟨b0, 0, none⟩) d.size cap, .int .i64 ((d.size : Nat) : Int), .func (.func 84) #[] #[]] (fun _ _ => True) [ownS 76 3 (.slice (some ⟨b0, 0, none⟩) d.size cap) d.size (rc (d).toList)] (fun u rs => u = .tuple #[] ∧ ∃ d' : Array Mem, (PermIn 0 d.size d d' ∧ SortedIn bt 0 d.size d') ∧ rs = [ownS 76 3 (.slice (some ⟨b0, 0, none⟩) d.size cap) d.size (rc (d').toList)]) := by
 have hin : ∀ (e : Array Mem), e.size = d.size → ∀ a b, a ≤ b → b ≤ d.size → Spec (cx gl) 181 [.slice (some ⟨b0, 0, none⟩) d.size cap, .int .i64 ((a : Nat) : Int), .int .i64 ((b : Nat) : Int), .func (.func 84) #[] #[]] (fun _ _ => True) [ownS 76 3 (.slice (some ⟨b0, 0, none⟩) d.size cap) d.size (rc (e).toList)] (fun u rs => u = .tuple #[] ∧ ∃ d' : Array Mem, PermIn a b e d' ∧ SortedIn bt a b d' ∧ rs = [ownS 76 3 (.slice (some ⟨b0, 0, none⟩) d.size cap) d.size (rc (d').toList)]) := fun e he a b h1 h2 => by have h9 := insM_ok (gl := gl) (some ⟨b0, 0, none⟩) cap e a b h1 (by omega) (by omega); rw [he] at h9; exact h9
 have hsy : ∀ (e : Array Mem), e.size = d.size → ∀ a m b, a < m → m < b → b ≤ d.size → SortedIn bt a m e → SortedIn bt m b e → Spec (cx gl) 182 [.slice (some ⟨b0, 0, none⟩) d.size cap, .int .i64 ((a : Nat) : Int), .int .i64 ((m : Nat) : Int), .int .i64 ((b : Nat) : Int), .func (.func 84) #[] #[]] (fun _ _ => True) [ownS 76 3 (.slice (some ⟨b0, 0, none⟩) d.size cap) d.size (rc (e).toList)] (fun u rs => u = .tuple #[] ∧ ∃ d' : Array Mem, (PermIn a b e d' ∧ SortedIn bt a b d') ∧ rs = [ownS 76 3 (.slice (some ⟨b0, 0, none⟩) d.size cap) d.size (rc (d').toList)]) := fun e he a m b h2 h3 h4 h5 h6 => by have h9 := sym_ok (gl := gl) (b - a) b0 cap e a m b (Nat.le_refl _) h2 h3 (by omega) (by omega) (by omega) h5 h6; rw [he] at h9; exact h9
 refine Spec.enter (C := cx gl) Tryz.func137 rfl 63 rfl rfl fun w0 h0 hsep hsub hpre => ?_
 show St (cx gl) _ [(0, .slice (some ⟨b0, 0, none⟩) d.size cap), (1, .int .i64 ((d.size : Nat) : Int)), (2, .func (.func 84) #[] #[])] _ _
 refine R_seq ?_
 refine R_region ?_
 refine L_val rfl rfl rfl (OpP.v (P_assign rfl rfl)) ?_
 refine L_nil ?_
 refine Q_then ?_
 refine R_seq ?_
 refine R_region ?_
 refine L_val rfl rfl rfl (OpP.v (P_move rfl rfl)) ?_
 refine L_val rfl rfl rfl (OpP.v (P_assign rfl rfl)) ?_
 refine L_val rfl rfl rfl (OpP.v (P_assign rfl rfl)) ?_
 refine L_nil ?_
 refine St.env (.cons (t := 0) rfl (.cons (t := 1) rfl (.cons (t := 2) rfl (.cons (t := 6) rfl (.cons (t := 7) rfl (.cons (t := 8) rfl .nil)))))) ?_
 refine Q_then ?_
 refine R_seq ?_
 refine R_block ?_
 refine R_loopE (G := Nat × Array Mem) (.cons (t := 0) rfl (.cons (t := 1) rfl (.cons (t := 2) rfl (.cons (t := 6) rfl .nil)))) (fun g => [(7, .int .i64 ((g.1 : Nat) : Int)), (8, .int .i64 ((g.1 + 20 : Nat) : Int))]) (fun g => [ownS 76 3 (.slice (some ⟨b0, 0, none⟩) d.size cap) d.size (rc (g.2).toList)]) (fun g => g.1 ≤ d.size ∧ 20 ∣ g.1 ∧ g.2.size = d.size ∧ PermIn 0 d.size d g.2 ∧ ∀ x, 20 ∣ x → x + 20 ≤ g.1 → SortedIn bt x (x + 20) g.2) (fun g => d.size - g.1) (0, d) (by show (0) ≤ d.size ∧ 20 ∣ (0) ∧ (d).size = d.size ∧ PermIn 0 d.size d (d) ∧ ∀ x, 20 ∣ x → x + 20 ≤ (0) → SortedIn bt x (x + 20) (d); exact ⟨Nat.zero_le _, ⟨0, rfl⟩, rfl, permIn_refl _ _ _, fun x _ h => by omega⟩) (by repeat (first | exact .nil | refine .cons rfl ?_ | refine .consE rfl (by first | rfl | (congr 1; omega) | (congr 1; push_cast; omega)) ?_)) (Weak.refl _) ?_
 rintro ⟨a, e⟩ hinv
 replace hinv : a ≤ d.size ∧ 20 ∣ a ∧ e.size = d.size ∧ PermIn 0 d.size d e ∧ ∀ x, 20 ∣ x → x + 20 ≤ a → SortedIn bt x (x + 20) e := hinv
 show St (cx gl) _ ((7, .int .i64 ((a : Nat) : Int)) :: (8, .int .i64 ((a + 20 : Nat) : Int)) :: _) [ownS 76 3 (.slice (some ⟨b0, 0, none⟩) d.size cap) d.size (rc (e).toList)] _
 obtain ⟨han, hdv, hes, hpe, hdo⟩ := hinv
 refine R_seq ?_
 refine R_seq ?_
 refine R_region ?_
 refine L_val rfl rfl rfl (OpP.v (P_move rfl rfl)) ?_
 refine L_val rfl rfl rfl (OpP.v (P_move rfl rfl)) ?_
 refine L_val rfl rfl rfl (OpP.v (P_leq rfl rfl rfl)) ?_
 refine L_nil ?_
 refine Q_then ?_
 refine R_condP rfl (fun hle => ?_) (fun hle => ?_)
 ·skip
  have hle : a + 20 ≤ d.size := by omega
  refine R_skip ?_
  refine Q_then ?_
  refine R_block ?_
  refine R_seq ?_
  refine R_region ?_
  refine L_val rfl rfl rfl (OpP.v (P_move rfl rfl)) ?_
  refine L_val rfl rfl rfl (OpP.v (P_move rfl rfl)) ?_
  refine L_val rfl rfl rfl (OpP.v (P_move rfl rfl)) ?_
  refine L_val rfl rfl rfl (OpP.v (P_move rfl rfl)) ?_
  refine L_op rfl (W_call rfl rfl rfl rfl fn_ca_181 (hin e hes a (a + 20) (by omega) (by omega)) (Split.one (p := [])) (fun _ _ _ _ _ _ _ => trivial) fun vv rs1 ⟨z1, e1, hp_e1, hs_e1, z2⟩ => ?_)
  subst z1; subst z2
  refine St.res (rs' := [ownS 76 3 (.slice (some ⟨b0, 0, none⟩) d.size cap) d.size (rc (e1).toList)]) (Weak.refl _) ?_
  refine L_nil ?_
  refine St.env (.cons (t := 0) rfl (.cons (t := 1) rfl (.cons (t := 2) rfl (.cons (t := 6) rfl (.cons (t := 7) rfl (.cons (t := 8) rfl (.cons (t := 11) rfl (.cons (t := 12) rfl (.cons (t := 13) rfl (.cons (t := 14) rfl (.cons (t := 15) rfl (.cons (t := 16) rfl (.cons (t := 17) rfl .nil))))))))))))) ?_
  refine Q_then ?_
  refine R_seq ?_
  refine R_region ?_
  refine L_val rfl rfl rfl (OpP.v (P_move rfl rfl)) ?_
  refine L_val rfl rfl rfl (OpP.v (P_assign rfl rfl)) ?_
  refine L_nil ?_
  refine Q_then ?_
  refine R_region ?_
  refine L_val rfl rfl rfl (OpP.v (P_move rfl rfl)) ?_
  refine L_val rfl rfl rfl (OpP.v (P_move rfl rfl)) ?_
  first | (refine L_val rfl rfl rfl (OpP.v (P_addN rfl rfl rfl (by simp only [fits]; omega))) ?_) | (refine L_val rfl rfl rfl (OpP.v (P_add rfl rfl rfl)) ?_)
  refine L_val rfl rfl rfl (OpP.v (P_assign rfl rfl)) ?_
  refine L_nil ?_
  refine Q_block ?_
  exact Q_round (a + 20, e1) (by show (a + 20) ≤ d.size ∧ 20 ∣ (a + 20) ∧ (e1).size = d.size ∧ PermIn 0 d.size d (e1) ∧ ∀ x, 20 ∣ x → x + 20 ≤ (a + 20) → SortedIn bt x (x + 20) (e1); exact ⟨by omega, Nat.dvd_add hdv (Nat.dvd_refl _), by rw [hp_e1.1, hes], permTr hpe (permMono hp_e1 (Nat.zero_le _) (by omega) (by omega)), ins_next hdv hdo hp_e1 hs_e1⟩) (by show d.size - (a + 20) < d.size - a; omega) (by repeat (first | exact .nil | refine .cons rfl ?_ | refine .consE rfl (by first | rfl | (congr 1; omega) | (congr 1; push_cast; omega)) ?_)) (Weak.refl _)
 ·skip
  have hle : d.size < a + 20 := by omega
  refine R_exit ?_
  refine Q_then_exit ?_
  refine Q_then_exit ?_
  refine Q_block_eq ?_
  refine St.env (.cons (t := 0) rfl (.cons (t := 1) rfl (.cons (t := 2) rfl (.cons (t := 6) rfl (.cons (t := 7) rfl (.cons (t := 8) rfl .nil)))))) ?_
  refine Q_then ?_
  refine R_seq ?_
  refine R_region ?_
  refine L_val rfl rfl rfl (OpP.v (P_move rfl rfl)) ?_
  refine L_val rfl rfl rfl (OpP.v (P_move rfl rfl)) ?_
  refine L_val rfl rfl rfl (OpP.v (P_move rfl rfl)) ?_
  refine L_val rfl rfl rfl (OpP.v (P_move rfl rfl)) ?_
  refine L_op rfl (W_call rfl rfl rfl rfl fn_ca_181 (hin e hes a d.size (by omega) (Nat.le_refl _)) (Split.one (p := [])) (fun _ _ _ _ _ _ _ => trivial) fun vv rs1 ⟨z1, e2, hp_e2, hs_e2, z2⟩ => ?_)
  subst z1; subst z2
  refine St.res (rs' := [ownS 76 3 (.slice (some ⟨b0, 0, none⟩) d.size cap) d.size (rc (e2).toList)]) (Weak.refl _) ?_
  have hB := blk_first hdv han hle hdo hp_e2 hs_e2
  have hP2 := permTr hpe (permMono hp_e2 (Nat.zero_le _) (Nat.le_refl _) (by omega))
  refine L_nil ?_
  refine St.env (.cons (t := 0) rfl (.cons (t := 1) rfl (.cons (t := 2) rfl (.cons (t := 6) rfl (.cons (t := 7) rfl (.cons (t := 8) rfl .nil)))))) ?_
  refine Q_then ?_
  refine R_block ?_
  refine R_loopE (G := Nat × Array Mem) (.cons (t := 0) rfl (.cons (t := 1) rfl (.cons (t := 2) rfl .nil))) (fun g => [(6, .int .i64 ((g.1 : Nat) : Int))]) (fun g => [ownS 76 3 (.slice (some ⟨b0, 0, none⟩) d.size cap) d.size (rc (g.2).toList)]) (fun g => 0 < g.1 ∧ g.1 ≤ 2 * d.size + 20 ∧ g.2.size = d.size ∧ PermIn 0 d.size d g.2 ∧ Blk g.1 d.size g.2) (fun g => d.size - g.1) (20, e2) (by show 0 < (20) ∧ (20) ≤ 2 * d.size + 20 ∧ (e2).size = d.size ∧ PermIn 0 d.size d (e2) ∧ Blk (20) d.size (e2); exact ⟨by omega, by omega, by rw [hp_e2.1, hes], hP2, hB⟩) (by repeat (first | exact .nil | refine .cons rfl ?_ | refine .consE rfl (by first | rfl | (congr 1; omega) | (congr 1; push_cast; omega)) ?_)) (Weak.refl _) ?_
  rintro ⟨z, g⟩ hinv
  replace hinv : 0 < z ∧ z ≤ 2 * d.size + 20 ∧ g.size = d.size ∧ PermIn 0 d.size d g ∧ Blk z d.size g := hinv
  show St (cx gl) _ ((6, .int .i64 ((z : Nat) : Int)) :: _) [ownS 76 3 (.slice (some ⟨b0, 0, none⟩) d.size cap) d.size (rc (g).toList)] _
  obtain ⟨hz, hzm, hgs, hpg, hBg⟩ := hinv
  refine R_seq ?_
  refine R_seq ?_
  refine R_region ?_
  refine L_val rfl rfl rfl (OpP.v (P_move rfl rfl)) ?_
  refine L_val rfl rfl rfl (OpP.v (P_move rfl rfl)) ?_
  refine L_val rfl rfl rfl (OpP.v (P_lss rfl rfl rfl)) ?_
  refine L_nil ?_
  refine Q_then ?_
  refine R_condP rfl (fun hlt => ?_) (fun hlt => ?_)
  ·skip
   have hlt : z < d.size := by omega
   refine R_skip ?_
   refine Q_then ?_
   refine R_block ?_
   refine R_seq ?_
   refine R_region ?_
   refine L_val rfl rfl rfl (OpP.v (P_move rfl rfl)) ?_
   first | (refine L_val rfl rfl rfl (OpP.v (P_mulN rfl rfl rfl (by simp only [fits]; omega))) ?_) | (refine L_val rfl rfl rfl (OpP.v (P_mul rfl rfl rfl)) ?_)
   refine L_val rfl rfl rfl (OpP.v (P_assign rfl rfl)) ?_
   refine L_val rfl rfl rfl (OpP.v (P_assign rfl rfl)) ?_
   refine L_nil ?_
   refine Q_then ?_
   refine R_seq ?_
   refine R_block ?_
   refine R_loopE (G := Nat × Array Mem) (.cons (t := 0) rfl (.cons (t := 1) rfl (.cons (t := 2) rfl (.cons (t := 6) rfl (.cons (t := 28) rfl (.cons (t := 29) rfl (.cons (t := 30) rfl (.cons (t := 31) rfl (.cons (t := 32) rfl .nil))))))))) (fun g => [(7, .int .i64 ((g.1 : Nat) : Int)), (8, .int .i64 ((g.1 + 2 * z : Nat) : Int))]) (fun g => [ownS 76 3 (.slice (some ⟨b0, 0, none⟩) d.size cap) d.size (rc (g.2).toList)]) (fun g => g.2.size = d.size ∧ PermIn 0 d.size d g.2 ∧ Half z d.size g.1 g.2) (fun g => d.size - g.1) (0, g) (by show (g).size = d.size ∧ PermIn 0 d.size d (g) ∧ Half z d.size (0) (g); exact ⟨hgs, hpg, Half.start hBg hz⟩) (by repeat (first | exact .nil | refine .cons rfl ?_ | refine .consE rfl (by first | rfl | (congr 1; omega) | (congr 1; push_cast; omega)) ?_)) (Weak.refl _) ?_
   rintro ⟨a, h⟩ hinv
   replace hinv : h.size = d.size ∧ PermIn 0 d.size d h ∧ Half z d.size a h := hinv
   show St (cx gl) _ ((7, .int .i64 ((a : Nat) : Int)) :: (8, .int .i64 ((a + 2 * z : Nat) : Int)) :: _) [ownS 76 3 (.slice (some ⟨b0, 0, none⟩) d.size cap) d.size (rc (h).toList)] _
   obtain ⟨hhs, hph, hH⟩ := hinv
   refine R_seq ?_
   refine R_seq ?_
   refine R_region ?_
   refine L_val rfl rfl rfl (OpP.v (P_move rfl rfl)) ?_
   refine L_val rfl rfl rfl (OpP.v (P_move rfl rfl)) ?_
   refine L_val rfl rfl rfl (OpP.v (P_leq rfl rfl rfl)) ?_
   refine L_nil ?_
   refine Q_then ?_
   refine R_condP rfl (fun hle2 => ?_) (fun hle2 => ?_)
   ·skip
    have hle2 : a + 2 * z ≤ d.size := by omega
    refine R_skip ?_
    refine Q_then ?_
    refine R_block ?_
    refine R_seq ?_
    refine R_region ?_
    refine L_val rfl rfl rfl (OpP.v (P_move rfl rfl)) ?_
    refine L_val rfl rfl rfl (OpP.v (P_move rfl rfl)) ?_
    refine L_val rfl rfl rfl (OpP.v (P_move rfl rfl)) ?_
    refine L_val rfl rfl rfl (OpP.v (P_move rfl rfl)) ?_
    first | (refine L_val rfl rfl rfl (OpP.v (P_addN rfl rfl rfl (by simp only [fits]; omega))) ?_) | (refine L_val rfl rfl rfl (OpP.v (P_add rfl rfl rfl)) ?_)
    refine L_val rfl rfl rfl (OpP.v (P_move rfl rfl)) ?_
    refine L_val rfl rfl rfl (OpP.v (P_move rfl rfl)) ?_
    refine L_op rfl (W_call rfl rfl rfl rfl fn_ca_182 (hsy h hhs a (a + z) (a + 2 * z) (by omega) (by omega) (by omega) (hH.left (by omega)) (hH.right (by omega) (Nat.le_refl _))) (Split.one (p := [])) (fun _ _ _ _ _ _ _ => trivial) fun vv rs1 ⟨z1, h1, ⟨hp_h1, hs_h1⟩, z2⟩ => ?_)
    subst z1; subst z2
    refine St.res (rs' := [ownS 76 3 (.slice (some ⟨b0, 0, none⟩) d.size cap) d.size (rc (h1).toList)]) (Weak.refl _) ?_
    refine L_nil ?_
    refine St.env (.cons (t := 0) rfl (.cons (t := 1) rfl (.cons (t := 2) rfl (.cons (t := 6) rfl (.cons (t := 7) rfl (.cons (t := 8) rfl (.cons (t := 28) rfl (.cons (t := 29) rfl (.cons (t := 30) rfl (.cons (t := 31) rfl (.cons (t := 32) rfl (.cons (t := 33) rfl (.cons (t := 34) rfl (.cons (t := 35) rfl (.cons (t := 36) rfl (.cons (t := 37) rfl (.cons (t := 38) rfl (.cons (t := 39) rfl (.cons (t := 40) rfl (.cons (t := 41) rfl (.cons (t := 42) rfl .nil))))))))))))))))))))) ?_
    refine Q_then ?_
    refine R_seq ?_
    refine R_region ?_
    refine L_val rfl rfl rfl (OpP.v (P_move rfl rfl)) ?_
    refine L_val rfl rfl rfl (OpP.v (P_assign rfl rfl)) ?_
    refine L_nil ?_
    refine Q_then ?_
    refine R_region ?_
    refine L_val rfl rfl rfl (OpP.v (P_move rfl rfl)) ?_
    refine L_val rfl rfl rfl (OpP.v (P_move rfl rfl)) ?_
    first | (refine L_val rfl rfl rfl (OpP.v (P_mulN rfl rfl rfl (by simp only [fits]; omega))) ?_) | (refine L_val rfl rfl rfl (OpP.v (P_mul rfl rfl rfl)) ?_)
    first | (refine L_val rfl rfl rfl (OpP.v (P_addN rfl rfl rfl (by simp only [fits]; omega))) ?_) | (refine L_val rfl rfl rfl (OpP.v (P_add rfl rfl rfl)) ?_)
    refine L_val rfl rfl rfl (OpP.v (P_assign rfl rfl)) ?_
    refine L_nil ?_
    refine Q_block ?_
    exact Q_round (a + 2 * z, h1) (by show (h1).size = d.size ∧ PermIn 0 d.size d (h1) ∧ Half z d.size (a + 2 * z) (h1); exact ⟨by rw [hp_h1.1, hhs], permTr hph (permMono hp_h1 (Nat.zero_le _) (by omega) (by omega)), hH.next hz (by omega) hp_h1 hs_h1⟩) (by show d.size - (a + 2 * z) < d.size - a; omega) (by repeat (first | exact .nil | refine .cons rfl ?_ | refine .consE rfl (by first | rfl | (congr 1; omega) | (congr 1; push_cast; omega)) ?_)) (Weak.refl _)
   ·skip
    have hle2 : d.size < a + 2 * z := by omega
    have haz := hH.le
    refine R_exit ?_
    refine Q_then_exit ?_
    refine Q_then_exit ?_
    refine Q_block_eq ?_
    refine Q_then ?_
    refine R_seq ?_
    refine R_seq ?_
    refine R_region ?_
    refine L_val rfl rfl rfl (OpP.v (P_move rfl rfl)) ?_
    refine L_val rfl rfl rfl (OpP.v (P_move rfl rfl)) ?_
    first | (refine L_val rfl rfl rfl (OpP.v (P_addN rfl rfl rfl (by simp only [fits]; omega))) ?_) | (refine L_val rfl rfl rfl (OpP.v (P_add rfl rfl rfl)) ?_)
    refine L_val rfl rfl rfl (OpP.v (P_assign rfl rfl)) ?_
    refine L_nil ?_
    refine Q_then ?_
    refine R_seq ?_
    refine R_region ?_
    refine L_val rfl rfl rfl (OpP.v (P_move rfl rfl)) ?_
    refine L_val rfl rfl rfl (OpP.v (P_move rfl rfl)) ?_
    refine L_val rfl rfl rfl (OpP.v (P_lss rfl rfl rfl)) ?_
    refine L_nil ?_
    refine Q_then ?_
    refine R_condP rfl (fun hlt3 => ?_) (fun hlt3 => ?_)
    ·skip
     have hlt3 : a + z < d.size := by omega
     refine R_region ?_
     refine L_val rfl rfl rfl (OpP.v (P_move rfl rfl)) ?_
     refine L_val rfl rfl rfl (OpP.v (P_move rfl rfl)) ?_
     refine L_val rfl rfl rfl (OpP.v (P_move rfl rfl)) ?_
     refine L_val rfl rfl rfl (OpP.v (P_move rfl rfl)) ?_
     refine L_val rfl rfl rfl (OpP.v (P_move rfl rfl)) ?_
     refine L_op rfl (W_call rfl rfl rfl rfl fn_ca_182 (hsy h hhs a (a + z) d.size (by omega) (by omega) (by omega) (hH.left (by omega)) (hH.right (by omega) (by omega))) (Split.one (p := [])) (fun _ _ _ _ _ _ _ => trivial) fun vv rs1 ⟨z1, g3, ⟨hp_g3, hs_g3⟩, z2⟩ => ?_)
     subst z1; subst z2
     refine St.res (rs' := [ownS 76 3 (.slice (some ⟨b0, 0, none⟩) d.size cap) d.size (rc (g3).toList)]) (Weak.refl _) ?_
     refine L_nil ?_
     refine St.env (.cons (t := 0) rfl (.cons (t := 1) rfl (.cons (t := 2) rfl (.cons (t := 6) rfl (.cons (t := 7) rfl (.cons (t := 8) rfl (.cons (t := 9) rfl (.cons (t := 28) rfl (.cons (t := 29) rfl (.cons (t := 30) rfl (.cons (t := 31) rfl (.cons (t := 32) rfl (.cons (t := 33) rfl (.cons (t := 34) rfl (.cons (t := 35) rfl (.cons (t := 49) rfl (.cons (t := 50) rfl (.cons (t := 51) rfl (.cons (t := 52) rfl (.cons (t := 53) rfl (.cons (t := 54) rfl (.cons (t := 55) rfl (.cons (t := 56) rfl (.cons (t := 57) rfl (.cons (t := 58) rfl (.cons (t := 59) rfl .nil)))))))))))))))))))))))))) ?_
     refine Q_then ?_
     refine R_region ?_
     refine L_val rfl rfl rfl (OpP.v (P_move rfl rfl)) ?_
     first | (refine L_val rfl rfl rfl (OpP.v (P_mulN rfl rfl rfl (by simp only [fits]; omega))) ?_) | (refine L_val rfl rfl rfl (OpP.v (P_mul rfl rfl rfl)) ?_)
     refine L_val rfl rfl rfl (OpP.v (P_assign rfl rfl)) ?_
     refine L_nil ?_
     refine Q_block ?_
     exact Q_round (z * 2, g3) (by show 0 < (z * 2) ∧ (z * 2) ≤ 2 * d.size + 20 ∧ (g3).size = d.size ∧ PermIn 0 d.size d (g3) ∧ Blk (z * 2) d.size (g3); exact ⟨by omega, by omega, by rw [hp_g3.1, hhs], permTr hph (permMono hp_g3 (Nat.zero_le _) (Nat.le_refl _) (by omega)), by rw [Nat.mul_comm]; exact hH.keep hp_g3 hs_g3 hz (by omega)⟩) (by show d.size - z * 2 < d.size - z; omega) (by repeat (first | exact .nil | refine .cons rfl ?_ | refine .consE rfl (by first | rfl | (congr 1; omega) | (congr 1; push_cast; omega)) ?_)) (Weak.refl _)
    ·skip
     have hlt3 : d.size ≤ a + z := by omega
     refine R_skip ?_
     refine Q_then ?_
     refine R_region ?_
     refine L_val rfl rfl rfl (OpP.v (P_move rfl rfl)) ?_
     first | (refine L_val rfl rfl rfl (OpP.v (P_mulN rfl rfl rfl (by simp only [fits]; omega))) ?_) | (refine L_val rfl rfl rfl (OpP.v (P_mul rfl rfl rfl)) ?_)
     refine L_val rfl rfl rfl (OpP.v (P_assign rfl rfl)) ?_
     refine L_nil ?_
     refine Q_block ?_
     exact Q_round (z * 2, h) (by show 0 < (z * 2) ∧ (z * 2) ≤ 2 * d.size + 20 ∧ (h).size = d.size ∧ PermIn 0 d.size d (h) ∧ Blk (z * 2) d.size (h); exact ⟨by omega, by omega, hhs, hph, by rw [Nat.mul_comm]; exact hH.full hz (by omega) (by have := hH.todo a (dvd_two hH.dv) (Nat.le_refl _); rwa [Nat.min_eq_right (by omega)] at this)⟩) (by show d.size - z * 2 < d.size - z; omega) (by repeat (first | exact .nil | refine .cons rfl ?_ | refine .consE rfl (by first | rfl | (congr 1; omega) | (congr 1; push_cast; omega)) ?_)) (Weak.refl _)
  ·skip
   have hge : d.size ≤ z := by omega
   have hfin := hBg 0 ⟨0, rfl⟩
   rw [Nat.zero_add, Nat.min_eq_right hge] at hfin
   refine R_exit ?_
   refine Q_then_exit ?_
   refine Q_then_exit ?_
   refine Q_block_eq ?_
   refine St.env (.nil) ?_
   exact R_end0 (rs2 := _) rfl rfl (.nil) (⟨rfl, _, ⟨hpg, hfin⟩, rfl⟩) (Weak.refl _)
theorem st_zero {gl : Nat → Obj} (base : Option Addr) (cap : Nat) : SpecR (cx gl) 137 [.slice base 0 cap, .int .i64 0, .func (.func 84) #[] #[]] (fun _ _ => True) [ownS 76 3 (.slice base 0 cap) 0 (rc ([] : List Mem))] (.tuple #[]) [ownS 76 3 (.slice base 0 cap) 0 (rc ([] : List Mem))] := by
 refine Spec.enter (C := cx gl) Tryz.func137 rfl 63 rfl rfl fun w0 h0 hsep hsub hpre => ?_
 show St (cx gl) _ [(0, .slice base 0 cap), (1, .int .i64 0), (2, .func (.func 84) #[] #[])] _ _
 refine R_seq ?_
 refine R_region ?_
 refine L_val rfl rfl rfl (OpP.v (P_assign rfl rfl)) ?_
 refine L_nil ?_
 refine Q_then ?_
 refine R_seq ?_
 refine R_region ?_
 refine L_val rfl rfl rfl (OpP.v (P_move rfl rfl)) ?_
 refine L_val rfl rfl rfl (OpP.v (P_assign rfl rfl)) ?_
 refine L_val rfl rfl rfl (OpP.v (P_assign rfl rfl)) ?_
 refine L_nil ?_
 refine St.env (.cons (t := 0) rfl (.cons (t := 1) rfl (.cons (t := 2) rfl (.cons (t := 6) rfl (.cons (t := 7) rfl (.cons (t := 8) rfl .nil)))))) ?_
 refine Q_then ?_
 refine R_seq ?_
 refine R_block ?_
 refine R_loopE (G := Unit) (.cons (t := 0) rfl (.cons (t := 1) rfl (.cons (t := 2) rfl (.cons (t := 6) rfl .nil)))) (fun g => [(7, .int .i64 0), (8, .int .i64 20)]) (fun g => [ownS 76 3 (.slice base 0 cap) 0 (rc ([] : List Mem))]) (fun g => True) (fun g => 0) () (trivial) (by repeat (first | exact .nil | refine .cons rfl ?_ | refine .consE rfl (by first | rfl | (congr 1; omega) | (congr 1; push_cast; omega)) ?_)) (Weak.refl _) ?_
 rintro ⟨⟩ hinv
 replace hinv : True := hinv
 show St (cx gl) _ ((7, .int .i64 0) :: (8, .int .i64 20) :: _) [ownS 76 3 (.slice base 0 cap) 0 (rc ([] : List Mem))] _
 refine R_seq ?_
 refine R_seq ?_
 refine R_region ?_
 refine L_val rfl rfl rfl (OpP.v (P_move rfl rfl)) ?_
 refine L_val rfl rfl rfl (OpP.v (P_move rfl rfl)) ?_
 refine L_val rfl rfl rfl (OpP.v (P_leq rfl rfl rfl)) ?_
 refine L_nil ?_
 refine Q_then ?_
 refine R_condF rfl ?_
 refine R_exit ?_
 refine Q_then_exit ?_
 refine Q_then_exit ?_
 refine Q_block_eq ?_
 refine St.env (.cons (t := 0) rfl (.cons (t := 1) rfl (.cons (t := 2) rfl (.cons (t := 6) rfl (.cons (t := 7) rfl (.cons (t := 8) rfl .nil)))))) ?_
 refine Q_then ?_
 refine R_seq ?_
 refine R_region ?_
 refine L_val rfl rfl rfl (OpP.v (P_move rfl rfl)) ?_
 refine L_val rfl rfl rfl (OpP.v (P_move rfl rfl)) ?_
 refine L_val rfl rfl rfl (OpP.v (P_move rfl rfl)) ?_
 refine L_val rfl rfl rfl (OpP.v (P_move rfl rfl)) ?_
 refine L_op rfl (W_call rfl rfl rfl rfl fn_ca_181 (insM_ok base cap (#[] : Array Mem) 0 0 (Nat.le_refl _) (Nat.le_refl _) (by decide)) (Split.one (p := [])) (fun _ _ _ _ _ _ _ => trivial) fun vv rs1 ⟨z1, e1, hp1, hs1, z2⟩ => ?_)
 subst z1; subst z2
 obtain rfl : e1 = #[] := Array.eq_empty_of_size_eq_zero hp1.1
 refine St.res (rs' := [ownS 76 3 (.slice base 0 cap) 0 (rc ([] : List Mem))]) (Weak.refl _) ?_
 refine L_nil ?_
 refine St.env (.cons (t := 0) rfl (.cons (t := 1) rfl (.cons (t := 2) rfl (.cons (t := 6) rfl (.cons (t := 7) rfl (.cons (t := 8) rfl .nil)))))) ?_
 refine Q_then ?_
 refine R_block ?_
 refine R_loopE (G := Unit) (.cons (t := 0) rfl (.cons (t := 1) rfl (.cons (t := 2) rfl (.cons (t := 7) rfl (.cons (t := 8) rfl .nil))))) (fun g => [(6, .int .i64 20)]) (fun g => [ownS 76 3 (.slice base 0 cap) 0 (rc ([] : List Mem))]) (fun g => True) (fun g => 0) () (trivial) (by repeat (first | exact .nil | refine .cons rfl ?_ | refine .consE rfl (by first | rfl | (congr 1; omega) | (congr 1; push_cast; omega)) ?_)) (Weak.refl _) ?_
 rintro ⟨⟩ hinv
 replace hinv : True := hinv
 show St (cx gl) _ ((6, .int .i64 20) :: _) [ownS 76 3 (.slice base 0 cap) 0 (rc ([] : List Mem))] _
 refine R_seq ?_
 refine R_seq ?_
 refine R_region ?_
 refine L_val rfl rfl rfl (OpP.v (P_move rfl rfl)) ?_
 refine L_val rfl rfl rfl (OpP.v (P_move rfl rfl)) ?_
 refine L_val rfl rfl rfl (OpP.v (P_lss rfl rfl rfl)) ?_
 refine L_nil ?_
 refine Q_then ?_
 refine R_condF rfl ?_
 refine R_exit ?_
 refine Q_then_exit ?_
 refine Q_then_exit ?_
 refine Q_block_eq ?_
 refine St.env (.nil) ?_
 exact R_end0 (rs2 := _) rfl rfl (.nil) (⟨rfl, rfl⟩) (Weak.refl _)
theorem ss_pos {gl : Nat → Obj} (b0 cap : Nat) (d : Array Mem) (hsz : d.size ≤ 1000000000000) (hcap : d.size ≤ cap) : Spec (cx gl) 83 [.slice (some ⟨b0, 0, none⟩) d.size cap, .func (.func 84) #[] #[]] (fun _ _ => True) [ownS 76 3 (.slice (some ⟨b0, 0, none⟩) d.size cap) d.size (rc (d).toList)] (fun u rs => u = .tuple #[] ∧ ∃ d' : Array Mem, (PermIn 0 d.size d d' ∧ SortedIn bt 0 d.size d') ∧ rs = [ownS 76 3 (.slice (some ⟨b0, 0, none⟩) d.size cap) d.size (rc (d').toList)]) := by
 refine Spec.enter (C := cx gl) Tryz.func83 rfl 9 rfl rfl fun w0 h0 hsep hsub hpre => ?_
 show St (cx gl) _ [(0, .slice (some ⟨b0, 0, none⟩) d.size cap), (1, .func (.func 84) #[] #[])] _ _
 refine R_region ?_
 refine L_val rfl rfl rfl (OpP.v (P_move rfl rfl)) ?_
 refine L_val rfl rfl rfl (OpP.v (P_move rfl rfl)) ?_
 refine L_val rfl rfl rfl (OpP.v (P_len rfl ty_sl_68 rfl)) ?_
 refine L_val rfl rfl rfl (OpP.v (P_move rfl rfl)) ?_
 refine L_op rfl (W_call rfl rfl rfl rfl fn_ca_137 (st_pos b0 cap d hsz hcap) (Split.one (p := [])) (fun _ _ _ _ _ _ _ => trivial) fun vv rs1 ⟨z1, e1, he1, z2⟩ => ?_)
 subst z1; subst z2
 refine St.res (rs' := [ownS 76 3 (.slice (some ⟨b0, 0, none⟩) d.size cap) d.size (rc (e1).toList)]) (Weak.refl _) ?_
 refine L_nil ?_
 refine St.env (.nil) ?_
 exact R_end0 (rs2 := _) rfl rfl (.nil) (⟨rfl, _, he1, rfl⟩) (Weak.refl _)
theorem ss_zero {gl : Nat → Obj} (base : Option Addr) (cap : Nat) : SpecR (cx gl) 83 [.slice base 0 cap, .func (.func 84) #[] #[]] (fun _ _ => True) [ownS 76 3 (.slice base 0 cap) 0 (rc ([] : List Mem))] (.tuple #[]) [ownS 76 3 (.slice base 0 cap) 0 (rc ([] : List Mem))] := by
 refine Spec.enter (C := cx gl) Tryz.func83 rfl 9 rfl rfl fun w0 h0 hsep hsub hpre => ?_
 show St (cx gl) _ [(0, .slice base 0 cap), (1, .func (.func 84) #[] #[])] _ _
 refine R_region ?_
 refine L_val rfl rfl rfl (OpP.v (P_move rfl rfl)) ?_
 refine L_val rfl rfl rfl (OpP.v (P_move rfl rfl)) ?_
 refine L_val rfl rfl rfl (OpP.v (P_len rfl ty_sl_68 rfl)) ?_
 refine L_val rfl rfl rfl (OpP.v (P_move rfl rfl)) ?_
 refine L_op rfl (W_callR rfl rfl rfl rfl fn_ca_137 (st_zero base cap) (Split.one (p := [])) (fun _ _ _ _ _ _ _ => trivial) ?_)
 refine L_nil ?_
 refine St.env (.nil) ?_
 exact R_end0 (rs2 := _) rfl rfl (.nil) (⟨rfl, rfl⟩) (Weak.refl _)
theorem ssM_ok {gl : Nat → Obj} (base : Option Addr) (cap : Nat) (d : Array Mem) (hsz : d.size ≤ 1000000000000) : Spec (cx gl) 83 [.slice base d.size cap, .func (.func 84) #[] #[]] (fun _ _ => True) [ownS 76 3 (.slice base d.size cap) d.size (rc (d).toList)] (fun u rs => u = .tuple #[] ∧ ∃ d' : Array Mem, (PermIn 0 d.size d d' ∧ SortedIn bt 0 d.size d') ∧ rs = [ownS 76 3 (.slice base d.size cap) d.size (rc (d').toList)]) := by
 intro w h hsep sub hp
 rcases Nat.eq_zero_or_pos d.size with h0 | hpos
 ·obtain rfl : d = #[] := Array.eq_empty_of_size_eq_zero h0
  refine (ss_zero base cap w h hsep sub hp).mono ?_
  rintro e w' ⟨v, rs, h', rfl, ⟨rfl, rfl⟩, hs, mv⟩
  exact ⟨_, _, h', rfl, ⟨rfl, #[], ⟨permIn_refl _ _ _, sorted_one (by decide)⟩, rfl⟩, hs, mv⟩
 ·obtain hown := Sep.single.1 hsep
  obtain ⟨b, hb, hc⟩ : ∃ b, base = some ⟨b, 0, none⟩ ∧ d.size ≤ cap := by
   rcases hown.2 with ⟨_, h0, _⟩ | ⟨b', cap', junk, e, hc, _⟩
   ·omega
   ·simp only [Value.slice.injEq] at e; exact ⟨b', e.1, by omega⟩
  subst hb
  exact ss_pos b cap d hsz hc w h hsep sub hp
end Go.Proofs.YtfhjhaogmdaepaaGreatDoor

/- Places, Sound. Printed by gen.py. -/
set_option linter.unusedVariables false
set_option linter.unusedSimpArgs false
set_option maxRecDepth 100000
namespace Go.Proofs.YtfhjhaogmdaepaaGreatDoor
open Go Go.RowKit Go.Proofs
theorem place_neg (l : List Acc) (a : Int) : placeI l a < 0 ↔ spotB l a = false := by
 unfold placeI
 cases spotB l a with
 | true => rw [if_pos rfl]; exact ⟨fun h => by omega, fun h => by cases h⟩
 | false => rw [if_neg (by decide)]; exact ⟨fun _ => rfl, fun _ => by decide⟩
theorem spot1_ok {gl : Nat → Obj} (x : Acc) (a : Int) : SpecV (cx gl) 143 [.agg x.cells.toArray, .int .u64 a] noPre (.int .i64 (cmpI x.a a)) := by
 refine Spec.enter (C := cx gl) Tryz.func143 rfl 9 rfl rfl fun w0 h0 hsep hsub hpre => ?_
 obtain rfl : h0 = Heap.none := hsep
 show St (cx gl) _ [(0, .agg x.cells.toArray), (1, .int .u64 a)] _ _
 refine R_seq ?_
 refine R_region ?_
 refine L_op rfl (W_box (x.cells) rfl rfl rfl rfl rfl fun b2 => ?_)
 refine L_val rfl rfl rfl (OpP.v (P_assign rfl rfl)) ?_
 refine L_nil ?_
 refine St.env (.cons (t := 1) rfl (.cons (t := 2) rfl (.cons (t := 4) rfl .nil))) ?_
 refine Q_then ?_
 refine R_seq ?_
 refine R_region ?_
 refine L_val rfl rfl rfl (OpP.v (P_fld0 rfl ty_fl_38_0 rfl)) ?_
 refine L_val rfl rfl rfl (V_load rfl rfl ty_sc_27 (Rd.blk .h0 rfl)) ?_
 refine L_val rfl rfl rfl (OpP.v (P_move rfl rfl)) ?_
 refine L_op rfl (W_callV rfl rfl rfl rfl fn_ca_87 (cmpa_ok _ _) (fun _ _ => trivial) ?_)
 refine L_val rfl rfl rfl (OpP.v (P_assign rfl rfl)) ?_
 refine L_nil ?_
 refine St.env (.cons (t := 4) rfl .nil) ?_
 refine Q_then ?_
 refine R_ret ?_
 exact R_endV rfl rfl (.tmp rfl .nil) (rfl)
theorem bsA_ok {gl : Nat → Obj} (a : Int) (base : Option Addr) (c : Nat) (l : List Acc) (hc : l.length ≤ c) (hm : l.length ≤ 3518437208883) : SpecV (cx gl) 142 [.slice base l.length c, .int .u64 a, .func (.func 143) #[] #[]] (fun w => Row w base (rc l)) (.tuple #[.int .i64 (spotI l a), .bool (spotB l a)]) := by
 refine Spec.enter (C := cx gl) Tryz.func142 rfl 49 rfl rfl fun w0 h0 hsep hsub hpre => ?_
 obtain rfl : h0 = Heap.none := hsep
 show St (cx gl) _ [(0, .slice base l.length c), (1, .int .u64 a), (2, .func (.func 143) #[] #[])] _ _
 refine R_seq ?_
 refine R_region ?_
 refine L_val rfl rfl rfl (OpP.v (P_assign rfl rfl)) ?_
 refine L_val rfl rfl rfl (OpP.v (P_assign rfl rfl)) ?_
 refine L_nil ?_
 refine Q_then ?_
 refine R_seq ?_
 refine R_region ?_
 refine L_val rfl rfl rfl (OpP.v (P_move rfl rfl)) ?_
 refine L_val rfl rfl rfl (OpP.v (P_len rfl ty_sl_22 rfl)) ?_
 refine L_val rfl rfl rfl (OpP.v (P_assign rfl rfl)) ?_
 refine L_nil ?_
 refine St.env (.cons (t := 0) rfl (.cons (t := 1) rfl (.cons (t := 2) rfl (.cons (t := 6) rfl (.cons (t := 7) rfl (.cons (t := 8) rfl .nil)))))) ?_
 refine Q_then ?_
 refine R_seq ?_
 refine R_region ?_
 refine L_val rfl rfl rfl (OpP.v (P_move rfl rfl)) ?_
 refine L_val rfl rfl rfl (OpP.v (P_assign rfl rfl)) ?_
 refine L_val rfl rfl rfl (OpP.v (P_assign rfl rfl)) ?_
 refine L_nil ?_
 refine St.env (.cons (t := 0) rfl (.cons (t := 1) rfl (.cons (t := 2) rfl (.cons (t := 6) rfl (.cons (t := 7) rfl (.cons (t := 8) rfl (.cons (t := 9) rfl (.cons (t := 10) rfl .nil)))))))) ?_
 refine Q_then ?_
 refine R_seq ?_
 refine R_block ?_
 refine R_loopE (G := Nat × Nat) (.cons (t := 0) rfl (.cons (t := 1) rfl (.cons (t := 2) rfl (.cons (t := 6) rfl (.cons (t := 7) rfl (.cons (t := 8) rfl .nil)))))) (fun g => [(9, .int .i64 ((g.1 : Nat) : Int)), (10, .int .i64 ((g.2 : Nat) : Int))]) (fun _ => _) (fun g => g.1 ≤ g.2 ∧ g.2 ≤ l.length ∧ spotI l a = bsN (fun i => decide ((accAt l i).a < a)) g.1 g.2) (fun g => g.2 - g.1) (0, l.length) (by show (0) ≤ (l.length) ∧ (l.length) ≤ l.length ∧ spotI l a = bsN (fun i => decide ((accAt l i).a < a)) (0) (l.length); exact ⟨Nat.zero_le _, Nat.le_refl _, rfl⟩) (by repeat (first | exact .nil | refine .cons rfl ?_ | refine .consE rfl (by first | rfl | (congr 1; omega) | (congr 1; push_cast; omega)) ?_)) (Weak.refl _) ?_
 rintro ⟨lo, hi⟩ hinv
 replace hinv : lo ≤ hi ∧ hi ≤ l.length ∧ spotI l a = bsN (fun i => decide ((accAt l i).a < a)) lo hi := hinv
 show St (cx gl) _ ((9, .int .i64 ((lo : Nat) : Int)) :: (10, .int .i64 ((hi : Nat) : Int)) :: _) _ _
 obtain ⟨h1, h2, h3⟩ := hinv
 refine R_seq ?_
 refine R_seq ?_
 refine R_region ?_
 refine L_val rfl rfl rfl (OpP.v (P_move rfl rfl)) ?_
 refine L_val rfl rfl rfl (OpP.v (P_move rfl rfl)) ?_
 refine L_val rfl rfl rfl (OpP.v (P_lss rfl rfl rfl)) ?_
 refine L_nil ?_
 refine Q_then ?_
 refine R_condP rfl (fun hlt => ?_) (fun hlt => ?_)
 ·skip
  have hx := accAt_get (l := l) (i := (lo + hi) / 2) (by omega)
  obtain ⟨pb, pj, rfl, hrow⟩ := hpre.some_ (by rw [rc_length]; show 0 < _ * 5; omega)
  refine R_skip ?_
  refine Q_then ?_
  refine R_block ?_
  refine R_seq ?_
  refine R_region ?_
  refine L_val rfl rfl rfl (OpP.v (P_move rfl rfl)) ?_
  refine L_val rfl rfl rfl (OpP.v (P_move rfl rfl)) ?_
  first | (refine L_val rfl rfl rfl (OpP.v (P_addN rfl rfl rfl (by simp only [fits]; omega))) ?_) | (refine L_val rfl rfl rfl (OpP.v (P_add rfl rfl rfl)) ?_)
  first | (refine L_val rfl rfl rfl (OpP.v (P_convN rfl ty_int_3 ty_int_133 rfl (by simp only [fits]; omega))) ?_) | (refine L_val rfl rfl rfl (OpP.v (P_conv rfl ty_int_3 ty_int_133 rfl)) ?_)
  refine L_val rfl rfl rfl (OpP.v (P_shr rfl rfl rfl (by omega))) ?_
  refine E_as (t := 22) (v' := .int .u64 (((lo + hi) / 2 : Nat) : Int)) rfl (by have h9 := half_nat (lo + hi); push_cast at h9 ⊢; rw [h9]) ?_
  first | (refine L_val rfl rfl rfl (OpP.v (P_convN rfl ty_int_133 ty_int_3 rfl (by simp only [fits]; omega))) ?_) | (refine L_val rfl rfl rfl (OpP.v (P_conv rfl ty_int_133 ty_int_3 rfl)) ?_)
  refine L_val rfl rfl rfl (OpP.v (P_assign rfl rfl)) ?_
  refine L_nil ?_
  refine Q_then ?_
  refine R_seq ?_
  refine R_region ?_
  refine L_val rfl rfl rfl (OpP.v (P_move rfl rfl)) ?_
  refine L_val rfl rfl rfl (OpP.v (P_move rfl rfl)) ?_
  refine L_val rfl rfl rfl (OpP.v (P_move rfl rfl)) ?_
  refine L_val rfl rfl rfl (OpP.v (P_ixs ((lo + hi) / 2) rfl ty_sl_22 rfl rfl (by first | rfl | omega) (by omega))) ?_
  refine L_val rfl rfl rfl (V_loadAgg rfl rfl ty_ag_38 (rds_rc (Rds.row hrow rfl) hx) (rfl)) ?_
  refine L_val rfl rfl rfl (OpP.v (P_move rfl rfl)) ?_
  refine L_op rfl (W_callFV (fi := []) (ca := []) rfl rfl rfl rfl rfl rfl fn_ca_143 (spot1_ok (accAt l ((lo + hi) / 2)) a) (fun _ _ => trivial) ?_)
  refine L_val rfl rfl rfl (OpP.v (P_lss rfl rfl rfl)) ?_
  refine L_nil ?_
  refine Q_then ?_
  refine R_condP rfl (fun hb => ?_) (fun hb => ?_)
  ·skip
   refine R_region ?_
   refine L_val rfl rfl rfl (OpP.v (P_move rfl rfl)) ?_
   first | (refine L_val rfl rfl rfl (OpP.v (P_addN rfl rfl rfl (by simp only [fits]; omega))) ?_) | (refine L_val rfl rfl rfl (OpP.v (P_add rfl rfl rfl)) ?_)
   refine L_val rfl rfl rfl (OpP.v (P_assign rfl rfl)) ?_
   refine L_nil ?_
   refine Q_block ?_
   exact Q_round ((lo + hi) / 2 + 1, hi) (by show ((lo + hi) / 2 + 1) ≤ (hi) ∧ (hi) ≤ l.length ∧ spotI l a = bsN (fun i => decide ((accAt l i).a < a)) ((lo + hi) / 2 + 1) (hi); exact ⟨by omega, h2, by rw [h3]; exact bsN_up (by omega) (decide_eq_true ((cmpI_neg _ _).1 hb))⟩) (by show hi - ((lo + hi) / 2 + 1) < hi - lo; omega) (by repeat (first | exact .nil | refine .cons rfl ?_ | refine .consE rfl (by first | rfl | (congr 1; omega) | (congr 1; push_cast; omega)) ?_)) (Weak.refl _)
  ·skip
   refine R_region ?_
   refine L_val rfl rfl rfl (OpP.v (P_move rfl rfl)) ?_
   refine L_val rfl rfl rfl (OpP.v (P_assign rfl rfl)) ?_
   refine L_nil ?_
   refine Q_block ?_
   exact Q_round (lo, (lo + hi) / 2) (by show (lo) ≤ ((lo + hi) / 2) ∧ ((lo + hi) / 2) ≤ l.length ∧ spotI l a = bsN (fun i => decide ((accAt l i).a < a)) (lo) ((lo + hi) / 2); exact ⟨by omega, by omega, by rw [h3]; exact bsN_down (by omega) (decide_eq_false fun h9 => hb ((cmpI_neg _ _).2 h9))⟩) (by show (lo + hi) / 2 - lo < hi - lo; omega) (by repeat (first | exact .nil | refine .cons rfl ?_ | refine .consE rfl (by first | rfl | (congr 1; omega) | (congr 1; push_cast; omega)) ?_)) (Weak.refl _)
 ·skip
  have hin : hi = lo := by omega
  have hsp : spotI l a = lo := by rw [h3]; exact bsN_end (by omega)
  refine R_exit ?_
  refine Q_then_exit ?_
  refine Q_then_exit ?_
  refine Q_block_eq ?_
  refine St.env (.cons (t := 0) rfl (.cons (t := 1) rfl (.cons (t := 2) rfl (.cons (t := 6) rfl (.cons (t := 7) rfl (.cons (t := 8) rfl (.cons (t := 9) rfl .nil))))))) ?_
  refine Q_then ?_
  refine R_seq ?_
  refine R_region ?_
  refine L_val rfl rfl rfl (OpP.v (P_move rfl rfl)) ?_
  refine L_val rfl rfl rfl (OpP.v (P_move rfl rfl)) ?_
  refine L_val rfl rfl rfl (OpP.v (P_move rfl rfl)) ?_
  refine L_val rfl rfl rfl (OpP.v (P_lss rfl rfl rfl)) ?_
  refine E_bool (t := 38) rfl (fun hl2 => ?_) (fun hl2 => ?_)
  ·skip
   have hl2 : lo < l.length := by have := of_decide_eq_true hl2; omega
   have hx := accAt_get hl2
   obtain ⟨pb, pj, rfl, hrow⟩ := hpre.some_ (by rw [rc_length]; show 0 < _ * 5; omega)
   refine L_val rfl rfl rfl (OpP.v (P_move rfl rfl)) ?_
   refine L_val rfl rfl rfl (OpP.v (P_move rfl rfl)) ?_
   refine L_val rfl rfl rfl (OpP.v (P_move rfl rfl)) ?_
   refine L_val rfl rfl rfl (OpP.v (P_move rfl rfl)) ?_
   refine L_val rfl rfl rfl (OpP.v (P_ixs (lo) rfl ty_sl_22 rfl rfl (by first | rfl | omega) (by omega))) ?_
   refine L_val rfl rfl rfl (V_loadAgg rfl rfl ty_ag_38 (rds_rc (Rds.row hrow rfl) hx) (rfl)) ?_
   refine L_val rfl rfl rfl (OpP.v (P_move rfl rfl)) ?_
   refine L_op rfl (W_callFV (fi := []) (ca := []) rfl rfl rfl rfl rfl rfl fn_ca_143 (spot1_ok (accAt l lo) a) (fun _ _ => trivial) ?_)
   refine L_val rfl rfl rfl (OpP.v (P_eql rfl rfl rfl)) ?_
   refine L_val rfl rfl rfl (OpP.v (P_pick rfl rfl rfl)) ?_
   refine L_val rfl rfl rfl (OpP.v (P_assign rfl rfl)) ?_
   refine L_val rfl rfl rfl (OpP.v (P_assign rfl rfl)) ?_
   refine L_nil ?_
   refine St.env (.cons (t := 6) rfl (.cons (t := 7) rfl .nil)) ?_
   refine Q_then ?_
   refine R_ret ?_
   exact R_endV rfl rfl (.tmp rfl (.tmp rfl .nil)) (by unfold spotB; rw [hsp]; first | (rw [decide_eq_false hl2]; rfl) | (rw [decide_eq_true hl2, Bool.true_and, show decide ((accAt l lo).a = a) = decide (cmpI (accAt l lo).a a = 0) from decide_eq_decide.2 (cmpI_zero _ _).symm]; rfl))
  ·skip
   have hl2 : ¬ lo < l.length := by have := of_decide_eq_false hl2; omega
   refine L_val rfl rfl rfl (OpP.v (P_move rfl rfl)) ?_
   refine L_no rfl rfl rfl ?_
   refine L_no rfl rfl rfl ?_
   refine L_no rfl rfl rfl ?_
   refine L_no rfl rfl rfl ?_
   refine L_no rfl rfl rfl ?_
   refine L_no rfl rfl rfl ?_
   refine L_no rfl rfl rfl ?_
   refine L_no rfl rfl rfl ?_
   refine L_val rfl rfl rfl (OpP.v (P_pick rfl rfl rfl)) ?_
   refine L_val rfl rfl rfl (OpP.v (P_assign rfl rfl)) ?_
   refine L_val rfl rfl rfl (OpP.v (P_assign rfl rfl)) ?_
   refine L_nil ?_
   refine St.env (.cons (t := 6) rfl (.cons (t := 7) rfl .nil)) ?_
   refine Q_then ?_
   refine R_ret ?_
   exact R_endV rfl rfl (.tmp rfl (.tmp rfl .nil)) (by unfold spotB; rw [hsp]; first | (rw [decide_eq_false hl2]; rfl) | (rw [decide_eq_true hl2, Bool.true_and, show decide ((accAt l lo).a = a) = decide (cmpI (accAt l lo).a a = 0) from decide_eq_decide.2 (cmpI_zero _ _).symm]; rfl))
theorem spot_ok {gl : Nat → Obj} (base : Option Addr) (c : Nat) (l : List Acc) (hc : l.length ≤ c) (hm : l.length ≤ 3518437208883) (r : Value) (hr : r.oneCell' = true) (bu su a : Int) : SpecV (cx gl) 90 [.agg (ledV (.slice base l.length c) r bu su).toArray, .int .u64 a] (fun w => Row w base (rc l)) (.tuple #[.int .i64 (spotI l a), .bool (spotB l a)]) := by
 refine Spec.enter (C := cx gl) Tryz.func90 rfl 12 rfl rfl fun w0 h0 hsep hsub hpre => ?_
 obtain rfl : h0 = Heap.none := hsep
 show St (cx gl) _ [(0, .agg (ledV (.slice base l.length c) r bu su).toArray), (1, .int .u64 a)] _ _
 refine R_seq ?_
 refine R_region ?_
 refine L_op rfl (W_box (ledV (.slice base l.length c) r bu su) rfl rfl rfl rfl rfl fun b2 => ?_)
 refine L_val rfl rfl rfl (OpP.v (P_assign rfl rfl)) ?_
 refine L_val rfl rfl rfl (OpP.v (P_assign rfl rfl)) ?_
 refine L_nil ?_
 refine St.env (.cons (t := 1) rfl (.cons (t := 2) rfl (.cons (t := 4) rfl (.cons (t := 5) rfl .nil)))) ?_
 refine Q_then ?_
 refine R_seq ?_
 refine R_region ?_
 refine L_val rfl rfl rfl (OpP.v (P_fld0 rfl ty_fl_26_0 rfl)) ?_
 refine L_val rfl rfl rfl (V_load rfl rfl ty_sc_22 (Rd.blk .h0 rfl)) ?_
 refine L_val rfl rfl rfl (OpP.v (P_move rfl rfl)) ?_
 refine L_op rfl (W_callV rfl rfl rfl rfl fn_ca_142 (bsA_ok a base c l hc hm) (fun w nw => (Sn.row hpre rfl).rw_ w nw) ?_)
 refine L_val rfl rfl rfl (OpP.v (P_extract rfl rfl rfl)) ?_
 refine L_val rfl rfl rfl (OpP.v (P_extract rfl rfl rfl)) ?_
 refine L_val rfl rfl rfl (OpP.v (P_assign rfl rfl)) ?_
 refine L_val rfl rfl rfl (OpP.v (P_assign rfl rfl)) ?_
 refine L_nil ?_
 refine St.env (.cons (t := 4) rfl (.cons (t := 5) rfl .nil)) ?_
 refine Q_then ?_
 refine R_ret ?_
 exact R_endV rfl rfl (.tmp rfl (.tmp rfl .nil)) (rfl)
theorem place_ok {gl : Nat → Obj} (base : Option Addr) (c : Nat) (l : List Acc) (hc : l.length ≤ c) (hm : l.length ≤ 3518437208883) (r : Value) (hr : r.oneCell' = true) (bu su a : Int) : SpecV (cx gl) 76 [.agg (ledV (.slice base l.length c) r bu su).toArray, .int .u64 a] (fun w => Row w base (rc l)) (.int .i64 (placeI l a)) := by
 refine Spec.enter (C := cx gl) Tryz.func76 rfl 15 rfl rfl fun w0 h0 hsep hsub hpre => ?_
 obtain rfl : h0 = Heap.none := hsep
 show St (cx gl) _ [(0, .agg (ledV (.slice base l.length c) r bu su).toArray), (1, .int .u64 a)] _ _
 refine R_seq ?_
 refine R_region ?_
 refine L_op rfl (W_box (ledV (.slice base l.length c) r bu su) rfl rfl rfl rfl rfl fun b2 => ?_)
 refine L_val rfl rfl rfl (OpP.v (P_assign rfl rfl)) ?_
 refine L_nil ?_
 refine St.env (.cons (t := 1) rfl (.cons (t := 2) rfl (.cons (t := 4) rfl .nil))) ?_
 refine Q_then ?_
 refine R_seq ?_
 refine R_seq ?_
 refine R_region ?_
 refine L_val rfl rfl rfl (V_loadAgg rfl rfl ty_ag_26 (Rds.blk .h0) (rfl)) ?_
 refine L_val rfl rfl rfl (OpP.v (P_move rfl rfl)) ?_
 refine L_op rfl (W_callV rfl rfl rfl rfl fn_ca_90 (spot_ok base c l hc hm r hr bu su a) (fun w nw => (Sn.row hpre rfl).rw_ w nw) ?_)
 refine L_val rfl rfl rfl (OpP.v (P_move rfl rfl)) ?_
 refine L_val rfl rfl rfl (OpP.v (P_extract rfl rfl rfl)) ?_
 refine L_val rfl rfl rfl (OpP.v (P_extract rfl rfl rfl)) ?_
 refine L_val rfl rfl rfl (OpP.v (P_assign rfl rfl)) ?_
 refine L_val rfl rfl rfl (OpP.v (P_assign rfl rfl)) ?_
 refine L_nil ?_
 refine St.env (.cons (t := 4) rfl (.cons (t := 5) rfl (.cons (t := 6) rfl .nil))) ?_
 refine Q_then ?_
 refine R_seq ?_
 refine R_region ?_
 refine L_val rfl rfl rfl (OpP.v (P_move rfl rfl)) ?_
 refine L_nil ?_
 refine St.env (.cons (t := 4) rfl (.cons (t := 5) rfl (.cons (t := 13) rfl .nil))) ?_
 refine Q_then ?_
 refine R_cond rfl (fun hb => ?_) (fun hb => ?_)
 ·skip
  refine R_seq ?_
  refine R_region ?_
  refine L_val rfl rfl rfl (OpP.v (P_move rfl rfl)) ?_
  refine L_val rfl rfl rfl (OpP.v (P_assign rfl rfl)) ?_
  refine L_nil ?_
  refine St.env (.cons (t := 4) rfl .nil) ?_
  refine Q_then ?_
  refine R_ret ?_
  refine Q_then_ret ?_
  exact R_endV rfl rfl (.tmp rfl .nil) (by unfold placeI; rw [if_pos hb]; rfl)
 ·skip
  refine R_skip ?_
  refine Q_then ?_
  refine R_seq ?_
  refine R_region ?_
  refine L_val rfl rfl rfl (OpP.v (P_assign rfl rfl)) ?_
  refine L_nil ?_
  refine St.env (.cons (t := 4) rfl .nil) ?_
  refine Q_then ?_
  refine R_ret ?_
  exact R_endV rfl rfl (.tmp rfl .nil) (by unfold placeI; rw [if_neg (by rw [hb]; decide)]; rfl)
end Go.Proofs.YtfhjhaogmdaepaaGreatDoor

/- Seats. Printed by gen.py. -/
set_option linter.unusedVariables false
set_option linter.unusedSimpArgs false
set_option maxRecDepth 100000
namespace Go.Proofs.YtfhjhaogmdaepaaGreatDoor
open Go Go.RowKit Go.Proofs Go.Sort
/-- The settings. -/
structure Par where
 mb : Int
 seats : Int
 p2 : Int
 p3 : Int
 p4 : Int
 p5 : Int
 p6 : Int
 p7 : Int
 p8 : Int
 p9 : Int
 p10 : Int
 p11 : Int
def Par.cells (p : Par) : List Value := [.int .u64 p.mb, .int .i64 p.seats, .int .u64 p.p2, .int .u64 p.p3, .int .u64 p.p4, .int .i64 p.p5, .int .u64 p.p6, .int .u64 p.p7, .int .u64 p.p8, .int .u64 p.p9, .int .u64 p.p10, .int .u64 p.p11]
theorem Par.one (p : Par) : ∀ v ∈ p.cells, v.oneCell' = true := by
 intro v hv; simp only [Par.cells, List.mem_cons, List.not_mem_nil, or_false] at hv
 rcases hv with rfl | rfl | rfl | rfl | rfl | rfl | rfl | rfl | rfl | rfl | rfl | rfl <;> rfl
theorem perm_all {d d' : Array Mem} (h : PermIn 0 d.size d d') : d'.toList.Perm d.toList := by
 have h2 := h.2.2
 rw [Array.extract_size, ← h.1, Array.extract_size] at h2
 exact h2
theorem sorted_list {lt : Mem → Mem → Bool} {d : Array Mem} {n : Nat} (h : SortedIn lt 0 n d) (hn : n = d.size) : ∀ (i j : Nat) (hij : i < j) (hj : j < d.toList.length), lt d.toList[j] (d.toList[i]'(by omega)) = false := fun i j hij hj => by
 have hj' : j < d.size := hj
 have h2 := h i j (Nat.zero_le _) hij (by omega)
 rw [getElem!_pos d j hj', getElem!_pos d i (by omega)] at h2
 exact h2
theorem ownS_cut {T sz n cap n' : Nat} {b : Option Addr} {cs : List Value} {rs : List HP} (h : n' ≤ n) : Weak (ownS T sz (.slice b n cap) n cs :: rs) (ownS T sz (.slice b n' n') n' (cs.take (n' * sz)) :: rs) := Weak.turn .h0 fun a ⟨hl, hx⟩ => by
 have hm : n' * sz ≤ n * sz := Nat.mul_le_mul_right _ h
 refine ⟨by rw [List.length_take, hl]; omega, ?_⟩
 rcases hx with ⟨⟨b0, e⟩, h0, ha⟩ | ⟨b', cap', junk, e, h1, h2, h3, h4⟩
 ·obtain rfl : n' = 0 := by omega
  exact .inl ⟨⟨b, rfl⟩, rfl, ha⟩
 ·simp only [Value.slice.injEq, true_and] at e
  obtain ⟨rfl, rfl⟩ := e
  refine .inr ⟨b', n', cs.drop (n' * sz) ++ junk, rfl, Nat.le_refl _, by omega, ?_, ?_⟩
  ·rw [← List.append_assoc, List.take_append_drop, List.length_append, hl]; omega
  ·rw [← List.append_assoc, List.take_append_drop]; exact h4
theorem sliced_0 (b : Option Addr) (q : Nat) (sz : Nat) : sliced b 0 q q sz = .slice b q q := by
 unfold sliced
 rw [Nat.zero_mul, Nat.sub_zero]
 split
 ·rfl
 ·cases b with
  | none => rfl
  | some a => simp [Addr.add]
theorem mostN_eq (s : Int) (n : Nat) : (if (n : Int) < (if (64 : Int) < (if 0 > s then 0 else s) then 64 else (if 0 > s then 0 else s)) then (n : Int) else (if (64 : Int) < (if 0 > s then 0 else s) then 64 else (if 0 > s then 0 else s))) = ((mostN s n : Nat) : Int) := by
 unfold mostN
 split <;> split <;> split <;> omega
theorem cand_snoc {mb : Int} {l : List Acc} {i : Nat} {x : Acc} (h : l[i]? = some x) : candM mb (l.take (i + 1)) = candM mb (l.take i) ++ (if sits mb x = true then [memA x] else []) := by
 unfold candM
 rw [List.take_add_one, h, List.filter_append, List.map_append]
 congr 1
 show List.map memA (List.filter (sits mb) [x]) = _
 rw [List.filter_cons, List.filter_nil]
 split <;> rfl
theorem cand_yes {mb : Int} {l : List Acc} {i : Nat} {x : Acc} (h : l[i]? = some x) (hs : sits mb x = true) : candM mb (l.take (i + 1)) = candM mb (l.take i) ++ [memA x] := by rw [cand_snoc h, if_pos hs]
theorem cand_no {mb : Int} {l : List Acc} {i : Nat} {x : Acc} (h : l[i]? = some x) (hs : sits mb x = false) : candM mb (l.take (i + 1)) = candM mb (l.take i) := by rw [cand_snoc h, if_neg (by rw [hs]; decide), List.append_nil]
theorem cand_len (mb : Int) (l : List Acc) : (candM mb l).length ≤ l.length := by unfold candM; rw [List.length_map]; exact List.length_filter_le _ _
theorem seats_done {mb seats : Int} {l : List Acc} {d1 e d2 : Array Mem} (hf : AccFine l) (hp1 : PermIn 0 (candM mb l).length (candM mb l).toArray d1) (hs1 : SortedIn bt 0 (candM mb l).length d1) (he : e.toList = d1.toList.take (mostN seats (candM mb l).length)) (hp2 : PermIn 0 e.size e d2) (hs2 : SortedIn ltA 0 e.size d2) : SeatsOf mb seats l d2.toList := by
 have hlen : d1.toList.length = (candM mb l).length := hp1.1
 refine seats_of hf (perm_all (d := (candM mb l).toArray) hp1) (sorted_list hs1 hlen.symm) ?_ (sorted_list hs2 hp2.1.symm)
 rw [hlen, ← he]
 exact perm_all hp2
theorem seats_ok {gl : Nat → Obj} (base : Option Addr) (c : Nat) (l : List Acc) (hc : l.length ≤ c) (hm : l.length ≤ 65536) (hf : AccFine l) (r : Value) (hr : r.oneCell' = true) (bu su : Int) (p : Par) : Spec (cx gl) 31 [.agg (ledV (.slice base l.length c) r bu su).toArray, .agg p.cells.toArray] (fun w _ => Row w base (rc l)) [] (fun v rs => ∃ (R : List Mem) (b : Option Addr) (c : Nat), v = .slice b R.length c ∧ SeatsOf p.mb p.seats l R ∧ rs = [ownS 76 3 (.slice b R.length c) (R.length) (rc R)]) := by
 refine Spec.enter (C := cx gl) Tryz.func31 rfl 55 rfl rfl fun w0 h0 hsep hsub hpre => ?_
 obtain rfl : h0 = Heap.none := hsep
 show St (cx gl) _ [(0, .agg (ledV (.slice base l.length c) r bu su).toArray), (1, .agg p.cells.toArray)] _ _
 refine R_seq ?_
 refine R_region ?_
 refine L_op rfl (W_box (ledV (.slice base l.length c) r bu su) rfl rfl rfl rfl rfl fun b2 => ?_)
 refine L_op rfl (W_box (p.cells) rfl rfl rfl rfl rfl fun b3 => ?_)
 refine L_val rfl rfl rfl (OpP.v (P_assign rfl rfl)) ?_
 refine L_nil ?_
 refine St.env (.cons (t := 2) rfl (.cons (t := 3) rfl (.cons (t := 4) rfl .nil))) ?_
 refine Q_then ?_
 refine R_seq ?_
 refine R_region ?_
 refine L_val rfl rfl rfl (OpP.v (P_assign rfl rfl)) ?_
 refine L_nil ?_
 refine Q_then ?_
 refine R_seq ?_
 refine R_seq ?_
 refine R_region ?_
 refine L_val rfl rfl rfl (OpP.v (P_fld0 rfl ty_fl_26_0 rfl)) ?_
 refine L_val rfl rfl rfl (V_load rfl rfl ty_sc_22 (Rd.blk .h1 rfl)) ?_
 refine L_val rfl rfl rfl (OpP.v (P_len rfl ty_sl_22 rfl)) ?_
 refine L_val rfl rfl rfl (OpP.v (P_move rfl rfl)) ?_
 refine L_nil ?_
 refine St.env (.cons (t := 3) rfl (.cons (t := 4) rfl (.cons (t := 5) rfl (.cons (t := 10) rfl (.cons (t := 11) rfl (.cons (t := 12) rfl .nil)))))) ?_
 refine Q_then ?_
 refine R_block ?_
 refine R_loopE (G := Nat × Value) (.cons (t := 3) rfl (.cons (t := 4) rfl (.cons (t := 10) rfl (.cons (t := 11) rfl .nil)))) (fun g => [(5, g.2), (12, .int .i64 (g.1 : Int))]) (fun g => [ownS 76 3 (g.2) ((candM p.mb (l.take g.1)).length) (rc (candM p.mb (l.take g.1))), blk b3 p.cells 62, blk b2 (ledV (.slice base l.length c) r bu su) 26]) (fun g => g.1 ≤ l.length) (fun g => l.length - g.1) (0, .slice none 0 0) (Nat.zero_le _) (by repeat (first | exact .nil | refine .cons rfl ?_ | refine .consE rfl (by first | rfl | (congr 1; omega) | (congr 1; push_cast; omega)) ?_)) (Weak.newNil) ?_
 rintro ⟨i, v⟩ hinv
 replace hinv : i ≤ l.length := hinv
 show St (cx gl) _ ((5, v) :: (12, .int .i64 (i : Int)) :: _) [ownS 76 3 (v) ((candM p.mb (l.take i)).length) (rc (candM p.mb (l.take i))), blk b3 p.cells 62, blk b2 (ledV (.slice base l.length c) r bu su) 26] _
 refine R_seq ?_
 refine R_region ?_
 refine L_val rfl rfl rfl (OpP.v (P_lss rfl rfl rfl)) ?_
 refine L_nil ?_
 refine Q_then ?_
 refine R_seq ?_
 refine R_condP rfl (fun hlt => ?_) (fun hlt => ?_)
 ·skip
  have hi : i ≤ l.length := hinv
  have hx0 := accAt_get (l := l) (i := i) (by omega)
  obtain ⟨x, ex⟩ : ∃ x, x = accAt l i := ⟨_, rfl⟩
  have hx : l[i]? = some x := by rw [ex]; exact hx0
  obtain ⟨pb, pj, rfl, hrow⟩ := hpre.some_ (by rw [rc_length]; show 0 < _ * 5; omega)
  have hcl := cand_len p.mb (l.take i)
  rw [List.length_take] at hcl
  refine R_skip ?_
  refine Q_then ?_
  refine R_seq ?_
  refine R_block ?_
  refine R_seq ?_
  refine R_region ?_
  refine L_val rfl rfl rfl (OpP.v (P_ixs (i) rfl ty_sl_22 rfl rfl (by first | rfl | omega) (by omega))) ?_
  refine L_val rfl rfl rfl (V_loadAgg rfl rfl ty_ag_38 (rds_rc (Rds.row hrow rfl) hx) (rfl)) ?_
  refine L_op rfl (W_alloc rfl rfl rfl ty_ze_38 fun b7 => ?_)
  refine L_op rfl (W_storeAll rfl rfl rfl rfl ty_ag_38 (rfl) (Rec.one x) .h0 (rfl) ?_)
  refine L_nil ?_
  refine Q_then ?_
  refine R_seq ?_
  refine R_region ?_
  refine L_val rfl rfl rfl (OpP.v (P_fld0 rfl ty_fl_38_4 rfl)) ?_
  refine L_val rfl rfl rfl (V_load rfl rfl ty_sc_4 (Rd.blk .h0 rfl)) ?_
  refine L_val rfl rfl rfl (OpP.v (P_not rfl rfl)) ?_
  refine L_val rfl rfl rfl (OpP.v (P_move rfl rfl)) ?_
  refine E_bool (t := 19) rfl (fun hj => ?_) (fun hj => ?_)
  ·skip
   refine L_val rfl rfl rfl (OpP.v (P_fld0 rfl ty_fl_38_2 rfl)) ?_
   refine L_val rfl rfl rfl (V_load rfl rfl ty_sc_24 (Rd.blk .h0 rfl)) ?_
   refine L_val rfl rfl rfl (OpP.v (P_fld0 rfl ty_fl_62_0 rfl)) ?_
   refine L_val rfl rfl rfl (V_load rfl rfl ty_sc_24 (Rd.blk .h2 rfl)) ?_
   refine L_val rfl rfl rfl (OpP.v (P_geq rfl rfl rfl)) ?_
   refine E_bool (t := 24) rfl (fun hb => ?_) (fun hb => ?_)
   ·skip
    have hb := of_decide_eq_true hb
    refine L_val rfl rfl rfl (OpP.v (P_pick rfl rfl rfl)) ?_
    refine L_val rfl rfl rfl (OpP.v (P_move rfl rfl)) ?_
    refine L_val rfl rfl rfl (OpP.v (P_fld0 rfl ty_fl_38_2 rfl)) ?_
    refine L_val rfl rfl rfl (V_load rfl rfl ty_sc_24 (Rd.blk .h0 rfl)) ?_
    refine L_val rfl rfl rfl (OpP.v (P_geq rfl rfl rfl)) ?_
    refine L_val rfl rfl rfl (OpP.v (P_pick rfl rfl rfl)) ?_
    refine L_nil ?_
    refine Q_then ?_
    refine R_condP rfl (fun hs => ?_) (fun hs => ?_)
    ·skip
     refine R_region ?_
     refine L_val rfl rfl rfl (OpP.v (P_move rfl rfl)) ?_
     refine L_val rfl rfl rfl (OpP.v (P_fld0 rfl ty_fl_38_0 rfl)) ?_
     refine L_val rfl rfl rfl (V_load rfl rfl ty_sc_27 (Rd.blk .h0 rfl)) ?_
     refine L_val rfl rfl rfl (OpP.v (P_fld0 rfl ty_fl_38_2 rfl)) ?_
     refine L_val rfl rfl rfl (V_load rfl rfl ty_sc_24 (Rd.blk .h0 rfl)) ?_
     refine L_val rfl rfl rfl (OpP.v (P_buildStruct rfl ty_pl_76 ty_ze_76 rfl rfl (rfl))) ?_
     refine L_op rfl (W_lit (z := .nilIface) ((memA x).cells) rfl rfl rfl ty_sl_68 ty_lz_68 rfl rfl rfl (by decide) (by decide) (by intro v hv; simp only [List.mem_singleton] at hv; subst hv; rfl) (rfl) fun b37 => ?_)
     refine L_op rfl (W_append (p := [_, _]) rfl rfl rfl ty_sl_68 ty_ap_68 ty_src_68 rfl rfl rfl (Src.slice (sz := 3) (m := 1) (news := (memA x).cells) (Rds.blk .h0) rfl (Mem.cells_one _)) (by omega) (by simp only [maxLen]; omega) fun v38 => ?_)
     refine L_val rfl rfl rfl (OpP.v (P_assign rfl rfl)) ?_
     refine L_nil ?_
     refine Q_block ?_
     refine Q_then ?_
     refine R_region ?_
     first | (refine L_val rfl rfl rfl (OpP.v (P_addN rfl rfl rfl (by simp only [fits]; omega))) ?_) | (refine L_val rfl rfl rfl (OpP.v (P_add rfl rfl rfl)) ?_)
     refine L_val rfl rfl rfl (OpP.v (P_move rfl rfl)) ?_
     refine L_nil ?_
     exact Q_round (i + 1, v38) (by show i + 1 ≤ l.length; omega) (by show l.length - (i + 1) < l.length - i; omega) (by repeat (first | exact .nil | refine .cons rfl ?_ | refine .consE rfl (by first | rfl | (congr 1; omega) | (congr 1; push_cast; omega)) ?_)) (Weak.drop (Weak.drop (by rw [cand_yes hx (by unfold sits; rw [hj, decide_eq_true hb, decide_eq_true (by omega)]; rfl), List.length_append, rc_append]; exact Weak.refl _)))
    ·skip
     refine R_skip ?_
     refine Q_block ?_
     refine Q_then ?_
     refine R_region ?_
     first | (refine L_val rfl rfl rfl (OpP.v (P_addN rfl rfl rfl (by simp only [fits]; omega))) ?_) | (refine L_val rfl rfl rfl (OpP.v (P_add rfl rfl rfl)) ?_)
     refine L_val rfl rfl rfl (OpP.v (P_move rfl rfl)) ?_
     refine L_nil ?_
     exact Q_round (i + 1, v) (by show i + 1 ≤ l.length; omega) (by show l.length - (i + 1) < l.length - i; omega) (by repeat (first | exact .nil | refine .cons rfl ?_ | refine .consE rfl (by first | rfl | (congr 1; omega) | (congr 1; push_cast; omega)) ?_)) (Weak.drop (by rw [cand_no hx (by unfold sits; rw [decide_eq_false (p := 1 ≤ x.bond) (by omega), Bool.and_false, Bool.and_false])]; exact Weak.refl _))
   ·skip
    have hb := of_decide_eq_false hb
    refine L_val rfl rfl rfl (OpP.v (P_pick rfl rfl rfl)) ?_
    refine L_val rfl rfl rfl (OpP.v (P_move rfl rfl)) ?_
    refine L_no rfl rfl rfl ?_
    refine L_no rfl rfl rfl ?_
    refine L_no rfl rfl rfl ?_
    refine L_val rfl rfl rfl (OpP.v (P_pick rfl rfl rfl)) ?_
    refine L_nil ?_
    refine Q_then ?_
    refine R_condF rfl ?_
    refine R_skip ?_
    refine Q_block ?_
    refine Q_then ?_
    refine R_region ?_
    first | (refine L_val rfl rfl rfl (OpP.v (P_addN rfl rfl rfl (by simp only [fits]; omega))) ?_) | (refine L_val rfl rfl rfl (OpP.v (P_add rfl rfl rfl)) ?_)
    refine L_val rfl rfl rfl (OpP.v (P_move rfl rfl)) ?_
    refine L_nil ?_
    exact Q_round (i + 1, v) (by show i + 1 ≤ l.length; omega) (by show l.length - (i + 1) < l.length - i; omega) (by repeat (first | exact .nil | refine .cons rfl ?_ | refine .consE rfl (by first | rfl | (congr 1; omega) | (congr 1; push_cast; omega)) ?_)) (Weak.drop (by rw [cand_no hx (by unfold sits; rw [decide_eq_false (p := p.mb ≤ x.bond) (by omega), Bool.false_and, Bool.and_false])]; exact Weak.refl _))
  ·skip
   refine L_no rfl rfl rfl ?_
   refine L_no rfl rfl rfl ?_
   refine L_no rfl rfl rfl ?_
   refine L_no rfl rfl rfl ?_
   refine L_no rfl rfl rfl ?_
   refine L_val rfl rfl rfl (OpP.v (P_pick rfl rfl rfl)) ?_
   refine L_val rfl rfl rfl (OpP.v (P_move rfl rfl)) ?_
   refine L_no rfl rfl rfl ?_
   refine L_no rfl rfl rfl ?_
   refine L_no rfl rfl rfl ?_
   refine L_val rfl rfl rfl (OpP.v (P_pick rfl rfl rfl)) ?_
   refine L_nil ?_
   refine Q_then ?_
   refine R_condF rfl ?_
   refine R_skip ?_
   refine Q_block ?_
   refine Q_then ?_
   refine R_region ?_
   first | (refine L_val rfl rfl rfl (OpP.v (P_addN rfl rfl rfl (by simp only [fits]; omega))) ?_) | (refine L_val rfl rfl rfl (OpP.v (P_add rfl rfl rfl)) ?_)
   refine L_val rfl rfl rfl (OpP.v (P_move rfl rfl)) ?_
   refine L_nil ?_
   exact Q_round (i + 1, v) (by show i + 1 ≤ l.length; omega) (by show l.length - (i + 1) < l.length - i; omega) (by repeat (first | exact .nil | refine .cons rfl ?_ | refine .consE rfl (by first | rfl | (congr 1; omega) | (congr 1; push_cast; omega)) ?_)) (Weak.drop (by rw [cand_no hx (by unfold sits; rw [hj, Bool.false_and])]; exact Weak.refl _))
 ·skip
  have hi : i ≤ l.length := hinv
  have hin : i = l.length := by omega
  rw [hin, List.take_length]
  have hcl := cand_len p.mb l
  refine St.ownForm (p := []) fun ub uc huv huc => ?_
  subst huv
  refine St.res (rs' := [ownS 76 3 (.slice ub (candM p.mb l).toArray.size uc) ((candM p.mb l).toArray.size) (rc (candM p.mb l).toArray.toList), blk b3 p.cells 62, blk b2 (ledV (.slice base l.length c) r bu su) 26]) (Weak.refl _) ?_
  refine R_exit ?_
  refine Q_then_exit ?_
  refine Q_then_exit ?_
  refine Q_block_eq ?_
  refine St.env (.cons (t := 3) rfl (.cons (t := 4) rfl (.cons (t := 5) rfl .nil))) ?_
  refine Q_then ?_
  refine R_seq ?_
  refine R_region ?_
  refine L_val rfl rfl rfl (OpP.v (P_move rfl rfl)) ?_
  refine L_op rfl (W_call rfl rfl rfl rfl fn_ca_83 (ssM_ok ub uc (candM p.mb l).toArray (by show (candM p.mb l).length ≤ _; omega)) (Split.one (p := [])) (fun _ _ _ _ _ _ _ => trivial) fun vv rs1 ⟨z1, d1, ⟨hp1, hs1⟩, z2⟩ => ?_)
  subst z1; subst z2
  refine St.res (rs' := [ownS 76 3 (.slice ub (candM p.mb l).length uc) ((candM p.mb l).length) (rc d1.toList), blk b3 p.cells 62, blk b2 (ledV (.slice base l.length c) r bu su) 26]) (Weak.refl _) ?_
  refine L_nil ?_
  refine St.env (.cons (t := 3) rfl (.cons (t := 4) rfl (.cons (t := 5) rfl .nil))) ?_
  refine Q_then ?_
  refine R_seq ?_
  refine R_region ?_
  refine L_val rfl rfl rfl (OpP.v (P_fld0 rfl ty_fl_62_1 rfl)) ?_
  refine L_val rfl rfl rfl (V_load rfl rfl ty_sc_3 (Rd.blk .h1 rfl)) ?_
  refine L_val rfl rfl rfl (OpP.v (P_max2 rfl rfl rfl)) ?_
  refine L_val rfl rfl rfl (OpP.v (P_move rfl rfl)) ?_
  refine L_val rfl rfl rfl (OpP.v (P_len rfl ty_sl_68 rfl)) ?_
  refine L_val rfl rfl rfl (OpP.v (P_min3 rfl rfl rfl rfl)) ?_
  refine E_as (t := 47) (v' := .int .i64 ((mostN p.seats (candM p.mb l).length : Nat) : Int)) rfl (congrArg (Value.int .i64) (mostN_eq _ _)) ?_
  refine L_val rfl rfl rfl (OpP.v (P_assign rfl rfl)) ?_
  refine L_nil ?_
  refine St.env (.cons (t := 4) rfl (.cons (t := 5) rfl (.cons (t := 8) rfl .nil))) ?_
  refine Q_then ?_
  refine R_seq ?_
  refine R_region ?_
  refine L_val rfl rfl rfl (OpP.v (P_move rfl rfl)) ?_
  refine L_val rfl rfl rfl (OpP.v (P_move rfl rfl)) ?_
  refine L_val rfl rfl rfl (OpP.v (P_move rfl rfl)) ?_
  refine L_val rfl rfl rfl (OpP.v (P_slice3 0 (mostN p.seats (candM p.mb l).length) (mostN p.seats (candM p.mb l).length) rfl ty_sl_68 rfl rfl rfl rfl (Nat.zero_le _) (Nat.le_refl _) (by unfold mostN; omega))) ?_
  have hmo : mostN p.seats (candM p.mb l).length ≤ (candM p.mb l).length := by unfold mostN; omega
  obtain ⟨e, he⟩ : ∃ e : Array Mem, e.toList = d1.toList.take (mostN p.seats (candM p.mb l).length) := ⟨(d1.toList.take (mostN p.seats (candM p.mb l).length)).toArray, rfl⟩
  have hes : mostN p.seats (candM p.mb l).length = e.size := by rw [← Array.length_toList, he, List.length_take]; have : d1.toList.length = (candM p.mb l).length := hp1.1; omega
  refine E_as (t := 51) (v' := .slice ub e.size e.size) rfl (by rw [sliced_0, hes]) ?_
  refine St.res (rs' := [ownS 76 3 (.slice ub e.size e.size) (e.size) (rc e.toList), blk b3 p.cells 62, blk b2 (ledV (.slice base l.length c) r bu su) 26]) (Weak.trans (ownS_cut hmo) (by rw [show (3 : Nat) = Rec.n Mem from rfl, rc_take, ← he, hes]; exact Weak.refl _)) ?_
  refine L_val rfl rfl rfl (OpP.v (P_assign rfl rfl)) ?_
  refine L_nil ?_
  refine St.env (.cons (t := 4) rfl (.cons (t := 5) rfl .nil)) ?_
  refine Q_then ?_
  refine R_seq ?_
  refine R_region ?_
  refine L_val rfl rfl rfl (OpP.v (P_move rfl rfl)) ?_
  refine L_op rfl (W_call rfl rfl rfl rfl fn_ca_88 (sortM_ok ub e.size e (by omega)) (Split.one (p := [])) (fun _ _ _ _ _ _ _ => trivial) fun vv rs1 ⟨z1, d2, hp2, hs2, z2⟩ => ?_)
  subst z1; subst z2
  refine St.res (rs' := [ownS 76 3 (.slice ub e.size e.size) (e.size) (rc d2.toList), blk b3 p.cells 62, blk b2 (ledV (.slice base l.length c) r bu su) 26]) (Weak.refl _) ?_
  refine L_nil ?_
  refine St.env (.cons (t := 4) rfl (.cons (t := 5) rfl .nil)) ?_
  refine Q_then ?_
  refine R_seq ?_
  refine R_region ?_
  refine L_val rfl rfl rfl (OpP.v (P_move rfl rfl)) ?_
  refine L_val rfl rfl rfl (OpP.v (P_assign rfl rfl)) ?_
  refine L_nil ?_
  refine St.env (.cons (t := 4) rfl .nil) ?_
  refine Q_then ?_
  refine R_ret ?_
  exact R_end (rs2 := [ownS 76 3 (.slice ub d2.toList.length e.size) (d2.toList.length) (rc d2.toList)]) rfl rfl (.tmp rfl .nil) (⟨d2.toList, ub, e.size, by rw [show d2.toList.length = e.size from hp2.1]; rfl, seats_done hf hp1 hs1 he hp2 hs2, rfl⟩) (by rw [show d2.toList.length = e.size from hp2.1]; exact Weak.keep (Weak.nil _))
end Go.Proofs.YtfhjhaogmdaepaaGreatDoor

/- The twenty-first part of the program logic: structs of numbers and truth values are compared. -/
set_option linter.unusedVariables false
set_option linter.unusedSimpArgs false
set_option linter.unusedSectionVars false
namespace Go.Proofs.YtfhjhaogmdaepaaGreatDoor
open Go Go.RowKit
theorem Has.h10 {a b c d e f g i j k r s : HP} {t : List HP} : Has (a :: b :: c :: d :: e :: f :: g :: i :: j :: k :: r :: t) r s (a :: b :: c :: d :: e :: f :: g :: i :: j :: k :: s :: t) := Has.h9.cons
theorem Has.h11 {a b c d e f g i j k l r s : HP} {t : List HP} : Has (a :: b :: c :: d :: e :: f :: g :: i :: j :: k :: l :: r :: t) r s (a :: b :: c :: d :: e :: f :: g :: i :: j :: k :: l :: s :: t) := Has.h10.cons
/-- Two cells of one make: truth values (true), numbers (false). -/
def sk : Bool → Value → Value → Prop
 | false, x, y => ∃ k a b, x = .int k a ∧ y = .int k b
 | true, x, y => ∃ a b, x = .bool a ∧ y = .bool b
def fkB (P : Program) (b : Bool) (t : TypeId) : Bool := match b, P.underlying t with
 | false, some (.int _) => true
 | true, some .bool => true
 | _, _ => false
/-- The type's cells are numbers or truth values, as the list tells. -/
def seK (P : Program) (t : Nat) (ks : List Bool) : Bool := match P.underlying t with
 | some (.struct fs) => !P.stoodInHeld t && !P.eqGuardType P.depth t && (fs.toList.length == ks.length) && ((List.range ks.length).all fun i => match fs.toList[i]?, ks[i]? with | some f, some b => f.offset == i && (f.name != "_") && scB P f.type && fkB P b f.type | _, _ => false)
 | _ => false
theorem run_eqFields_k {P : Program} {w : World} (dp : Nat) : ∀ (fs : List Field) (ks : List Bool) (o : Nat) (xs ys : List Value), xs.length = fs.length → ys.length = fs.length → ks.length = fs.length → (∀ (i : Nat) (b : Bool) (x y : Value), ks[i]? = some b → xs[i]? = some x → ys[i]? = some y → sk b x y) →
  (∀ (i : Nat) (f : Field) (b : Bool), fs[i]? = some f → ks[i]? = some b → f.offset = o + i ∧ (f.name != "_") = true ∧ scB P f.type = true ∧ fkB P b f.type = true) →
  ∀ (px py : List Value), px.length = o → py.length = o → (Op.eqFields (dp + 1) (px ++ xs).toArray (py ++ ys).toArray fs).run P w = .ok (@decide (xs = ys) (Classical.propDecidable _)) w
 | [], ks, o, xs, ys, hx, hy, _, _, _, px, py, _, _ => by
  have : xs = [] := List.eq_nil_of_length_eq_zero hx
  have : ys = [] := List.eq_nil_of_length_eq_zero hy
  subst xs; subst ys
  simp [Op.eqFields]
 | f :: fs, kb :: ks, o, x :: xs, y :: ys, hx, hy, hkl, hk, hf, px, py, hpx, hpy => by
  obtain ⟨h1, h2, h3, h4⟩ := hf 0 f kb rfl rfl
  have hkk := hk 0 kb x y rfl rfl rfl
  have hname : f.name ≠ "_" := by simpa using h2
  have hone : x.oneCell' = true ∧ y.oneCell' = true := by
   cases kb with
   | false => obtain ⟨k, a, b, rfl, rfl⟩ := hkk; exact ⟨rfl, rfl⟩
   | true => obtain ⟨a, b, rfl, rfl⟩ := hkk; exact ⟨rfl, rfl⟩
  have e1 : (part f.type (px ++ x :: xs).toArray f.offset).run P w = .ok x w := by
   simp [part, run_isAgg_sc h3, h1, ← hpx]
  have e2 : (part f.type (py ++ y :: ys).toArray f.offset).run P w = .ok y w := by
   simp [part, run_isAgg_sc h3, h1, ← hpy]
  have e3 : (Op.equalIn (dp + 1) f.type x y).run P w = .ok (@decide (x = y) (Classical.propDecidable _)) w := by
   cases kb with
   | false =>
    obtain ⟨k', a, b, rfl, rfl⟩ := hkk
    obtain ⟨k, hk4⟩ : ∃ k, P.underlying f.type = some (.int k) := by
     unfold fkB at h4
     split at h4
     ·exact ⟨_, by assumption⟩
     ·contradiction
     ·cases h4
    rw [run_equalIn_int (P := P) w dp f.type k' k a b hk4]
    congr 1
    by_cases hab : a = b
    ·simp [hab]
    ·simp [hab]
   | true =>
    obtain ⟨a, b, rfl, rfl⟩ := hkk
    have hk4 : P.underlying f.type = some .bool := by
     unfold fkB at h4
     split at h4
     ·contradiction
     ·assumption
     ·cases h4
    rw [run_equalIn_bool' dp hk4]
    congr 1
    cases a <;> cases b <;> simp
  unfold Op.eqFields
  rw [if_pos hname]
  simp only [Sem.run_bind, e1, e2, e3, Result.andThen_ok]
  by_cases hab : x = y
  ·subst hab
   have ih := run_eqFields_k (P := P) (w := w) dp fs ks (o + 1) xs ys (by simpa using hx) (by simpa using hy) (by simpa using hkl) (fun i b x y hb hx hy => hk (i + 1) b x y hb hx hy) (fun i f b hf' hb => by
    obtain ⟨g1, g2⟩ := hf (i + 1) f b hf' hb
    exact ⟨by omega, g2⟩) (px ++ [x]) (py ++ [x]) (by simp [hpx]) (by simp [hpy])
   simp only [List.append_assoc, List.singleton_append] at ih
   simp only [decide_true, Bool.not_true, Bool.false_eq_true, if_false, ih]
   congr 1
   by_cases hxy : xs = ys
   ·subst hxy; simp
   ·have : ¬ (x :: xs = x :: ys) := by simpa using hxy
    simp [hxy, this]
  ·have : ¬ (x :: xs = y :: ys) := by simp [hab]
   simp [hab, this]
section
variable {C : Cx} {F : Fx} {l : Env} {rs rs' : List HP} {K : Act → World → Prop} {o : Oper} {Q : Exit → Act → World → Prop} {d : Nat}
theorem run_eqStructK {P : Program} {w : World} {t : Nat} {ks : List Bool} {xs ys : List Value} (ht : seK P t ks = true) (hx : xs.length = ks.length) (hy : ys.length = ks.length) (hk : ∀ (i : Nat) (b : Bool) (x y : Value), ks[i]? = some b → xs[i]? = some x → ys[i]? = some y → sk b x y) :
  (Op.equalIn 10000 t (.agg xs.toArray) (.agg ys.toArray)).run P w = .ok (@decide (xs = ys) (Classical.propDecidable _)) w ∧ P.eqGuardType P.depth t = false := by
 unfold seK at ht
 split at ht
 ·rename_i fs hfs
  simp only [Bool.and_eq_true, Bool.not_eq_true'] at ht
  obtain ⟨⟨⟨hp, hg⟩, hl⟩, hm⟩ := ht
  refine ⟨?_, hg⟩
  have hff : P.fieldsOf t = fs := by unfold Program.fieldsOf; rw [hfs]
  refine (run_equalIn_struct (P := P) w 9999 t xs.toArray ys.toArray (by rw [hff]; exact hfs) hp).trans ?_
  rw [hff]
  have hlen : fs.toList.length = ks.length := eq_of_beq hl
  refine run_eqFields_k (P := P) (w := w) 9998 fs.toList ks 0 xs ys (by omega) (by omega) (by omega) hk (fun i f b hf hb => ?_) [] [] rfl rfl
  have h2 := List.all_eq_true.1 hm i (by rw [List.mem_range]; exact (List.getElem?_eq_some_iff.1 hb).1)
  rw [hf, hb] at h2
  simp only [Bool.and_eq_true] at h2
  obtain ⟨⟨⟨h3, h4⟩, h5⟩, h6⟩ := h2
  exact ⟨by rw [eq_of_beq h3, Nat.zero_add], h4, h5, h6⟩
 ·cases ht
theorem P_neq_structK {t t' : Nat} (ks : List Bool) {x y : Operand} {xs ys : List Value} {b : Bool} (ho : o.op = .binOp .neq t x y t') (ht : seK C.P t ks = true) (hx : ev l x = some (.agg xs.toArray)) (hy : ev l y = some (.agg ys.toArray)) (h1 : xs.length = ks.length) (h2 : ys.length = ks.length)
  (hk : ∀ (i : Nat) (b : Bool) (x y : Value), ks[i]? = some b → xs[i]? = some x → ys[i]? = some y → sk b x y) (hb : b = false ↔ xs = ys) : OpP C F l o (.bool b) := fun a w r => by
 obtain ⟨h3, hg⟩ := run_eqStructK (P := C.P) (w := w) ht h1 h2 hk
 have e : @decide (xs = ys) (Classical.propDecidable _) = !b := by
  by_cases h : xs = ys
  ·have := hb.2 h; rw [this]; simp [h]
  ·cases b with
   | false => exact absurd (hb.1 rfl) h
   | true => simp [h]
 rw [e] at h3
 simp only [execOp, ho, r.ev hx, r.ev hy, Sem.run_bind, run_eqGuard_agg w .neq t x y _ _ hg, Result.andThen_ok, run_neq_struct, h3, Sem.run_pure, Bool.not_not]
end
end Go.Proofs.YtfhjhaogmdaepaaGreatDoor

/- sameLedger, sameMembers. Printed by gen.py. -/
set_option linter.unusedVariables false
set_option linter.unusedSimpArgs false
set_option maxRecDepth 100000
namespace Go.Proofs.YtfhjhaogmdaepaaGreatDoor
open Go Go.RowKit Go.Proofs
theorem acc_kind (x y : Acc) : ∀ (i : Nat) (b : Bool) (u v : Value), ([false, false, false, false, true] : List Bool)[i]? = some b → x.cells[i]? = some u → y.cells[i]? = some v → sk b u v
 | 0, _, _, _, hb, h, h' => by cases hb; cases h; cases h'; exact ⟨_, _, _, rfl, rfl⟩
 | 1, _, _, _, hb, h, h' => by cases hb; cases h; cases h'; exact ⟨_, _, _, rfl, rfl⟩
 | 2, _, _, _, hb, h, h' => by cases hb; cases h; cases h'; exact ⟨_, _, _, rfl, rfl⟩
 | 3, _, _, _, hb, h, h' => by cases hb; cases h; cases h'; exact ⟨_, _, _, rfl, rfl⟩
 | 4, _, _, _, hb, h, h' => by cases hb; cases h; cases h'; exact ⟨_, _, rfl, rfl⟩
 | _ + 5, _, _, _, hb, _, _ => by cases hb
theorem rel_kind (x y : Rel) : ∀ (i : Nat) (b : Bool) (u v : Value), ([false, false, false, false] : List Bool)[i]? = some b → x.cells[i]? = some u → y.cells[i]? = some v → sk b u v
 | 0, _, _, _, hb, h, h' => by cases hb; cases h; cases h'; exact ⟨_, _, _, rfl, rfl⟩
 | 1, _, _, _, hb, h, h' => by cases hb; cases h; cases h'; exact ⟨_, _, _, rfl, rfl⟩
 | 2, _, _, _, hb, h, h' => by cases hb; cases h; cases h'; exact ⟨_, _, _, rfl, rfl⟩
 | 3, _, _, _, hb, h, h' => by cases hb; cases h; cases h'; exact ⟨_, _, _, rfl, rfl⟩
 | _ + 4, _, _, _, hb, _, _ => by cases hb
theorem se_acc : seK Tryz.prog 38 [false, false, false, false, true] = true := by kernel_rfl
theorem se_rel : seK Tryz.prog 135 [false, false, false, false] = true := by kernel_rfl
theorem sameL_ok {gl : Nat → Obj} (base base' bas2 bas2' : Option Addr) (c c' c2 c2' : Nat) (l : List Acc) (r : List Rel) (bu su : Int) (hc : l.length ≤ c) (hc' : r.length ≤ c') (hc2 : l.length ≤ c2) (hc2' : r.length ≤ c2') (hm : l.length ≤ 9223372036854775000) (hm' : r.length ≤ 9223372036854775000) : SpecV (cx gl) 34 [.agg (ledV (.slice base l.length c) (.slice base' r.length c') bu su).toArray, .agg (ledV (.slice bas2 l.length c2) (.slice bas2' r.length c2') bu su).toArray] (fun w => Row w base (rc l) ∧ Row w base' (rc r) ∧ Row w bas2 (rc l) ∧ Row w bas2' (rc r)) (.bool true) := by
 refine Spec.enter (C := cx gl) Tryz.func34 rfl 73 rfl rfl fun w0 h0 hsep hsub hpre => ?_
 obtain rfl : h0 = Heap.none := hsep
 show St (cx gl) _ [(0, .agg (ledV (.slice base l.length c) (.slice base' r.length c') bu su).toArray), (1, .agg (ledV (.slice bas2 l.length c2) (.slice bas2' r.length c2') bu su).toArray)] _ _
 refine R_seq ?_
 refine R_region ?_
 refine L_op rfl (W_box (ledV (.slice base l.length c) (.slice base' r.length c') bu su) rfl rfl rfl rfl rfl fun b2 => ?_)
 refine L_op rfl (W_box (ledV (.slice bas2 l.length c2) (.slice bas2' r.length c2') bu su) rfl rfl rfl rfl rfl fun b3 => ?_)
 refine L_val rfl rfl rfl (OpP.v (P_assign rfl rfl)) ?_
 refine L_nil ?_
 refine St.env (.cons (t := 2) rfl (.cons (t := 3) rfl (.cons (t := 4) rfl .nil))) ?_
 refine Q_then ?_
 refine R_seq ?_
 refine R_seq ?_
 refine R_region ?_
 refine L_val rfl rfl rfl (OpP.v (P_fld0 rfl ty_fl_26_2 rfl)) ?_
 refine L_val rfl rfl rfl (V_load rfl rfl ty_sc_24 (Rd.blk .h1 rfl)) ?_
 refine L_val rfl rfl rfl (OpP.v (P_fld0 rfl ty_fl_26_2 rfl)) ?_
 refine L_val rfl rfl rfl (V_load rfl rfl ty_sc_24 (Rd.blk .h0 rfl)) ?_
 refine L_val rfl rfl rfl (OpP.v (P_neq rfl rfl rfl)) ?_
 refine E_false (t := 11) rfl (by simp) ?_
 refine L_val rfl rfl rfl (OpP.v (P_move rfl rfl)) ?_
 refine L_val rfl rfl rfl (OpP.v (P_fld0 rfl ty_fl_26_3 rfl)) ?_
 refine L_val rfl rfl rfl (V_load rfl rfl ty_sc_24 (Rd.blk .h1 rfl)) ?_
 refine L_val rfl rfl rfl (OpP.v (P_fld0 rfl ty_fl_26_3 rfl)) ?_
 refine L_val rfl rfl rfl (V_load rfl rfl ty_sc_24 (Rd.blk .h0 rfl)) ?_
 refine L_val rfl rfl rfl (OpP.v (P_neq rfl rfl rfl)) ?_
 refine E_false (t := 17) rfl (by simp) ?_
 refine L_val rfl rfl rfl (OpP.v (P_pick rfl rfl rfl)) ?_
 refine L_val rfl rfl rfl (OpP.v (P_move rfl rfl)) ?_
 refine L_val rfl rfl rfl (OpP.v (P_fld0 rfl ty_fl_26_0 rfl)) ?_
 refine L_val rfl rfl rfl (V_load rfl rfl ty_sc_22 (Rd.blk .h1 rfl)) ?_
 refine L_val rfl rfl rfl (OpP.v (P_len rfl ty_sl_22 rfl)) ?_
 refine L_val rfl rfl rfl (OpP.v (P_fld0 rfl ty_fl_26_0 rfl)) ?_
 refine L_val rfl rfl rfl (V_load rfl rfl ty_sc_22 (Rd.blk .h0 rfl)) ?_
 refine L_val rfl rfl rfl (OpP.v (P_len rfl ty_sl_22 rfl)) ?_
 refine L_val rfl rfl rfl (OpP.v (P_neq rfl rfl rfl)) ?_
 refine E_false (t := 26) rfl (by simp) ?_
 refine L_val rfl rfl rfl (OpP.v (P_pick rfl rfl rfl)) ?_
 refine L_val rfl rfl rfl (OpP.v (P_move rfl rfl)) ?_
 refine L_val rfl rfl rfl (OpP.v (P_fld0 rfl ty_fl_26_1 rfl)) ?_
 refine L_val rfl rfl rfl (V_load rfl rfl ty_sc_23 (Rd.blk .h1 rfl)) ?_
 refine L_val rfl rfl rfl (OpP.v (P_len rfl ty_sl_23 rfl)) ?_
 refine L_val rfl rfl rfl (OpP.v (P_fld0 rfl ty_fl_26_1 rfl)) ?_
 refine L_val rfl rfl rfl (V_load rfl rfl ty_sc_23 (Rd.blk .h0 rfl)) ?_
 refine L_val rfl rfl rfl (OpP.v (P_len rfl ty_sl_23 rfl)) ?_
 refine L_val rfl rfl rfl (OpP.v (P_neq rfl rfl rfl)) ?_
 refine E_false (t := 35) rfl (by simp) ?_
 refine L_val rfl rfl rfl (OpP.v (P_pick rfl rfl rfl)) ?_
 refine L_nil ?_
 refine St.env (.cons (t := 2) rfl (.cons (t := 3) rfl (.cons (t := 4) rfl (.cons (t := 36) rfl .nil)))) ?_
 refine Q_then ?_
 refine R_condF rfl ?_
 refine R_skip ?_
 refine Q_then ?_
 refine R_seq ?_
 refine R_seq ?_
 refine R_region ?_
 refine L_val rfl rfl rfl (OpP.v (P_assign rfl rfl)) ?_
 refine L_nil ?_
 refine St.env (.cons (t := 2) rfl (.cons (t := 3) rfl (.cons (t := 4) rfl (.cons (t := 5) rfl .nil)))) ?_
 refine Q_then ?_
 refine R_block ?_
 refine R_loopE (G := Nat) (.cons (t := 2) rfl (.cons (t := 3) rfl (.cons (t := 4) rfl .nil))) (fun g => [(5, .int .i64 (g : Int))]) (fun _ => _) (fun g => g ≤ l.length) (fun g => l.length - g) (0) (Nat.zero_le _) (by repeat (first | exact .nil | refine .cons rfl ?_ | refine .consE rfl (by first | rfl | (congr 1; omega) | (congr 1; push_cast; omega)) ?_)) (Weak.refl _) ?_
 intro i hinv
 replace hinv : i ≤ l.length := hinv
 show St (cx gl) _ ((5, .int .i64 (i : Int)) :: _) _ _
 refine R_seq ?_
 refine R_seq ?_
 refine R_region ?_
 refine L_val rfl rfl rfl (OpP.v (P_move rfl rfl)) ?_
 refine L_val rfl rfl rfl (OpP.v (P_fld0 rfl ty_fl_26_0 rfl)) ?_
 refine L_val rfl rfl rfl (V_load rfl rfl ty_sc_22 (Rd.blk .h1 rfl)) ?_
 refine L_val rfl rfl rfl (OpP.v (P_len rfl ty_sl_22 rfl)) ?_
 refine L_val rfl rfl rfl (OpP.v (P_lss rfl rfl rfl)) ?_
 refine L_nil ?_
 refine Q_then ?_
 refine R_condP rfl (fun hlt => ?_) (fun hlt => ?_)
 ·skip
  have hi : i < l.length := by omega
  have hx := accAt_get hi
  obtain ⟨p1, p2, p3, p4⟩ := hpre
  obtain ⟨p1b, p1j, rfl, p1r⟩ := p1.some_ (by rw [rc_length]; show 0 < _ * 5; omega)
  obtain ⟨p3b, p3j, rfl, p3r⟩ := p3.some_ (by rw [rc_length]; show 0 < _ * 5; omega)
  refine R_skip ?_
  refine Q_then ?_
  refine R_seq ?_
  refine R_block ?_
  refine R_seq ?_
  refine R_open [(0, 0), (1, 1), (2, 0), (3, 0), (4, 1), (5, 0), (6, 1), (7, 0), (8, 0), (9, 1), (10, 0)] mixed (by kernel_rfl) (QOk.then (QOk.block (QOk.then (QOk.then (QOk.block (QOk.then QOk.body)))))) ?_
  refine O_pure rfl rfl rfl rfl (P_fld0 rfl ty_fl_26_0 rfl) ?_
  refine O_val rfl rfl rfl rfl (V_load rfl rfl ty_sc_22 (Rd.blk .h1 rfl)) ?_
  refine O_pure rfl rfl rfl rfl (P_move rfl rfl) ?_
  refine O_pure rfl rfl rfl rfl (P_ixs (i) rfl ty_sl_22 rfl rfl (by first | rfl | omega) (by omega)) ?_
  refine O_val rfl rfl rfl rfl (V_loadAgg rfl rfl ty_ag_38 (rds_rc (Rds.row p1r rfl) hx) (rfl)) ?_
  refine O_pure rfl rfl rfl rfl (P_fld0 rfl ty_fl_26_0 rfl) ?_
  refine O_val rfl rfl rfl rfl (V_load rfl rfl ty_sc_22 (Rd.blk .h0 rfl)) ?_
  refine O_pure rfl rfl rfl rfl (P_move rfl rfl) ?_
  refine O_pure rfl rfl rfl rfl (P_ixs (i) rfl ty_sl_22 rfl rfl (by first | rfl | omega) (by omega)) ?_
  refine O_val rfl rfl rfl rfl (V_loadAgg rfl rfl ty_ag_38 (rds_rc (Rds.row p3r rfl) hx) (rfl)) ?_
  refine O_pure rfl rfl rfl rfl (P_neq_structK (b := false) [false, false, false, false, true] rfl se_acc rfl rfl rfl rfl (acc_kind (accAt l i) (accAt l i)) ⟨fun _ => rfl, fun _ => rfl⟩) ?_
  refine E_false (t := 54) rfl (rfl) ?_
  refine O_nil ?_
  refine Q_then ?_
  refine R_condF rfl ?_
  refine R_skip ?_
  refine Q_block ?_
  refine Q_then ?_
  refine R_region ?_
  refine L_val rfl rfl rfl (OpP.v (P_move rfl rfl)) ?_
  first | (refine L_val rfl rfl rfl (OpP.v (P_addN rfl rfl rfl (by simp only [fits]; omega))) ?_) | (refine L_val rfl rfl rfl (OpP.v (P_add rfl rfl rfl)) ?_)
  refine L_val rfl rfl rfl (OpP.v (P_assign rfl rfl)) ?_
  refine L_nil ?_
  exact Q_round (i + 1) (by show i + 1 ≤ l.length; omega) (by show l.length - (i + 1) < l.length - i; omega) (by repeat (first | exact .nil | refine .cons rfl ?_ | refine .consE rfl (by first | rfl | (congr 1; omega) | (congr 1; push_cast; omega)) ?_)) (Weak.refl _)
 ·skip
  refine R_exit ?_
  refine Q_then_exit ?_
  refine Q_then_exit ?_
  refine Q_block_eq ?_
  refine St.env (.cons (t := 2) rfl (.cons (t := 3) rfl (.cons (t := 4) rfl .nil))) ?_
  refine Q_then ?_
  refine R_seq ?_
  refine R_seq ?_
  refine R_region ?_
  refine L_val rfl rfl rfl (OpP.v (P_assign rfl rfl)) ?_
  refine L_nil ?_
  refine Q_then ?_
  refine R_block ?_
  refine R_loopE (G := Nat) (.cons (t := 2) rfl (.cons (t := 3) rfl (.cons (t := 4) rfl .nil))) (fun g => [(6, .int .i64 (g : Int))]) (fun _ => _) (fun g => g ≤ r.length) (fun g => r.length - g) (0) (Nat.zero_le _) (by repeat (first | exact .nil | refine .cons rfl ?_ | refine .consE rfl (by first | rfl | (congr 1; omega) | (congr 1; push_cast; omega)) ?_)) (Weak.refl _) ?_
  intro i hinv
  replace hinv : i ≤ r.length := hinv
  show St (cx gl) _ ((6, .int .i64 (i : Int)) :: _) _ _
  refine R_seq ?_
  refine R_seq ?_
  refine R_region ?_
  refine L_val rfl rfl rfl (OpP.v (P_move rfl rfl)) ?_
  refine L_val rfl rfl rfl (OpP.v (P_fld0 rfl ty_fl_26_1 rfl)) ?_
  refine L_val rfl rfl rfl (V_load rfl rfl ty_sc_23 (Rd.blk .h1 rfl)) ?_
  refine L_val rfl rfl rfl (OpP.v (P_len rfl ty_sl_23 rfl)) ?_
  refine L_val rfl rfl rfl (OpP.v (P_lss rfl rfl rfl)) ?_
  refine L_nil ?_
  refine Q_then ?_
  refine R_condP rfl (fun hlt => ?_) (fun hlt => ?_)
  ·skip
   have hi : i < r.length := by omega
   have hx := relAt_get hi
   obtain ⟨p1, p2, p3, p4⟩ := hpre
   obtain ⟨p2b, p2j, rfl, p2r⟩ := p2.some_ (by rw [rc_length]; show 0 < _ * 4; omega)
   obtain ⟨p4b, p4j, rfl, p4r⟩ := p4.some_ (by rw [rc_length]; show 0 < _ * 4; omega)
   refine R_skip ?_
   refine Q_then ?_
   refine R_seq ?_
   refine R_block ?_
   refine R_seq ?_
   refine R_open [(0, 0), (1, 1), (2, 0), (3, 0), (4, 1), (5, 0), (6, 1), (7, 0), (8, 0), (9, 1), (10, 0)] mixed (by kernel_rfl) (QOk.then (QOk.block (QOk.then (QOk.then (QOk.block (QOk.then QOk.body)))))) ?_
   refine O_pure rfl rfl rfl rfl (P_fld0 rfl ty_fl_26_1 rfl) ?_
   refine O_val rfl rfl rfl rfl (V_load rfl rfl ty_sc_23 (Rd.blk .h1 rfl)) ?_
   refine O_pure rfl rfl rfl rfl (P_move rfl rfl) ?_
   refine O_pure rfl rfl rfl rfl (P_ixs (i) rfl ty_sl_23 rfl rfl (by first | rfl | omega) (by omega)) ?_
   refine O_val rfl rfl rfl rfl (V_loadAgg rfl rfl ty_ag_135 (rds_rc (Rds.row p2r rfl) hx) (rfl)) ?_
   refine O_pure rfl rfl rfl rfl (P_fld0 rfl ty_fl_26_1 rfl) ?_
   refine O_val rfl rfl rfl rfl (V_load rfl rfl ty_sc_23 (Rd.blk .h0 rfl)) ?_
   refine O_pure rfl rfl rfl rfl (P_move rfl rfl) ?_
   refine O_pure rfl rfl rfl rfl (P_ixs (i) rfl ty_sl_23 rfl rfl (by first | rfl | omega) (by omega)) ?_
   refine O_val rfl rfl rfl rfl (V_loadAgg rfl rfl ty_ag_135 (rds_rc (Rds.row p4r rfl) hx) (rfl)) ?_
   refine O_pure rfl rfl rfl rfl (P_neq_structK (b := false) [false, false, false, false] rfl se_rel rfl rfl rfl rfl (rel_kind (relAt r i) (relAt r i)) ⟨fun _ => rfl, fun _ => rfl⟩) ?_
   refine E_false (t := 72) rfl (rfl) ?_
   refine O_nil ?_
   refine Q_then ?_
   refine R_condF rfl ?_
   refine R_skip ?_
   refine Q_block ?_
   refine Q_then ?_
   refine R_region ?_
   refine L_val rfl rfl rfl (OpP.v (P_move rfl rfl)) ?_
   first | (refine L_val rfl rfl rfl (OpP.v (P_addN rfl rfl rfl (by simp only [fits]; omega))) ?_) | (refine L_val rfl rfl rfl (OpP.v (P_add rfl rfl rfl)) ?_)
   refine L_val rfl rfl rfl (OpP.v (P_assign rfl rfl)) ?_
   refine L_nil ?_
   exact Q_round (i + 1) (by show i + 1 ≤ r.length; omega) (by show r.length - (i + 1) < r.length - i; omega) (by repeat (first | exact .nil | refine .cons rfl ?_ | refine .consE rfl (by first | rfl | (congr 1; omega) | (congr 1; push_cast; omega)) ?_)) (Weak.refl _)
  ·skip
   refine R_exit ?_
   refine Q_then_exit ?_
   refine Q_then_exit ?_
   refine Q_block_eq ?_
   refine St.env (.cons (t := 4) rfl .nil) ?_
   refine Q_then ?_
   refine R_seq ?_
   refine R_region ?_
   refine L_val rfl rfl rfl (OpP.v (P_assign rfl rfl)) ?_
   refine L_nil ?_
   refine Q_then ?_
   refine R_ret ?_
   exact R_endV rfl rfl (.tmp rfl .nil) (rfl)
end Go.Proofs.YtfhjhaogmdaepaaGreatDoor

/- Walks: rotations and splits. Printed by gen.py. -/
set_option linter.unusedVariables false
set_option linter.unusedSimpArgs false
set_option maxRecDepth 100000
namespace Go.Proofs.YtfhjhaogmdaepaaGreatDoor
open Go Go.RowKit Go.Proofs
theorem bitI_nn {op : BinOp} {k : IntKind} (hk : k.signed = false) (a b : Int) : 0 ≤ bitI op k a b := by
 unfold bitI
 cases k <;> simp [IntKind.signed] at hk <;> cases op <;> simp [IntKind.wrap, IntKind.signed, IntKind.bits] <;> omega
theorem wrap_nn {k : IntKind} (hk : k.signed = false) (a : Int) : 0 ≤ k.wrap a := by
 cases k <;> simp [IntKind.signed] at hk <;> simp [IntKind.wrap, IntKind.signed, IntKind.bits] <;> omega
def rotS (k : Int) : Int := bitI .and .u64 (IntKind.u64.wrap k) 31
/-- math/bits.RotateLeft32 -/
def rotlI (x k : Int) : Int := bitI .or .u32 (shlI .u32 x (rotS k)) (shrI .u32 x (IntKind.u64.wrap (32 - rotS k)))
/-- the reference's turn -/
def turnI (x n : Int) : Int := bitI .or .u32 (shrI .u32 x n) (shlI .u32 x (IntKind.u64.wrap (32 - n)))
theorem rotl_ok (gl : Nat → Obj) (x k : Int) : SpecV (cx gl) 231 [.int .u32 x, .int .i64 k] noPre (.int .u32 (rotlI x k)) := by
 refine Spec.enter (C := cx gl) Tryz.func231 rfl 17 rfl rfl fun w0 h0 hsep hsub hpre => ?_
 obtain rfl : h0 = Heap.none := hsep
 show St (cx gl) _ [(0, .int .u32 x), (1, .int .i64 k)] _ _
 refine R_seq ?_
 refine R_region ?_
 refine L_val rfl rfl rfl (OpP.v (P_assign rfl rfl)) ?_
 refine L_nil ?_
 refine Q_then ?_
 refine R_seq ?_
 refine R_region ?_
 refine L_val rfl rfl rfl (OpP.v (P_move rfl rfl)) ?_
 refine L_val rfl rfl rfl (OpP.v (P_conv rfl ty_int_3 ty_int_133 rfl)) ?_
 refine L_val rfl rfl rfl (OpP.v (P_bit (op := .and) rfl rfl rfl rfl)) ?_
 refine L_val rfl rfl rfl (OpP.v (P_assign rfl rfl)) ?_
 refine L_nil ?_
 refine St.env (.cons (t := 0) rfl (.cons (t := 4) rfl (.cons (t := 5) rfl .nil))) ?_
 refine Q_then ?_
 refine R_seq ?_
 refine R_region ?_
 refine L_val rfl rfl rfl (OpP.v (P_move rfl rfl)) ?_
 refine L_val rfl rfl rfl (OpP.v (P_move rfl rfl)) ?_
 refine L_val rfl rfl rfl (OpP.v (P_shl rfl rfl rfl (bitI_nn rfl _ _))) ?_
 refine L_val rfl rfl rfl (OpP.v (P_move rfl rfl)) ?_
 refine L_val rfl rfl rfl (OpP.v (P_move rfl rfl)) ?_
 refine L_val rfl rfl rfl (OpP.v (P_sub rfl rfl rfl)) ?_
 refine L_val rfl rfl rfl (OpP.v (P_shr rfl rfl rfl (wrap_nn rfl _))) ?_
 refine L_val rfl rfl rfl (OpP.v (P_bit (op := .or) rfl rfl rfl rfl)) ?_
 refine L_val rfl rfl rfl (OpP.v (P_assign rfl rfl)) ?_
 refine L_nil ?_
 refine St.env (.cons (t := 4) rfl .nil) ?_
 refine Q_then ?_
 refine R_ret ?_
 exact R_endV rfl rfl (.tmp rfl .nil) (rfl)
theorem turn_ok (gl : Nat → Obj) (x n : Int) (hn : 0 ≤ n) : SpecV (cx gl) 130 [.int .u32 x, .int .u64 n] noPre (.int .u32 (turnI x n)) := by
 refine Spec.enter (C := cx gl) Tryz.func130 rfl 13 rfl rfl fun w0 h0 hsep hsub hpre => ?_
 obtain rfl : h0 = Heap.none := hsep
 show St (cx gl) _ [(0, .int .u32 x), (1, .int .u64 n)] _ _
 refine R_seq ?_
 refine R_region ?_
 refine L_val rfl rfl rfl (OpP.v (P_assign rfl rfl)) ?_
 refine L_nil ?_
 refine Q_then ?_
 refine R_seq ?_
 refine R_region ?_
 refine L_val rfl rfl rfl (OpP.v (P_move rfl rfl)) ?_
 refine L_val rfl rfl rfl (OpP.v (P_move rfl rfl)) ?_
 refine L_val rfl rfl rfl (OpP.v (P_shr rfl rfl rfl (hn))) ?_
 refine L_val rfl rfl rfl (OpP.v (P_move rfl rfl)) ?_
 refine L_val rfl rfl rfl (OpP.v (P_move rfl rfl)) ?_
 refine L_val rfl rfl rfl (OpP.v (P_sub rfl rfl rfl)) ?_
 refine L_val rfl rfl rfl (OpP.v (P_shl rfl rfl rfl (wrap_nn rfl _))) ?_
 refine L_val rfl rfl rfl (OpP.v (P_bit (op := .or) rfl rfl rfl rfl)) ?_
 refine L_val rfl rfl rfl (OpP.v (P_assign rfl rfl)) ?_
 refine L_nil ?_
 refine St.env (.cons (t := 4) rfl .nil) ?_
 refine Q_then ?_
 refine R_ret ?_
 exact R_endV rfl rfl (.tmp rfl .nil) (rfl)
end Go.Proofs.YtfhjhaogmdaepaaGreatDoor

/- Walks: one chunk is worked in, by the program and by the reference. Printed by gen.py. -/
set_option linter.unusedVariables false
set_option linter.unusedSimpArgs false
set_option maxRecDepth 100000
namespace Go.Proofs.YtfhjhaogmdaepaaGreatDoor
open Go Go.RowKit Go.Proofs
def addsK : List Int := [1116352408, 1899447441, 3049323471, 3921009573, 961987163, 1508970993, 2453635748, 2870763221, 3624381080, 310598401, 607225278, 1426881987, 1925078388, 2162078206, 2614888103, 3248222580, 3835390401, 4022224774, 264347078, 604807628, 770255983, 1249150122, 1555081692, 1996064986, 2554220882, 2821834349, 2952996808, 3210313671, 3336571891, 3584528711, 113926993, 338241895, 666307205, 773529912, 1294757372, 1396182291, 1695183700, 1986661051, 2177026350, 2456956037, 2730485921, 2820302411, 3259730800, 3345764771, 3516065817, 3600352804, 4094571909, 275423344, 430227734, 506948616, 659060556, 883997877, 958139571, 1322822218, 1537002063, 1747873779, 1955562222, 2024104815, 2227730452, 2361852424, 2428436474, 2756734187, 3204031479, 3329325298]
def beginK : List Int := [1779033703, 3144134277, 1013904242, 2773480762, 1359893119, 2600822924, 528734635, 1541459225]
theorem addsK_length : addsK.length = 64 := rfl
def addW (a b : Int) : Int := IntKind.u32.wrap (a + b)
theorem addW_assoc (a b c : Int) : addW (addW a b) c = addW a (addW b c) := by
 simp only [addW, IntKind.wrap, IntKind.signed, IntKind.bits, Bool.false_and, Bool.false_eq_true, if_false]
 omega
def be32 (p : List Int) (i : Nat) : Int :=
 bitI .or .u32 (bitI .or .u32 (bitI .or .u32 (shlI .u32 (IntKind.u32.wrap (p.getD (4 * i) 0)) 24) (shlI .u32 (IntKind.u32.wrap (p.getD (4 * i + 1) 0)) 16)) (shlI .u32 (IntKind.u32.wrap (p.getD (4 * i + 2) 0)) 8)) (IntKind.u32.wrap (p.getD (4 * i + 3) 0))
def sch1 (p : List Int) : Nat → List Int
 | 0 => List.replicate 64 0
 | k + 1 => (sch1 p k).set k (be32 p k)
def sg0 (x : Int) : Int := bitI .xor .u32 (bitI .xor .u32 (turnI x 7) (turnI x 18)) (shrI .u32 x 3)
def sg1 (x : Int) : Int := bitI .xor .u32 (bitI .xor .u32 (turnI x 17) (turnI x 19)) (shrI .u32 x 10)
def sch2 (w : List Int) : Nat → List Int
 | 0 => w
 | k + 1 => (sch2 w k).set (16 + k) (addW (addW (addW ((sch2 w k).getD k 0) (sg0 ((sch2 w k).getD (k + 1) 0))) ((sch2 w k).getD (k + 9) 0)) (sg1 ((sch2 w k).getD (k + 14) 0)))
def bs0 (x : Int) : Int := bitI .xor .u32 (bitI .xor .u32 (turnI x 2) (turnI x 13)) (turnI x 22)
def bs1 (x : Int) : Int := bitI .xor .u32 (bitI .xor .u32 (turnI x 6) (turnI x 11)) (turnI x 25)
def chI (e f g : Int) : Int := bitI .xor .u32 (bitI .and .u32 e f) (bitI .and .u32 (bitI .xor .u32 (if IntKind.u32.signed then -1 else IntKind.u32.max) e) g)
def majI (a b c : Int) : Int := bitI .xor .u32 (bitI .xor .u32 (bitI .and .u32 a b) (bitI .and .u32 a c)) (bitI .and .u32 b c)
def rnd1 (K w : List Int) (i : Nat) : List Int → List Int
 | [a, b, c, d, e, f, g, h] =>
  [addW (addW (addW (addW (addW h (bs1 e)) (chI e f g)) (K.getD i 0)) (w.getD i 0)) (addW (bs0 a) (majI a b c)), a, b, c, addW d (addW (addW (addW (addW h (bs1 e)) (chI e f g)) (K.getD i 0)) (w.getD i 0)), e, f, g]
 | v => v
def rnds (K w s : List Int) : Nat → List Int
 | 0 => s
 | k + 1 => rnd1 K w k (rnds K w s k)
def fin8 (s v : List Int) : Nat → List Int
 | 0 => s
 | k + 1 => (fin8 s v k).set k (addW ((fin8 s v k).getD k 0) (v.getD k 0))
/-- One chunk of 64 bytes is worked into the eight words. -/
def mixF (K s p : List Int) : List Int := fin8 s (rnds K (sch2 (sch1 p 16) 48) s 64) 8
theorem sch1_length (p : List Int) (k : Nat) : (sch1 p k).length = 64 := by induction k <;> simp_all [sch1]
theorem sch2_length (w : List Int) (k : Nat) : (sch2 w k).length = w.length := by induction k <;> simp_all [sch2]
theorem rnd1_length (K w : List Int) (i : Nat) (v : List Int) : (rnd1 K w i v).length = v.length := by unfold rnd1; split <;> rfl
theorem rnds_length (K w s : List Int) (k : Nat) : (rnds K w s k).length = s.length := by induction k <;> simp_all [rnds, rnd1_length]
theorem fin8_length (s v : List Int) (k : Nat) : (fin8 s v k).length = s.length := by induction k <;> simp_all [fin8]
theorem mixF_length (K s p : List Int) : (mixF K s p).length = s.length := by simp [mixF, fin8_length]
theorem list8 {v : List Int} (h : v.length = 8) : ∃ a b c d e f g i, v = [a, b, c, d, e, f, g, i] := by
 match v, h with
 | [a, b, c, d, e, f, g, i], _ => exact ⟨a, b, c, d, e, f, g, i, rfl⟩
theorem bitI_or_comm (k : IntKind) (a b : Int) : bitI .or k a b = bitI .or k b a := by simp [bitI, BitVec.or_comm]
theorem rot2 (x : Int) : rotlI x (-2) = turnI x 2 := by unfold rotlI turnI; rw [bitI_or_comm]; rfl
theorem rot6 (x : Int) : rotlI x (-6) = turnI x 6 := by unfold rotlI turnI; rw [bitI_or_comm]; rfl
theorem rot7 (x : Int) : rotlI x (-7) = turnI x 7 := by unfold rotlI turnI; rw [bitI_or_comm]; rfl
theorem rot11 (x : Int) : rotlI x (-11) = turnI x 11 := by unfold rotlI turnI; rw [bitI_or_comm]; rfl
theorem rot13 (x : Int) : rotlI x (-13) = turnI x 13 := by unfold rotlI turnI; rw [bitI_or_comm]; rfl
theorem rot17 (x : Int) : rotlI x (-17) = turnI x 17 := by unfold rotlI turnI; rw [bitI_or_comm]; rfl
theorem rot18 (x : Int) : rotlI x (-18) = turnI x 18 := by unfold rotlI turnI; rw [bitI_or_comm]; rfl
theorem rot19 (x : Int) : rotlI x (-19) = turnI x 19 := by unfold rotlI turnI; rw [bitI_or_comm]; rfl
theorem rot22 (x : Int) : rotlI x (-22) = turnI x 22 := by unfold rotlI turnI; rw [bitI_or_comm]; rfl
theorem rot25 (x : Int) : rotlI x (-25) = turnI x 25 := by unfold rotlI turnI; rw [bitI_or_comm]; rfl
/-- Where the rounds' numbers lie. -/
structure Globs (gl : Nat → Obj) : Prop where
 begin_ : ∃ T fr, gl 3 = .cells (ints .u32 beginK).toArray T fr
 adds : ∃ T fr, gl 4 = .cells (ints .u32 addsK).toArray T fr
/-- The reference's too. -/
structure GlobsR (gl : Nat → Obj) : Prop extends Globs gl where
 refAdds : ∃ T fr, gl 0 = .cells (ints .u32 addsK).toArray T fr
set_option maxHeartbeats 4000000 in
theorem mix_ok {gl : Nat → Obj} (hG : ∃ T fr, gl 4 = .cells (ints .u32 addsK).toArray T fr) (s p : List Int) (hs : s.length = 8) (hp : p.length = 64) : SpecV (cx gl) 212 [.agg (ints .u32 s).toArray, .agg (ints .u8 p).toArray] noPre (.agg (ints .u32 (mixF addsK s p)).toArray) := by
 refine Spec.enter (C := cx gl) Tryz.func212 rfl 191 rfl rfl fun w0 h0 hsep hsub hpre => ?_
 obtain rfl : h0 = Heap.none := hsep
 show St (cx gl) _ [(0, .agg (ints .u32 s).toArray), (1, .agg (ints .u8 p).toArray)] _ _
 refine R_seq ?_
 refine R_region ?_
 refine L_op rfl (W_box (_) rfl rfl rfl rfl rfl fun b2 => ?_)
 refine L_op rfl (W_box (_) rfl rfl rfl rfl rfl fun b3 => ?_)
 refine L_op rfl (W_alloc rfl rfl rfl ty_ze_291 fun b4 => ?_)
 refine L_nil ?_
 refine St.env (.cons (t := 2) rfl (.cons (t := 3) rfl (.cons (t := 4) rfl .nil))) ?_
 refine Q_then ?_
 refine R_seq ?_
 refine R_region ?_
 refine L_op rfl (W_alloc rfl rfl rfl ty_ze_208 fun b5 => ?_)
 rw [rep_ints]
 refine L_nil ?_
 refine Q_then ?_
 refine R_seq ?_
 refine R_seq ?_
 refine R_region ?_
 refine L_val rfl rfl rfl (OpP.v (P_move rfl rfl)) ?_
 refine L_nil ?_
 refine Q_then ?_
 refine R_block ?_
 refine R_loop (G := Nat) (fun k => [(2, .pointer (some ⟨b2, 0, none⟩)), (3, .pointer (some ⟨b3, 0, none⟩)), (4, .pointer (some ⟨b4, 0, none⟩)), (5, .pointer (some ⟨b5, 0, none⟩)), (19, .int .i64 (k : Int))]) (fun k => [blk b5 (ints .u32 (sch1 p k)) 208, blk b4 (List.replicate 8 (.int .u32 0)) 291, blk b3 (ints .u8 p) 292, blk b2 (ints .u32 s) 291]) (fun k => k ≤ 16) (fun k => 16 - k) (0) (by omega) (by repeat (first | exact .nil | refine .cons rfl ?_)) (Weak.refl _) ?_
 intro k hk
 have hl := sch1_length p k
 refine R_seq ?_
 refine R_region ?_
 refine L_val rfl rfl rfl (OpP.v (P_lss rfl rfl rfl)) ?_
 refine L_nil ?_
 refine Q_then ?_
 refine R_seq ?_
 refine R_condP rfl (fun hlt => ?_) (fun hlt => ?_)
 ·skip
  refine R_skip ?_
  refine Q_then ?_
  refine R_seq ?_
  refine R_block ?_
  refine R_seq ?_
  refine R_region ?_
  refine L_val rfl rfl rfl (OpP.v (P_move rfl rfl)) ?_
  refine L_val rfl rfl rfl (OpP.v (P_assign rfl rfl)) ?_
  refine L_nil ?_
  refine Q_then ?_
  refine R_open [(0, 0), (1, 0), (2, 0), (3, 0), (4, 1), (5, 0), (6, 0), (7, 0), (8, 0), (9, 0), (10, 0), (11, 1), (12, 0), (13, 0), (14, 0), (15, 0), (16, 0), (17, 0), (18, 0), (19, 1), (20, 0), (21, 0), (22, 0), (23, 0), (24, 0), (25, 0), (26, 0), (27, 1), (28, 0), (29, 0), (30, 0), (31, 3)] mixed (by kernel_rfl) (QOk.block (QOk.then (QOk.then (QOk.block (QOk.then QOk.body))))) ?_
  refine O_pure rfl rfl rfl rfl (P_move rfl rfl) ?_
  refine O_pure rfl rfl rfl rfl (P_move rfl rfl) ?_
  first | (refine O_pure rfl rfl rfl rfl (P_mulN rfl rfl rfl (by simp only [fits]; omega)) ?_) | (refine O_pure rfl rfl rfl rfl (P_mul rfl rfl rfl) ?_)
  first | (refine O_pure rfl rfl rfl rfl (P_ixa0 (4 * k) rfl ty_ar_292 rfl rfl (by first | rfl | omega) (by omega)) ?_) | (refine O_pure rfl rfl rfl rfl (P_ixa (4 * k) rfl ty_ar_292 rfl rfl (by first | rfl | omega) (by omega)) ?_)
  refine O_val rfl rfl rfl rfl (V_load rfl rfl ty_sc_5 (Rd.blk .h2 (ints_at (by omega)))) ?_
  refine O_pure rfl rfl rfl rfl (P_conv rfl ty_int_5 ty_int_108 rfl) ?_
  refine O_pure rfl rfl rfl rfl (P_shl rfl rfl rfl (by decide)) ?_
  refine O_pure rfl rfl rfl rfl (P_move rfl rfl) ?_
  first | (refine O_pure rfl rfl rfl rfl (P_mulN rfl rfl rfl (by simp only [fits]; omega)) ?_) | (refine O_pure rfl rfl rfl rfl (P_mul rfl rfl rfl) ?_)
  first | (refine O_pure rfl rfl rfl rfl (P_addN rfl rfl rfl (by simp only [fits]; omega)) ?_) | (refine O_pure rfl rfl rfl rfl (P_add rfl rfl rfl) ?_)
  first | (refine O_pure rfl rfl rfl rfl (P_ixa0 (4 * k + 1) rfl ty_ar_292 rfl rfl (by first | rfl | omega) (by omega)) ?_) | (refine O_pure rfl rfl rfl rfl (P_ixa (4 * k + 1) rfl ty_ar_292 rfl rfl (by first | rfl | omega) (by omega)) ?_)
  refine O_val rfl rfl rfl rfl (V_load rfl rfl ty_sc_5 (Rd.blk .h2 (ints_at (by omega)))) ?_
  refine O_pure rfl rfl rfl rfl (P_conv rfl ty_int_5 ty_int_108 rfl) ?_
  refine O_pure rfl rfl rfl rfl (P_shl rfl rfl rfl (by decide)) ?_
  refine O_pure rfl rfl rfl rfl (P_bit (op := .or) rfl rfl rfl rfl) ?_
  refine O_pure rfl rfl rfl rfl (P_move rfl rfl) ?_
  first | (refine O_pure rfl rfl rfl rfl (P_mulN rfl rfl rfl (by simp only [fits]; omega)) ?_) | (refine O_pure rfl rfl rfl rfl (P_mul rfl rfl rfl) ?_)
  first | (refine O_pure rfl rfl rfl rfl (P_addN rfl rfl rfl (by simp only [fits]; omega)) ?_) | (refine O_pure rfl rfl rfl rfl (P_add rfl rfl rfl) ?_)
  first | (refine O_pure rfl rfl rfl rfl (P_ixa0 (4 * k + 2) rfl ty_ar_292 rfl rfl (by first | rfl | omega) (by omega)) ?_) | (refine O_pure rfl rfl rfl rfl (P_ixa (4 * k + 2) rfl ty_ar_292 rfl rfl (by first | rfl | omega) (by omega)) ?_)
  refine O_val rfl rfl rfl rfl (V_load rfl rfl ty_sc_5 (Rd.blk .h2 (ints_at (by omega)))) ?_
  refine O_pure rfl rfl rfl rfl (P_conv rfl ty_int_5 ty_int_108 rfl) ?_
  refine O_pure rfl rfl rfl rfl (P_shl rfl rfl rfl (by decide)) ?_
  refine O_pure rfl rfl rfl rfl (P_bit (op := .or) rfl rfl rfl rfl) ?_
  refine O_pure rfl rfl rfl rfl (P_move rfl rfl) ?_
  first | (refine O_pure rfl rfl rfl rfl (P_mulN rfl rfl rfl (by simp only [fits]; omega)) ?_) | (refine O_pure rfl rfl rfl rfl (P_mul rfl rfl rfl) ?_)
  first | (refine O_pure rfl rfl rfl rfl (P_addN rfl rfl rfl (by simp only [fits]; omega)) ?_) | (refine O_pure rfl rfl rfl rfl (P_add rfl rfl rfl) ?_)
  first | (refine O_pure rfl rfl rfl rfl (P_ixa0 (4 * k + 3) rfl ty_ar_292 rfl rfl (by first | rfl | omega) (by omega)) ?_) | (refine O_pure rfl rfl rfl rfl (P_ixa (4 * k + 3) rfl ty_ar_292 rfl rfl (by first | rfl | omega) (by omega)) ?_)
  refine O_val rfl rfl rfl rfl (V_load rfl rfl ty_sc_5 (Rd.blk .h2 (ints_at (by omega)))) ?_
  refine O_pure rfl rfl rfl rfl (P_conv rfl ty_int_5 ty_int_108 rfl) ?_
  refine O_pure rfl rfl rfl rfl (P_bit (op := .or) rfl rfl rfl rfl) ?_
  first | (refine O_pure rfl rfl rfl rfl (P_ixa0 (k) rfl ty_ar_208 rfl rfl (by first | rfl | omega) (by omega)) ?_) | (refine O_pure rfl rfl rfl rfl (P_ixa (k) rfl ty_ar_208 rfl rfl (by first | rfl | omega) (by omega)) ?_)
  refine O_new rfl rfl (W_store rfl rfl rfl rfl ty_sc_108 rfl .h0 (by rw [ints_length, hl]; omega) (K_new ?_))
  rw [ints_set]
  refine O_nil ?_
  refine Q_block ?_
  refine Q_then ?_
  refine R_region ?_
  first | (refine L_val rfl rfl rfl (OpP.v (P_addN rfl rfl rfl (by simp only [fits]; omega))) ?_) | (refine L_val rfl rfl rfl (OpP.v (P_add rfl rfl rfl)) ?_)
  refine L_val rfl rfl rfl (OpP.v (P_move rfl rfl)) ?_
  refine L_nil ?_
  refine E_nat (t := 19) (n := k + 1) rfl (by omega) ?_
  exact Q_round (k + 1) (by omega) (by omega) (by repeat (first | exact .nil | refine .cons rfl ?_)) (Weak.refl _)
 ·skip
  refine R_exit ?_
  refine Q_then_exit ?_
  refine Q_then_exit ?_
  refine Q_block_eq ?_
  refine St.env (.cons (t := 2) rfl (.cons (t := 4) rfl (.cons (t := 5) rfl .nil))) ?_
  refine Q_then ?_
  refine R_seq ?_
  refine R_seq ?_
  refine R_region ?_
  refine L_val rfl rfl rfl (OpP.v (P_assign rfl rfl)) ?_
  refine L_nil ?_
  refine Q_then ?_
  refine R_block ?_
  obtain rfl : k = 16 := by omega
  refine R_loop (G := Nat) (fun k => [(2, .pointer (some ⟨b2, 0, none⟩)), (4, .pointer (some ⟨b4, 0, none⟩)), (5, .pointer (some ⟨b5, 0, none⟩)), (7, .int .i64 ((16 + k : Nat) : Int))]) (fun k => [blk b5 (ints .u32 (sch2 (sch1 p 16) k)) 208, blk b4 (List.replicate 8 (.int .u32 0)) 291, blk b3 (ints .u8 p) 292, blk b2 (ints .u32 s) 291]) (fun k => k ≤ 48) (fun k => 48 - k) (0) (by omega) (by repeat (first | exact .nil | refine .cons rfl ?_)) (Weak.refl _) ?_
  intro k hk
  have hl : (sch2 (sch1 p 16) k).length = 64 := by rw [sch2_length, sch1_length]
  refine R_seq ?_
  refine R_seq ?_
  refine R_region ?_
  refine L_val rfl rfl rfl (OpP.v (P_move rfl rfl)) ?_
  refine L_val rfl rfl rfl (OpP.v (P_lss rfl rfl rfl)) ?_
  refine L_nil ?_
  refine Q_then ?_
  refine R_condP rfl (fun hlt2 => ?_) (fun hlt2 => ?_)
  ·skip
   refine R_skip ?_
   refine Q_then ?_
   refine R_seq ?_
   refine R_block ?_
   refine R_seq ?_
   refine R_open [(0, 0), (1, 0), (2, 0), (3, 1), (4, 0), (5, 0), (6, 0), (7, 1), (8, 0), (9, 0)] mixed (by kernel_rfl) (QOk.then (QOk.block (QOk.then (QOk.then (QOk.block (QOk.then QOk.body)))))) ?_
   refine O_pure rfl rfl rfl rfl (P_move rfl rfl) ?_
   first | (refine O_pure rfl rfl rfl rfl (P_subN rfl rfl rfl (by simp only [fits]; omega)) ?_) | (refine O_pure rfl rfl rfl rfl (P_sub rfl rfl rfl) ?_)
   first | (refine O_pure rfl rfl rfl rfl (P_ixa0 (k + 1) rfl ty_ar_208 rfl rfl (by first | rfl | omega) (by omega)) ?_) | (refine O_pure rfl rfl rfl rfl (P_ixa (k + 1) rfl ty_ar_208 rfl rfl (by first | rfl | omega) (by omega)) ?_)
   refine O_val rfl rfl rfl rfl (V_load rfl rfl ty_sc_108 (Rd.blk .h0 (ints_at (by omega)))) ?_
   refine O_pure rfl rfl rfl rfl (P_move rfl rfl) ?_
   first | (refine O_pure rfl rfl rfl rfl (P_subN rfl rfl rfl (by simp only [fits]; omega)) ?_) | (refine O_pure rfl rfl rfl rfl (P_sub rfl rfl rfl) ?_)
   first | (refine O_pure rfl rfl rfl rfl (P_ixa0 (k + 14) rfl ty_ar_208 rfl rfl (by first | rfl | omega) (by omega)) ?_) | (refine O_pure rfl rfl rfl rfl (P_ixa (k + 14) rfl ty_ar_208 rfl rfl (by first | rfl | omega) (by omega)) ?_)
   refine O_val rfl rfl rfl rfl (V_load rfl rfl ty_sc_108 (Rd.blk .h0 (ints_at (by omega)))) ?_
   refine O_pure rfl rfl rfl rfl (P_assign rfl rfl) ?_
   refine O_pure rfl rfl rfl rfl (P_assign rfl rfl) ?_
   refine O_nil ?_
   refine Q_then ?_
   refine R_seq ?_
   refine R_region ?_
   refine L_val rfl rfl rfl (OpP.v (P_move rfl rfl)) ?_
   refine L_op rfl (W_callV rfl rfl rfl rfl fn_ca_231 (SpecV.mono (rotl_ok gl _ (-7)) (fun _ h => h) (by rw [rot7])) (fun _ _ => trivial) ?_)
   refine L_val rfl rfl rfl (OpP.v (P_move rfl rfl)) ?_
   refine L_op rfl (W_callV rfl rfl rfl rfl fn_ca_231 (SpecV.mono (rotl_ok gl _ (-18)) (fun _ h => h) (by rw [rot18])) (fun _ _ => trivial) ?_)
   refine L_val rfl rfl rfl (OpP.v (P_bit (op := .xor) rfl rfl rfl rfl)) ?_
   refine L_val rfl rfl rfl (OpP.v (P_move rfl rfl)) ?_
   refine L_val rfl rfl rfl (OpP.v (P_shr rfl rfl rfl (by decide))) ?_
   refine L_val rfl rfl rfl (OpP.v (P_bit (op := .xor) rfl rfl rfl rfl)) ?_
   refine L_val rfl rfl rfl (OpP.v (P_assign rfl rfl)) ?_
   refine L_nil ?_
   refine Q_then ?_
   refine R_seq ?_
   refine R_region ?_
   refine L_val rfl rfl rfl (OpP.v (P_move rfl rfl)) ?_
   refine L_op rfl (W_callV rfl rfl rfl rfl fn_ca_231 (SpecV.mono (rotl_ok gl _ (-17)) (fun _ h => h) (by rw [rot17])) (fun _ _ => trivial) ?_)
   refine L_val rfl rfl rfl (OpP.v (P_move rfl rfl)) ?_
   refine L_op rfl (W_callV rfl rfl rfl rfl fn_ca_231 (SpecV.mono (rotl_ok gl _ (-19)) (fun _ h => h) (by rw [rot19])) (fun _ _ => trivial) ?_)
   refine L_val rfl rfl rfl (OpP.v (P_bit (op := .xor) rfl rfl rfl rfl)) ?_
   refine L_val rfl rfl rfl (OpP.v (P_move rfl rfl)) ?_
   refine L_val rfl rfl rfl (OpP.v (P_shr rfl rfl rfl (by decide))) ?_
   refine L_val rfl rfl rfl (OpP.v (P_bit (op := .xor) rfl rfl rfl rfl)) ?_
   refine L_val rfl rfl rfl (OpP.v (P_assign rfl rfl)) ?_
   refine L_nil ?_
   refine Q_then ?_
   refine R_open [(0, 0), (1, 0), (2, 0), (3, 0), (4, 1), (5, 0), (6, 0), (7, 0), (8, 0), (9, 0), (10, 1), (11, 0), (12, 0), (13, 0), (14, 0), (15, 3)] mixed (by kernel_rfl) (QOk.block (QOk.then (QOk.then (QOk.block (QOk.then QOk.body))))) ?_
   refine O_pure rfl rfl rfl rfl (P_move rfl rfl) ?_
   refine O_pure rfl rfl rfl rfl (P_move rfl rfl) ?_
   first | (refine O_pure rfl rfl rfl rfl (P_subN rfl rfl rfl (by simp only [fits]; omega)) ?_) | (refine O_pure rfl rfl rfl rfl (P_sub rfl rfl rfl) ?_)
   first | (refine O_pure rfl rfl rfl rfl (P_ixa0 (k) rfl ty_ar_208 rfl rfl (by first | rfl | omega) (by omega)) ?_) | (refine O_pure rfl rfl rfl rfl (P_ixa (k) rfl ty_ar_208 rfl rfl (by first | rfl | omega) (by omega)) ?_)
   refine O_val rfl rfl rfl rfl (V_load rfl rfl ty_sc_108 (Rd.blk .h0 (ints_at (by omega)))) ?_
   refine O_pure rfl rfl rfl rfl (P_move rfl rfl) ?_
   refine O_pure rfl rfl rfl rfl (P_add rfl rfl rfl) ?_
   refine O_pure rfl rfl rfl rfl (P_move rfl rfl) ?_
   first | (refine O_pure rfl rfl rfl rfl (P_subN rfl rfl rfl (by simp only [fits]; omega)) ?_) | (refine O_pure rfl rfl rfl rfl (P_sub rfl rfl rfl) ?_)
   first | (refine O_pure rfl rfl rfl rfl (P_ixa0 (k + 9) rfl ty_ar_208 rfl rfl (by first | rfl | omega) (by omega)) ?_) | (refine O_pure rfl rfl rfl rfl (P_ixa (k + 9) rfl ty_ar_208 rfl rfl (by first | rfl | omega) (by omega)) ?_)
   refine O_val rfl rfl rfl rfl (V_load rfl rfl ty_sc_108 (Rd.blk .h0 (ints_at (by omega)))) ?_
   refine O_pure rfl rfl rfl rfl (P_add rfl rfl rfl) ?_
   refine O_pure rfl rfl rfl rfl (P_move rfl rfl) ?_
   refine O_pure rfl rfl rfl rfl (P_add rfl rfl rfl) ?_
   first | (refine O_pure rfl rfl rfl rfl (P_ixa0 (16 + k) rfl ty_ar_208 rfl rfl (by first | rfl | omega) (by omega)) ?_) | (refine O_pure rfl rfl rfl rfl (P_ixa (16 + k) rfl ty_ar_208 rfl rfl (by first | rfl | omega) (by omega)) ?_)
   refine O_new rfl rfl (W_store rfl rfl rfl rfl ty_sc_108 rfl .h0 (by rw [ints_length, hl]; omega) (K_new ?_))
   rw [ints_set]
   refine O_nil ?_
   refine Q_block ?_
   refine Q_then ?_
   refine R_region ?_
   refine L_val rfl rfl rfl (OpP.v (P_move rfl rfl)) ?_
   first | (refine L_val rfl rfl rfl (OpP.v (P_addN rfl rfl rfl (by simp only [fits]; omega))) ?_) | (refine L_val rfl rfl rfl (OpP.v (P_add rfl rfl rfl)) ?_)
   refine L_val rfl rfl rfl (OpP.v (P_assign rfl rfl)) ?_
   refine L_nil ?_
   refine E_nat (t := 7) (n := 16 + (k + 1)) rfl (by omega) ?_
   exact Q_round (k + 1) (by omega) (by omega) (by repeat (first | exact .nil | refine .cons rfl ?_)) (Weak.refl _)
  ·skip
   refine R_exit ?_
   refine Q_then_exit ?_
   refine Q_then_exit ?_
   refine Q_block_eq ?_
   refine St.env (.cons (t := 2) rfl (.cons (t := 4) rfl (.cons (t := 5) rfl .nil))) ?_
   refine Q_then ?_
   refine R_seq ?_
   refine R_region ?_
   refine L_val rfl rfl rfl (V_loadAgg rfl rfl ty_ag_291 (Rds.blk .h3) (by rw [ints_length, hs])) ?_
   refine L_op rfl (W_alloc rfl rfl rfl ty_ze_291 fun b12 => ?_)
   refine L_op rfl (W_storeAll rfl rfl rfl rfl ty_ag_291 (by rw [ints_length, hs]) (ints_one) .h0 (by rw [ints_length, List.length_replicate]; exact hs) ?_)
   refine L_nil ?_
   refine St.env (.cons (t := 2) rfl (.cons (t := 4) rfl (.cons (t := 5) rfl (.cons (t := 12) rfl .nil)))) ?_
   refine Q_then ?_
   refine R_seq ?_
   refine R_seq ?_
   refine R_region ?_
   refine L_val rfl rfl rfl (OpP.v (P_move rfl rfl)) ?_
   refine L_nil ?_
   refine Q_then ?_
   refine R_block ?_
   obtain rfl : k = 48 := by omega
   refine R_loop (G := Nat) (fun k => [(2, .pointer (some ⟨b2, 0, none⟩)), (4, .pointer (some ⟨b4, 0, none⟩)), (5, .pointer (some ⟨b5, 0, none⟩)), (12, .pointer (some ⟨b12, 0, none⟩)), (98, .int .i64 (k : Int))]) (fun k => [blk b12 (ints .u32 (rnds addsK (sch2 (sch1 p 16) 48) s k)) 291, blk b5 (ints .u32 (sch2 (sch1 p 16) 48)) 208, blk b4 (List.replicate 8 (.int .u32 0)) 291, blk b3 (ints .u8 p) 292, blk b2 (ints .u32 s) 291]) (fun k => k ≤ 64) (fun k => 64 - k) (0) (by omega) (by repeat (first | exact .nil | refine .cons rfl ?_)) (Weak.refl _) ?_
   intro k hk
   have hl : (sch2 (sch1 p 16) 48).length = 64 := by rw [sch2_length, sch1_length]
   have hr : (rnds addsK (sch2 (sch1 p 16) 48) s k).length = 8 := by rw [rnds_length, hs]
   obtain ⟨va, vb, vc, vd, ve, vf, vg, vh, e8⟩ := list8 hr
   rw [e8]
   refine R_seq ?_
   refine R_region ?_
   refine L_val rfl rfl rfl (OpP.v (P_lss rfl rfl rfl)) ?_
   refine L_nil ?_
   refine Q_then ?_
   refine R_seq ?_
   refine R_condP rfl (fun hlt3 => ?_) (fun hlt3 => ?_)
   ·skip
    refine R_skip ?_
    refine Q_then ?_
    refine R_seq ?_
    refine R_block ?_
    refine R_seq ?_
    refine R_region ?_
    refine L_val rfl rfl rfl (OpP.v (P_move rfl rfl)) ?_
    refine L_val rfl rfl rfl (OpP.v (P_assign rfl rfl)) ?_
    refine L_nil ?_
    refine Q_then ?_
    refine R_seq ?_
    refine R_open [(0, 0), (1, 1), (2, 0), (3, 1), (4, 0), (5, 0)] mixed (by kernel_rfl) (QOk.then (QOk.block (QOk.then (QOk.then (QOk.block (QOk.then QOk.body)))))) ?_
    first | (refine O_pure rfl rfl rfl rfl (P_ixa0 (4) rfl ty_ar_291 rfl rfl (by first | rfl | omega) (by omega)) ?_) | (refine O_pure rfl rfl rfl rfl (P_ixa (4) rfl ty_ar_291 rfl rfl (by first | rfl | omega) (by omega)) ?_)
    refine O_val rfl rfl rfl rfl (V_load rfl rfl ty_sc_108 (by first | exact Rd.blk .h0 rfl | exact Rd.blk .h1 rfl | exact Rd.blk .h2 rfl | exact Rd.blk .h3 rfl | exact Rd.blk .h4 rfl | exact Rd.blk .h5 rfl | exact Rd.blk .h6 rfl | exact Rd.blk .h7 rfl)) ?_
    first | (refine O_pure rfl rfl rfl rfl (P_ixa0 (0) rfl ty_ar_291 rfl rfl (by first | rfl | omega) (by omega)) ?_) | (refine O_pure rfl rfl rfl rfl (P_ixa (0) rfl ty_ar_291 rfl rfl (by first | rfl | omega) (by omega)) ?_)
    refine O_val rfl rfl rfl rfl (V_load rfl rfl ty_sc_108 (by first | exact Rd.blk .h0 rfl | exact Rd.blk .h1 rfl | exact Rd.blk .h2 rfl | exact Rd.blk .h3 rfl | exact Rd.blk .h4 rfl | exact Rd.blk .h5 rfl | exact Rd.blk .h6 rfl | exact Rd.blk .h7 rfl)) ?_
    refine O_pure rfl rfl rfl rfl (P_assign rfl rfl) ?_
    refine O_pure rfl rfl rfl rfl (P_assign rfl rfl) ?_
    refine O_nil ?_
    refine Q_then ?_
    refine R_seq ?_
    refine R_open [(0, 0), (1, 1), (2, 0), (4, 0), (7, 0), (11, 0), (12, 0), (13, 1), (14, 0), (15, 0), (16, 0), (17, 0), (18, 1), (19, 0), (20, 0), (22, 0), (23, 0), (24, 1), (26, 0), (27, 0), (28, 1), (3, 2), (5, 2), (6, 0), (8, 2), (9, 0), (10, 0), (21, 0), (25, 0), (29, 0), (30, 0)] mixed (by kernel_rfl) (QOk.then (QOk.block (QOk.then (QOk.then (QOk.block (QOk.then QOk.body)))))) ?_
    first | (refine O_pure rfl rfl rfl rfl (P_ixa0 (7) rfl ty_ar_291 rfl rfl (by first | rfl | omega) (by omega)) ?_) | (refine O_pure rfl rfl rfl rfl (P_ixa (7) rfl ty_ar_291 rfl rfl (by first | rfl | omega) (by omega)) ?_)
    refine O_val rfl rfl rfl rfl (V_load rfl rfl ty_sc_108 (by first | exact Rd.blk .h0 rfl | exact Rd.blk .h1 rfl | exact Rd.blk .h2 rfl | exact Rd.blk .h3 rfl | exact Rd.blk .h4 rfl | exact Rd.blk .h5 rfl | exact Rd.blk .h6 rfl | exact Rd.blk .h7 rfl)) ?_
    refine O_pure rfl rfl rfl rfl (P_move rfl rfl) ?_
    refine O_pure rfl rfl rfl rfl (P_move rfl rfl) ?_
    refine O_pure rfl rfl rfl rfl (P_move rfl rfl) ?_
    refine O_pure rfl rfl rfl rfl (P_move rfl rfl) ?_
    first | (refine O_pure rfl rfl rfl rfl (P_ixa0 (5) rfl ty_ar_291 rfl rfl (by first | rfl | omega) (by omega)) ?_) | (refine O_pure rfl rfl rfl rfl (P_ixa (5) rfl ty_ar_291 rfl rfl (by first | rfl | omega) (by omega)) ?_)
    refine O_val rfl rfl rfl rfl (V_load rfl rfl ty_sc_108 (by first | exact Rd.blk .h0 rfl | exact Rd.blk .h1 rfl | exact Rd.blk .h2 rfl | exact Rd.blk .h3 rfl | exact Rd.blk .h4 rfl | exact Rd.blk .h5 rfl | exact Rd.blk .h6 rfl | exact Rd.blk .h7 rfl)) ?_
    refine O_pure rfl rfl rfl rfl (P_bit (op := .and) rfl rfl rfl rfl) ?_
    refine O_pure rfl rfl rfl rfl (P_move rfl rfl) ?_
    refine O_pure rfl rfl rfl rfl (P_compl rfl rfl) ?_
    first | (refine O_pure rfl rfl rfl rfl (P_ixa0 (6) rfl ty_ar_291 rfl rfl (by first | rfl | omega) (by omega)) ?_) | (refine O_pure rfl rfl rfl rfl (P_ixa (6) rfl ty_ar_291 rfl rfl (by first | rfl | omega) (by omega)) ?_)
    refine O_val rfl rfl rfl rfl (V_load rfl rfl ty_sc_108 (by first | exact Rd.blk .h0 rfl | exact Rd.blk .h1 rfl | exact Rd.blk .h2 rfl | exact Rd.blk .h3 rfl | exact Rd.blk .h4 rfl | exact Rd.blk .h5 rfl | exact Rd.blk .h6 rfl | exact Rd.blk .h7 rfl)) ?_
    refine O_pure rfl rfl rfl rfl (P_bit (op := .and) rfl rfl rfl rfl) ?_
    refine O_pure rfl rfl rfl rfl (P_bit (op := .xor) rfl rfl rfl rfl) ?_
    refine O_pure rfl rfl rfl rfl (P_move rfl rfl) ?_
    first | (refine O_pure rfl rfl rfl rfl (P_ixa0 (k) rfl ty_ar_208 rfl rfl (by first | rfl | omega) (by omega)) ?_) | (refine O_pure rfl rfl rfl rfl (P_ixa (k) rfl ty_ar_208 rfl rfl (by first | rfl | omega) (by omega)) ?_)
    refine O_val rfl rfl rfl rfl (V_load rfl rfl ty_sc_108 (hG.elim fun T h => h.elim fun fr h => Rd.glob rfl h (ints_at (by rw [addsK_length]; omega)))) ?_
    refine O_pure rfl rfl rfl rfl (P_move rfl rfl) ?_
    first | (refine O_pure rfl rfl rfl rfl (P_ixa0 (k) rfl ty_ar_208 rfl rfl (by first | rfl | omega) (by omega)) ?_) | (refine O_pure rfl rfl rfl rfl (P_ixa (k) rfl ty_ar_208 rfl rfl (by first | rfl | omega) (by omega)) ?_)
    refine O_val rfl rfl rfl rfl (V_load rfl rfl ty_sc_108 (Rd.blk .h1 (ints_at (by omega)))) ?_
    refine O_keep rfl rfl (W_callV rfl rfl rfl rfl fn_ca_231 (SpecV.mono (rotl_ok gl _ (-6)) (fun _ h => h) (by rw [rot6])) (fun _ _ => trivial) (K_keep (Weak.refl _) ?_))
    refine O_keep rfl rfl (W_callV rfl rfl rfl rfl fn_ca_231 (SpecV.mono (rotl_ok gl _ (-11)) (fun _ h => h) (by rw [rot11])) (fun _ _ => trivial) (K_keep (Weak.refl _) ?_))
    refine O_pure rfl rfl rfl rfl (P_bit (op := .xor) rfl rfl rfl rfl) ?_
    refine O_keep rfl rfl (W_callV rfl rfl rfl rfl fn_ca_231 (SpecV.mono (rotl_ok gl _ (-25)) (fun _ h => h) (by rw [rot25])) (fun _ _ => trivial) (K_keep (Weak.refl _) ?_))
    refine O_pure rfl rfl rfl rfl (P_bit (op := .xor) rfl rfl rfl rfl) ?_
    refine O_pure rfl rfl rfl rfl (P_add rfl rfl rfl) ?_
    refine O_pure rfl rfl rfl rfl (P_add rfl rfl rfl) ?_
    refine O_pure rfl rfl rfl rfl (P_add rfl rfl rfl) ?_
    refine O_pure rfl rfl rfl rfl (P_add rfl rfl rfl) ?_
    refine O_pure rfl rfl rfl rfl (P_assign rfl rfl) ?_
    refine O_nil ?_
    refine Q_then ?_
    refine R_seq ?_
    refine R_open [(0, 0), (2, 0), (5, 0), (8, 0), (9, 0), (10, 1), (11, 0), (12, 0), (13, 0), (14, 1), (15, 0), (16, 0), (17, 0), (18, 1), (19, 0), (20, 1), (21, 0), (22, 0), (1, 2), (3, 2), (4, 0), (6, 2), (7, 0), (23, 0), (24, 0)] mixed (by kernel_rfl) (QOk.then (QOk.block (QOk.then (QOk.then (QOk.block (QOk.then QOk.body)))))) ?_
    refine O_pure rfl rfl rfl rfl (P_move rfl rfl) ?_
    refine O_pure rfl rfl rfl rfl (P_move rfl rfl) ?_
    refine O_pure rfl rfl rfl rfl (P_move rfl rfl) ?_
    refine O_pure rfl rfl rfl rfl (P_move rfl rfl) ?_
    first | (refine O_pure rfl rfl rfl rfl (P_ixa0 (1) rfl ty_ar_291 rfl rfl (by first | rfl | omega) (by omega)) ?_) | (refine O_pure rfl rfl rfl rfl (P_ixa (1) rfl ty_ar_291 rfl rfl (by first | rfl | omega) (by omega)) ?_)
    refine O_val rfl rfl rfl rfl (V_load rfl rfl ty_sc_108 (by first | exact Rd.blk .h0 rfl | exact Rd.blk .h1 rfl | exact Rd.blk .h2 rfl | exact Rd.blk .h3 rfl | exact Rd.blk .h4 rfl | exact Rd.blk .h5 rfl | exact Rd.blk .h6 rfl | exact Rd.blk .h7 rfl)) ?_
    refine O_pure rfl rfl rfl rfl (P_bit (op := .and) rfl rfl rfl rfl) ?_
    refine O_pure rfl rfl rfl rfl (P_move rfl rfl) ?_
    first | (refine O_pure rfl rfl rfl rfl (P_ixa0 (2) rfl ty_ar_291 rfl rfl (by first | rfl | omega) (by omega)) ?_) | (refine O_pure rfl rfl rfl rfl (P_ixa (2) rfl ty_ar_291 rfl rfl (by first | rfl | omega) (by omega)) ?_)
    refine O_val rfl rfl rfl rfl (V_load rfl rfl ty_sc_108 (by first | exact Rd.blk .h0 rfl | exact Rd.blk .h1 rfl | exact Rd.blk .h2 rfl | exact Rd.blk .h3 rfl | exact Rd.blk .h4 rfl | exact Rd.blk .h5 rfl | exact Rd.blk .h6 rfl | exact Rd.blk .h7 rfl)) ?_
    refine O_pure rfl rfl rfl rfl (P_bit (op := .and) rfl rfl rfl rfl) ?_
    refine O_pure rfl rfl rfl rfl (P_bit (op := .xor) rfl rfl rfl rfl) ?_
    first | (refine O_pure rfl rfl rfl rfl (P_ixa0 (1) rfl ty_ar_291 rfl rfl (by first | rfl | omega) (by omega)) ?_) | (refine O_pure rfl rfl rfl rfl (P_ixa (1) rfl ty_ar_291 rfl rfl (by first | rfl | omega) (by omega)) ?_)
    refine O_val rfl rfl rfl rfl (V_load rfl rfl ty_sc_108 (by first | exact Rd.blk .h0 rfl | exact Rd.blk .h1 rfl | exact Rd.blk .h2 rfl | exact Rd.blk .h3 rfl | exact Rd.blk .h4 rfl | exact Rd.blk .h5 rfl | exact Rd.blk .h6 rfl | exact Rd.blk .h7 rfl)) ?_
    first | (refine O_pure rfl rfl rfl rfl (P_ixa0 (2) rfl ty_ar_291 rfl rfl (by first | rfl | omega) (by omega)) ?_) | (refine O_pure rfl rfl rfl rfl (P_ixa (2) rfl ty_ar_291 rfl rfl (by first | rfl | omega) (by omega)) ?_)
    refine O_val rfl rfl rfl rfl (V_load rfl rfl ty_sc_108 (by first | exact Rd.blk .h0 rfl | exact Rd.blk .h1 rfl | exact Rd.blk .h2 rfl | exact Rd.blk .h3 rfl | exact Rd.blk .h4 rfl | exact Rd.blk .h5 rfl | exact Rd.blk .h6 rfl | exact Rd.blk .h7 rfl)) ?_
    refine O_pure rfl rfl rfl rfl (P_bit (op := .and) rfl rfl rfl rfl) ?_
    refine O_pure rfl rfl rfl rfl (P_bit (op := .xor) rfl rfl rfl rfl) ?_
    refine O_keep rfl rfl (W_callV rfl rfl rfl rfl fn_ca_231 (SpecV.mono (rotl_ok gl _ (-2)) (fun _ h => h) (by rw [rot2])) (fun _ _ => trivial) (K_keep (Weak.refl _) ?_))
    refine O_keep rfl rfl (W_callV rfl rfl rfl rfl fn_ca_231 (SpecV.mono (rotl_ok gl _ (-13)) (fun _ h => h) (by rw [rot13])) (fun _ _ => trivial) (K_keep (Weak.refl _) ?_))
    refine O_pure rfl rfl rfl rfl (P_bit (op := .xor) rfl rfl rfl rfl) ?_
    refine O_keep rfl rfl (W_callV rfl rfl rfl rfl fn_ca_231 (SpecV.mono (rotl_ok gl _ (-22)) (fun _ h => h) (by rw [rot22])) (fun _ _ => trivial) (K_keep (Weak.refl _) ?_))
    refine O_pure rfl rfl rfl rfl (P_bit (op := .xor) rfl rfl rfl rfl) ?_
    refine O_pure rfl rfl rfl rfl (P_add rfl rfl rfl) ?_
    refine O_pure rfl rfl rfl rfl (P_assign rfl rfl) ?_
    refine O_nil ?_
    refine Q_then ?_
    refine R_region ?_
    refine L_val rfl rfl rfl (OpP.v (P_move rfl rfl)) ?_
    refine L_val rfl rfl rfl (OpP.v (P_move rfl rfl)) ?_
    refine L_val rfl rfl rfl (OpP.v (P_add rfl rfl rfl)) ?_
    refine L_val rfl rfl rfl (OpP.v (P_move rfl rfl)) ?_
    first | (refine L_val rfl rfl rfl (OpP.v (P_ixa0 (1) rfl ty_ar_291 rfl rfl (by first | rfl | omega) (by omega))) ?_) | (refine L_val rfl rfl rfl (OpP.v (P_ixa (1) rfl ty_ar_291 rfl rfl (by first | rfl | omega) (by omega))) ?_)
    refine L_val rfl rfl rfl (V_load rfl rfl ty_sc_108 (by first | exact Rd.blk .h0 rfl | exact Rd.blk .h1 rfl | exact Rd.blk .h2 rfl | exact Rd.blk .h3 rfl | exact Rd.blk .h4 rfl | exact Rd.blk .h5 rfl | exact Rd.blk .h6 rfl | exact Rd.blk .h7 rfl)) ?_
    first | (refine L_val rfl rfl rfl (OpP.v (P_ixa0 (2) rfl ty_ar_291 rfl rfl (by first | rfl | omega) (by omega))) ?_) | (refine L_val rfl rfl rfl (OpP.v (P_ixa (2) rfl ty_ar_291 rfl rfl (by first | rfl | omega) (by omega))) ?_)
    refine L_val rfl rfl rfl (V_load rfl rfl ty_sc_108 (by first | exact Rd.blk .h0 rfl | exact Rd.blk .h1 rfl | exact Rd.blk .h2 rfl | exact Rd.blk .h3 rfl | exact Rd.blk .h4 rfl | exact Rd.blk .h5 rfl | exact Rd.blk .h6 rfl | exact Rd.blk .h7 rfl)) ?_
    first | (refine L_val rfl rfl rfl (OpP.v (P_ixa0 (3) rfl ty_ar_291 rfl rfl (by first | rfl | omega) (by omega))) ?_) | (refine L_val rfl rfl rfl (OpP.v (P_ixa (3) rfl ty_ar_291 rfl rfl (by first | rfl | omega) (by omega))) ?_)
    refine L_val rfl rfl rfl (V_load rfl rfl ty_sc_108 (by first | exact Rd.blk .h0 rfl | exact Rd.blk .h1 rfl | exact Rd.blk .h2 rfl | exact Rd.blk .h3 rfl | exact Rd.blk .h4 rfl | exact Rd.blk .h5 rfl | exact Rd.blk .h6 rfl | exact Rd.blk .h7 rfl)) ?_
    refine L_val rfl rfl rfl (OpP.v (P_move rfl rfl)) ?_
    refine L_val rfl rfl rfl (OpP.v (P_add rfl rfl rfl)) ?_
    refine L_val rfl rfl rfl (OpP.v (P_move rfl rfl)) ?_
    first | (refine L_val rfl rfl rfl (OpP.v (P_ixa0 (5) rfl ty_ar_291 rfl rfl (by first | rfl | omega) (by omega))) ?_) | (refine L_val rfl rfl rfl (OpP.v (P_ixa (5) rfl ty_ar_291 rfl rfl (by first | rfl | omega) (by omega))) ?_)
    refine L_val rfl rfl rfl (V_load rfl rfl ty_sc_108 (by first | exact Rd.blk .h0 rfl | exact Rd.blk .h1 rfl | exact Rd.blk .h2 rfl | exact Rd.blk .h3 rfl | exact Rd.blk .h4 rfl | exact Rd.blk .h5 rfl | exact Rd.blk .h6 rfl | exact Rd.blk .h7 rfl)) ?_
    first | (refine L_val rfl rfl rfl (OpP.v (P_ixa0 (6) rfl ty_ar_291 rfl rfl (by first | rfl | omega) (by omega))) ?_) | (refine L_val rfl rfl rfl (OpP.v (P_ixa (6) rfl ty_ar_291 rfl rfl (by first | rfl | omega) (by omega))) ?_)
    refine L_val rfl rfl rfl (V_load rfl rfl ty_sc_108 (by first | exact Rd.blk .h0 rfl | exact Rd.blk .h1 rfl | exact Rd.blk .h2 rfl | exact Rd.blk .h3 rfl | exact Rd.blk .h4 rfl | exact Rd.blk .h5 rfl | exact Rd.blk .h6 rfl | exact Rd.blk .h7 rfl)) ?_
    refine L_val rfl rfl rfl (OpP.v (P_buildArr rfl ty_ar_291 ty_ze_291 rfl rfl rfl rfl (by simp [Value.oneCell']))) ?_
    refine L_op rfl (W_storeAll rfl rfl rfl rfl ty_ag_291 (by first | rfl | simp [ints]) (by intro v hv; simp at hv; rcases hv with rfl | rfl | rfl | rfl | rfl | rfl | rfl | rfl <;> rfl) .h0 (by first | rfl | simp [ints]) ?_)
    refine L_nil ?_
    refine Q_block ?_
    refine Q_then ?_
    refine R_region ?_
    first | (refine L_val rfl rfl rfl (OpP.v (P_addN rfl rfl rfl (by simp only [fits]; omega))) ?_) | (refine L_val rfl rfl rfl (OpP.v (P_add rfl rfl rfl)) ?_)
    refine L_val rfl rfl rfl (OpP.v (P_move rfl rfl)) ?_
    refine L_nil ?_
    refine E_nat (t := 98) (n := k + 1) rfl (by omega) ?_
    exact Q_round (k + 1) (by omega) (by omega) (by repeat (first | exact .nil | refine .cons rfl ?_)) (by rw [rnds, e8]; exact Weak.refl _)
   ·skip
    refine R_exit ?_
    refine Q_then_exit ?_
    refine Q_then_exit ?_
    refine Q_block_eq ?_
    refine St.env (.cons (t := 2) rfl (.cons (t := 4) rfl (.cons (t := 12) rfl .nil))) ?_
    refine Q_then ?_
    refine R_seq ?_
    refine R_seq ?_
    refine R_region ?_
    refine L_val rfl rfl rfl (OpP.v (P_move rfl rfl)) ?_
    refine L_nil ?_
    refine Q_then ?_
    refine R_block ?_
    obtain rfl : k = 64 := by omega
    rw [← e8]
    refine R_loop (G := Nat) (fun k => [(2, .pointer (some ⟨b2, 0, none⟩)), (4, .pointer (some ⟨b4, 0, none⟩)), (12, .pointer (some ⟨b12, 0, none⟩)), (178, .int .i64 (k : Int))]) (fun k => [blk b12 (ints .u32 (rnds addsK (sch2 (sch1 p 16) 48) s 64)) 291, blk b5 (ints .u32 (sch2 (sch1 p 16) 48)) 208, blk b4 (List.replicate 8 (.int .u32 0)) 291, blk b3 (ints .u8 p) 292, blk b2 (ints .u32 (fin8 s (rnds addsK (sch2 (sch1 p 16) 48) s 64) k)) 291]) (fun k => k ≤ 8) (fun k => 8 - k) (0) (by omega) (by repeat (first | exact .nil | refine .cons rfl ?_)) (Weak.refl _) ?_
    intro k hk
    have hf : (fin8 s (rnds addsK (sch2 (sch1 p 16) 48) s 64) k).length = 8 := by rw [fin8_length, hs]
    have hr : (rnds addsK (sch2 (sch1 p 16) 48) s 64).length = 8 := by rw [rnds_length, hs]
    refine R_seq ?_
    refine R_region ?_
    refine L_val rfl rfl rfl (OpP.v (P_lss rfl rfl rfl)) ?_
    refine L_nil ?_
    refine Q_then ?_
    refine R_seq ?_
    refine R_condP rfl (fun hlt4 => ?_) (fun hlt4 => ?_)
    ·skip
     refine R_skip ?_
     refine Q_then ?_
     refine R_seq ?_
     refine R_block ?_
     refine R_seq ?_
     refine R_region ?_
     refine L_val rfl rfl rfl (OpP.v (P_move rfl rfl)) ?_
     refine L_val rfl rfl rfl (OpP.v (P_assign rfl rfl)) ?_
     refine L_nil ?_
     refine Q_then ?_
     refine R_open [(0, 0), (1, 0), (2, 1), (3, 0), (4, 0), (5, 1), (6, 0), (7, 0), (8, 3)] mixed (by kernel_rfl) (QOk.block (QOk.then (QOk.then (QOk.block (QOk.then QOk.body))))) ?_
     refine O_pure rfl rfl rfl rfl (P_move rfl rfl) ?_
     first | (refine O_pure rfl rfl rfl rfl (P_ixa0 (k) rfl ty_ar_291 rfl rfl (by first | rfl | omega) (by omega)) ?_) | (refine O_pure rfl rfl rfl rfl (P_ixa (k) rfl ty_ar_291 rfl rfl (by first | rfl | omega) (by omega)) ?_)
     refine O_val rfl rfl rfl rfl (V_load rfl rfl ty_sc_108 (Rd.blk .h4 (ints_at (by omega)))) ?_
     refine O_pure rfl rfl rfl rfl (P_move rfl rfl) ?_
     first | (refine O_pure rfl rfl rfl rfl (P_ixa0 (k) rfl ty_ar_291 rfl rfl (by first | rfl | omega) (by omega)) ?_) | (refine O_pure rfl rfl rfl rfl (P_ixa (k) rfl ty_ar_291 rfl rfl (by first | rfl | omega) (by omega)) ?_)
     refine O_val rfl rfl rfl rfl (V_load rfl rfl ty_sc_108 (Rd.blk .h0 (ints_at (by omega)))) ?_
     refine O_pure rfl rfl rfl rfl (P_add rfl rfl rfl) ?_
     first | (refine O_pure rfl rfl rfl rfl (P_ixa0 (k) rfl ty_ar_291 rfl rfl (by first | rfl | omega) (by omega)) ?_) | (refine O_pure rfl rfl rfl rfl (P_ixa (k) rfl ty_ar_291 rfl rfl (by first | rfl | omega) (by omega)) ?_)
     refine O_new rfl rfl (W_store rfl rfl rfl rfl ty_sc_108 rfl .h4 (by rw [ints_length, hf]; omega) (K_new ?_))
     rw [ints_set]
     refine O_nil ?_
     refine Q_block ?_
     refine Q_then ?_
     refine R_region ?_
     first | (refine L_val rfl rfl rfl (OpP.v (P_addN rfl rfl rfl (by simp only [fits]; omega))) ?_) | (refine L_val rfl rfl rfl (OpP.v (P_add rfl rfl rfl)) ?_)
     refine L_val rfl rfl rfl (OpP.v (P_move rfl rfl)) ?_
     refine L_nil ?_
     refine E_nat (t := 178) (n := k + 1) rfl (by omega) ?_
     exact Q_round (k + 1) (by omega) (by omega) (by repeat (first | exact .nil | refine .cons rfl ?_)) (Weak.refl _)
    ·skip
     refine R_exit ?_
     refine Q_then_exit ?_
     refine Q_then_exit ?_
     refine Q_block_eq ?_
     refine St.env (.cons (t := 2) rfl (.cons (t := 4) rfl .nil)) ?_
     refine Q_then ?_
     refine R_seq ?_
     refine R_region ?_
     obtain rfl : k = 8 := by omega
     refine L_val rfl rfl rfl (V_loadAgg rfl rfl ty_ag_291 (Rds.blk .h4) (by rw [ints_length, hf])) ?_
     refine L_op rfl (W_storeAll rfl rfl rfl rfl ty_ag_291 (by rw [ints_length, hf]) (ints_one) .h2 (by rw [ints_length, hf]; rfl) ?_)
     refine L_nil ?_
     refine St.env (.cons (t := 4) rfl .nil) ?_
     refine Q_then ?_
     refine R_ret ?_
     exact R_endV rfl rfl (.cell rfl (Rds.loadVar ty_ag_291 (Rds.blk .h2) (by rw [ints_length, hf])) .nil) (rfl)
end Go.Proofs.YtfhjhaogmdaepaaGreatDoor

/- Plain: how the digest is made of all bytes, piece by piece and at once. -/
set_option linter.unusedVariables false
set_option linter.unusedSimpArgs false
set_option linter.unusedSectionVars false
namespace Go.Proofs.YtfhjhaogmdaepaaGreatDoor
open Go Go.RowKit

/-- k chunks worked in. -/
def cmpN : Nat → List Int → List Int → List Int
 | 0, s, _ => s
 | k + 1, s, xs => cmpN k (mixF addsK s (xs.take 64)) (xs.drop 64)
/-- all whole chunks -/
def cmp (xs : List Int) : List Int := cmpN (xs.length / 64) beginK xs
theorem cmpN_length (k : Nat) (s xs : List Int) : (cmpN k s xs).length = s.length := by
 induction k generalizing s xs with
 | zero => rfl
 | succ k ih => rw [cmpN, ih, mixF_length]
theorem cmp_length (xs : List Int) : (cmp xs).length = 8 := by rw [cmp, cmpN_length]; rfl
theorem cmpN_add (k m : Nat) (s xs : List Int) : cmpN (k + m) s xs = cmpN m (cmpN k s xs) (xs.drop (64 * k)) := by
 induction k generalizing s xs with
 | zero => simp [cmpN]
 | succ k ih =>
  rw [show k + 1 + m = (k + m) + 1 by omega, cmpN, ih, cmpN, List.drop_drop]
  congr 2
  omega
theorem cmpN_succ (k : Nat) (s xs : List Int) : cmpN (k + 1) s xs = mixF addsK (cmpN k s xs) ((xs.drop (64 * k)).take 64) := by
 rw [cmpN_add k 1]; rfl
theorem cmpN_append (k : Nat) (s xs ys : List Int) (h : 64 * k ≤ xs.length) : cmpN k s (xs ++ ys) = cmpN k s xs := by
 induction k generalizing s xs with
 | zero => rfl
 | succ k ih =>
  rw [cmpN, cmpN, List.take_append_of_le_length (by omega), List.drop_append_of_le_length (by omega), ih _ _ (by rw [List.length_drop]; omega)]
/-- What has not been worked in yet. -/
def rem64 (xs : List Int) : List Int := xs.drop (64 * (xs.length / 64))
theorem rem64_length (xs : List Int) : (rem64 xs).length = xs.length % 64 := by rw [rem64, List.length_drop]; omega
theorem cmp_small (xs zs : List Int) (h : xs.length % 64 + zs.length < 64) : cmp (xs ++ zs) = cmp xs ∧ rem64 (xs ++ zs) = rem64 xs ++ zs ∧ (xs ++ zs).length % 64 = xs.length % 64 + zs.length := by
 have e : (xs ++ zs).length / 64 = xs.length / 64 := by rw [List.length_append]; omega
 refine ⟨?_, ?_, by rw [List.length_append]; omega⟩
 ·rw [cmp, e, cmpN_append _ _ _ _ (by omega)]; rfl
 ·rw [rem64, e, List.drop_append_of_le_length (by omega)]; rfl
theorem cmp_full (xs zs : List Int) (h : xs.length % 64 + zs.length = 64) : cmp (xs ++ zs) = mixF addsK (cmp xs) (rem64 xs ++ zs) ∧ rem64 (xs ++ zs) = [] ∧ (xs ++ zs).length % 64 = 0 := by
 have e : (xs ++ zs).length / 64 = xs.length / 64 + 1 := by rw [List.length_append]; omega
 refine ⟨?_, ?_, by rw [List.length_append]; omega⟩
 ·rw [cmp, e, cmpN_succ, cmpN_append _ _ _ _ (by omega), List.drop_append_of_le_length (by omega), List.take_of_length_le (by rw [List.length_append, List.length_drop]; omega)]; rfl
 ·rw [rem64, e]
  apply List.drop_eq_nil_of_le
  rw [List.length_append]; omega
/-- How many zero bytes. -/
def padZ (n : Nat) : Nat := (119 - n % 64) % 64
/-- The eight bytes of the length in bits. -/
def lenB (n : Nat) : List Int := (List.range 8).map fun (j : Nat) => IntKind.u8.wrap (shrI .u64 (IntKind.u64.wrap (IntKind.u64.wrap (n : Int) * 8)) (56 - 8 * (j : Int)))
def padded (xs : List Int) : List Int := xs ++ [128] ++ List.replicate (padZ xs.length) 0 ++ lenB xs.length
theorem lenB_length (n : Nat) : (lenB n).length = 8 := by simp [lenB]
/-- The words as bytes. -/
def outB (ws : List Int) : List Int := (List.range 32).map fun (i : Nat) => IntKind.u8.wrap (shrI .u32 (ws.getD (i / 4) 0) (24 - 8 * ((i % 4 : Nat) : Int)))
theorem outB_length (ws : List Int) : (outB ws).length = 32 := by simp [outB]
/-- The digest of bytes. -/
def sha (xs : List Int) : List Int := outB (cmp (padded xs))
theorem sha_length (xs : List Int) : (sha xs).length = 32 := outB_length _
theorem wrap64_add (a b : Int) : IntKind.u64.wrap (IntKind.u64.wrap a + IntKind.u64.wrap b) = IntKind.u64.wrap (a + b) := by
 simp [IntKind.wrap, IntKind.signed, IntKind.bits]

/-- A Hasher's cells. -/
def hcells (made : Bool) (ws part : List Int) (held taken : Int) : List Value := [.bool made] ++ ints .u32 ws ++ ints .u8 part ++ [.int .i64 held, .int .u64 taken]
section
variable {made : Bool} {ws part : List Int} {held taken : Int} (hw : ws.length = 8) (hp : part.length = 64)
include hw hp
theorem hcells_length : (hcells made ws part held taken).length = 75 := by simp [hcells, ints, hw, hp]
theorem hcells_73 : (hcells made ws part held taken)[73]? = some (.int .i64 held) := by
 simp only [hcells]
 rw [List.getElem?_append_right (by simp [ints, hw, hp])]
 simp [ints, hw, hp]
theorem hcells_74 : (hcells made ws part held taken)[74]? = some (.int .u64 taken) := by
 simp only [hcells]
 rw [List.getElem?_append_right (by simp [ints, hw, hp])]
 simp [ints, hw, hp]
theorem hcells_set73 (n : Int) : (hcells made ws part held taken).set 73 (.int .i64 n) = hcells made ws part n taken := by
 simp only [hcells]
 rw [List.set_append_right _ _ (by simp [ints, hw, hp])]
 simp [ints, hw, hp]
theorem hcells_set74 (n : Int) : (hcells made ws part held taken).set 74 (.int .u64 n) = hcells made ws part held n := by
 simp only [hcells]
 rw [List.set_append_right _ _ (by simp [ints, hw, hp])]
 simp [ints, hw, hp]
theorem hcells_words (i : Nat) (v : Value) (h : (ints .u32 ws)[i]? = some v) : (hcells made ws part held taken)[1 + i]? = some v := by
 have hi : i < 8 := by have := (List.getElem?_eq_some_iff.1 h).1; rwa [ints_length, hw] at this
 simp only [hcells]
 rw [List.append_assoc, List.append_assoc, List.getElem?_append_right (by simp), List.getElem?_append_left (by simp [ints, hw]; omega)]
 simpa using h
theorem hcells_part (i : Nat) (v : Value) (h : (ints .u8 part)[i]? = some v) : (hcells made ws part held taken)[9 + i]? = some v := by
 have hi : i < 64 := by have := (List.getElem?_eq_some_iff.1 h).1; rwa [ints_length, hp] at this
 simp only [hcells]
 rw [List.append_assoc, List.getElem?_append_right (by simp [ints, hw]), List.getElem?_append_left (by simp [ints, hw, hp]; omega)]
 simp [ints, hw] at h ⊢
 exact h
theorem hcells_setWords (us : List Int) (hu : us.length = 8) : splice (hcells made ws part held taken) 1 (ints .u32 us) = hcells made us part held taken := by
 simp [splice, hcells, ints, hw, hu, List.drop_append]
theorem hcells_setPart (o : Nat) (us : List Int) (hu : o + us.length ≤ 64) : splice (hcells made ws part held taken) (9 + o) (ints .u8 us) = hcells made ws (part.take o ++ us ++ part.drop (o + us.length)) held taken := by
 have e : hcells made ws part held taken = ([.bool made] ++ ints .u32 ws) ++ (ints .u8 part ++ [.int .i64 held, .int .u64 taken]) := by simp [hcells]
 have l1 : ([Value.bool made] ++ ints .u32 ws).length = 9 := by simp [ints, hw]
 rw [e, splice, List.take_append, List.drop_append, l1]
 simp only [ints_length, Nat.add_sub_cancel_left, show 9 + o + us.length - 9 = o + us.length by omega]
 rw [List.take_of_length_le (by rw [l1]; omega), List.drop_eq_nil_of_le (by rw [l1]; omega), List.take_append_of_le_length (by rw [ints_length, hp]; omega), List.drop_append_of_le_length (by rw [ints_length, hp]; omega), ints_take, ints_drop]
 simp [hcells, ints]
end
end Go.Proofs.YtfhjhaogmdaepaaGreatDoor

/- Walks: the Hasher. Printed by gen.py. -/
set_option linter.unusedVariables false
set_option linter.unusedSimpArgs false
set_option maxRecDepth 100000
namespace Go.Proofs.YtfhjhaogmdaepaaGreatDoor
open Go Go.RowKit Go.Proofs
/-- A Hasher that New or Copy made, which was given xs; 'taken' is its count. -/
def hcore (b : Nat) (xs : List Int) (taken : Int) : HP := ExP (fun p : List Int => p.length = 64 ∧ p.take (xs.length % 64) = rem64 xs) fun p => blk b (hcells true (cmp xs) p (xs.length % 64 : Nat) taken) 294
def hasher (b : Nat) (xs : List Int) : HP := hcore b xs (IntKind.u64.wrap xs.length)
theorem hcore_in {b : Nat} {X W P : List Int} {T H : Int} {rs : List HP} (hW : W = cmp X) (hP : P.length = 64) (hT : P.take (X.length % 64) = rem64 X) (hH : H = ((X.length % 64 : Nat) : Int)) :
  Weak (blk b (hcells true W P H T) 294 :: rs) (hcore b X T :: rs) := by
 subst hW; subst hH
 exact Weak.turn .h0 fun a ha => ⟨P, ⟨hP, hT⟩, ha⟩
theorem writeSmall {X zs P : List Int} (hP : P.length = 64) (hT : P.take (X.length % 64) = rem64 X) (h : X.length % 64 + zs.length < 64) :
  cmp X = cmp (X ++ zs) ∧ (P.take (X.length % 64) ++ zs ++ P.drop (X.length % 64 + zs.length)).length = 64 ∧ (P.take (X.length % 64) ++ zs ++ P.drop (X.length % 64 + zs.length)).take ((X ++ zs).length % 64) = rem64 (X ++ zs) ∧ (((X.length % 64 : Nat) : Int) + (zs.length : Nat)) = (((X ++ zs).length % 64 : Nat) : Int) := by
 obtain ⟨h1, h2, h3⟩ := cmp_small X zs h
 refine ⟨h1.symm, by simp [hP]; omega, ?_, by rw [h3]; omega⟩
 rw [h3, h2, hT, List.take_left' (by rw [List.length_append, rem64_length])]
theorem writeFull {X zs P : List Int} (hP : P.length = 64) (hT : P.take (X.length % 64) = rem64 X) (h : X.length % 64 + zs.length = 64) :
  mixF addsK (cmp X) (P.take (X.length % 64) ++ zs ++ P.drop (X.length % 64 + zs.length)) = cmp (X ++ zs) ∧ (P.take (X.length % 64) ++ zs ++ P.drop (X.length % 64 + zs.length)).length = 64 ∧ (P.take (X.length % 64) ++ zs ++ P.drop (X.length % 64 + zs.length)).take ((X ++ zs).length % 64) = rem64 (X ++ zs) ∧ (0 : Int) = (((X ++ zs).length % 64 : Nat) : Int) := by
 obtain ⟨h1, h2, h3⟩ := cmp_full X zs h
 have e : P.drop (X.length % 64 + zs.length) = [] := List.drop_eq_nil_of_le (by omega)
 refine ⟨by rw [h1, e, List.append_nil, hT], by simp [hP]; omega, by rw [h3, h2]; simp, by rw [h3]; rfl⟩
theorem good_ok (gl : Nat → Obj) (b : Nat) (m : Bool) : SpecV (cx gl) 211 [.pointer (some ⟨b, 0, none⟩)] (fun w => w.cell? ⟨b, 0, none⟩ = some (.bool m)) (.bool m) := by
 refine Spec.enter (C := cx gl) Tryz.func211 rfl 11 rfl rfl fun w0 h0 hsep hsub hpre => ?_
 obtain rfl : h0 = Heap.none := hsep
 show St (cx gl) _ [(0, .pointer (some ⟨b, 0, none⟩))] _ _
 refine R_seq ?_
 refine R_region ?_
 refine L_val rfl rfl rfl (OpP.v (P_assign rfl rfl)) ?_
 refine L_nil ?_
 refine Q_then ?_
 refine R_seq ?_
 refine R_region ?_
 refine L_val rfl rfl rfl (OpP.v (P_move rfl rfl)) ?_
 refine L_val rfl rfl rfl (OpP.v (P_neNil rfl ty_ptr_259 rfl rfl)) ?_
 refine L_val rfl rfl rfl (OpP.v (P_move rfl rfl)) ?_
 refine L_val rfl rfl rfl (OpP.v (P_move rfl rfl)) ?_
 refine L_val rfl rfl rfl (OpP.v (P_nil rfl rfl)) ?_
 refine L_val rfl rfl rfl (OpP.v (P_fld0 rfl ty_fl_294_0 rfl)) ?_
 refine L_val rfl rfl rfl (V_load rfl rfl ty_sc_4 (Rd.old hpre rfl)) ?_
 refine L_val rfl rfl rfl (OpP.v (P_pick rfl rfl rfl)) ?_
 refine L_val rfl rfl rfl (OpP.v (P_assign rfl rfl)) ?_
 refine L_nil ?_
 refine St.env (.cons (t := 2) rfl .nil) ?_
 refine Q_then ?_
 refine R_ret ?_
 exact R_endV rfl rfl (.tmp rfl .nil) (rfl)
theorem new_ok {gl : Nat → Obj} (hG : Globs gl) : Spec (cx gl) 173 [] (fun _ _ => True) [] (fun v rs => ∃ b, v = .pointer (some ⟨b, 0, none⟩) ∧ rs = [hasher b []]) := by
 obtain ⟨T, fr, hg⟩ := hG.begin_
 refine Spec.enter (C := cx gl) Tryz.func173 rfl 4 rfl rfl fun w0 h0 hsep hsub hpre => ?_
 show St (cx gl) _ [] _ _
 refine R_seq ?_
 refine R_region ?_
 refine L_val rfl rfl rfl (OpP.v (P_assign rfl rfl)) ?_
 refine L_nil ?_
 refine Q_then ?_
 refine R_seq ?_
 refine R_region ?_
 refine L_val rfl rfl rfl (V_loadAgg rfl rfl ty_ag_131 (Rds.glob rfl hg) (rfl)) ?_
 refine L_val rfl rfl rfl (OpP.v (P_buildStruct rfl ty_pl_294 ty_ze_294 rfl rfl (rfl))) ?_
 refine L_op rfl (W_box (hcells true beginK (List.replicate 64 0) 0 0) rfl rfl rfl rfl rfl fun b3 => ?_)
 refine L_val rfl rfl rfl (OpP.v (P_assign rfl rfl)) ?_
 refine L_nil ?_
 refine St.env (.cons (t := 0) rfl .nil) ?_
 refine Q_then ?_
 refine R_ret ?_
 exact R_end (rs2 := _) rfl rfl (.tmp rfl .nil) (⟨_, rfl, rfl⟩) (hcore_in (T := 0) (H := 0) (X := []) rfl rfl rfl rfl)
set_option maxHeartbeats 1000000 in
theorem write_ok {gl : Nat → Obj} (hG : Globs gl) (b : Nat) (xs ys : List Int) (base : Option Addr) (c : Nat) (hcap : ys.length ≤ c) : SpecR (cx gl) 174 [.pointer (some ⟨b, 0, none⟩), .slice base ys.length c] (fun w h => Seen w h base (ints .u8 ys)) [hasher b xs] (.tuple #[]) [hasher b (xs ++ ys)] := by
 refine Spec.enter (C := cx gl) Tryz.func174 rfl 62 rfl rfl fun w0 h0 hsep hsub hpre => ?_
 show St (cx gl) _ [(0, .pointer (some ⟨b, 0, none⟩)), (1, .slice base ys.length c)] _ _
 refine St.openP [] fun part hpart => ?_
 obtain ⟨hpl, hpr⟩ := hpart
 refine R_seq ?_
 refine R_seq ?_
 refine R_region ?_
 refine L_val rfl rfl rfl (OpP.v (P_move rfl rfl)) ?_
 refine L_op rfl (W_callV rfl rfl rfl rfl fn_ca_211 (good_ok gl b true) (fun w nw => Rd.blk .h0 rfl w nw) ?_)
 refine L_val rfl rfl rfl (OpP.v (P_not rfl rfl)) ?_
 refine L_nil ?_
 refine St.env (.cons (t := 0) rfl (.cons (t := 1) rfl (.cons (t := 7) rfl .nil))) ?_
 refine Q_then ?_
 refine R_condF rfl ?_
 refine R_skip ?_
 refine Q_then ?_
 refine R_seq ?_
 refine R_region ?_
 refine L_val rfl rfl rfl (OpP.v (P_move rfl rfl)) ?_
 refine L_val rfl rfl rfl (OpP.v (P_nil rfl rfl)) ?_
 refine L_val rfl rfl rfl (OpP.v (P_fld0 rfl ty_fl_294_4 rfl)) ?_
 refine L_val rfl rfl rfl (V_load rfl rfl ty_sc_24 (Rd.blk .h0 (hcells_74 (cmp_length _) hpl))) ?_
 refine L_val rfl rfl rfl (OpP.v (P_move rfl rfl)) ?_
 refine L_val rfl rfl rfl (OpP.v (P_len rfl ty_sl_48 rfl)) ?_
 refine L_val rfl rfl rfl (OpP.v (P_conv rfl ty_int_3 ty_int_24 rfl)) ?_
 refine L_val rfl rfl rfl (OpP.v (P_add rfl rfl rfl)) ?_
 refine E_as (t := 15) (v' := .int .u64 (IntKind.u64.wrap ((xs.length : Int) + (ys.length : Int)))) rfl (by rw [wrap64_add]) ?_
 refine L_val rfl rfl rfl (OpP.v (P_nil rfl rfl)) ?_
 refine L_val rfl rfl rfl (OpP.v (P_fld0 rfl ty_fl_294_4 rfl)) ?_
 refine L_op rfl (W_store rfl rfl rfl rfl ty_sc_24 rfl .h0 (by rw [hcells_length (cmp_length _) hpl]; decide) ?_)
 rw [hcells_set74 (cmp_length _) hpl]
 refine L_nil ?_
 refine St.env (.cons (t := 0) rfl (.cons (t := 1) rfl .nil)) ?_
 refine Q_then ?_
 refine R_block ?_
 refine R_loop (G := Nat × Option Addr × Nat) (fun g => [(0, .pointer (some ⟨b, 0, none⟩)), (1, .slice g.2.1 (ys.length - g.1) g.2.2)]) (fun g => [hcore b (xs ++ ys.take g.1) (IntKind.u64.wrap ((xs.length : Int) + (ys.length : Int)))]) (fun g => g.1 ≤ ys.length ∧ ys.length - g.1 ≤ g.2.2 ∧ Seen w0 h0 g.2.1 (ints .u8 (ys.drop g.1))) (fun g => ys.length - g.1) ((0, base, c)) (⟨Nat.zero_le _, hcap, hpre⟩) (by repeat (first | exact .nil | refine .cons rfl ?_)) (by rw [List.take_zero, List.append_nil]; exact hcore_in rfl hpl hpr rfl) ?_
 rintro ⟨j, base', c'⟩ ⟨hj, hc', hs⟩
 simp only at hj hc' hs
 show St (cx gl) _ [(0, .pointer (some ⟨b, 0, none⟩)), (1, .slice base' (ys.length - j) c')] [hcore b (xs ++ ys.take j) (IntKind.u64.wrap ((xs.length : Int) + (ys.length : Int)))] _
 refine R_seq ?_
 refine R_seq ?_
 refine R_region ?_
 refine L_val rfl rfl rfl (OpP.v (P_move rfl rfl)) ?_
 refine L_val rfl rfl rfl (OpP.v (P_len rfl ty_sl_48 rfl)) ?_
 refine L_val rfl rfl rfl (OpP.v (P_gtr rfl rfl rfl)) ?_
 refine L_nil ?_
 refine Q_then ?_
 refine R_condP rfl (fun hgt => ?_) (fun hgt => ?_)
 ·skip
  refine St.openP [] fun part hpart => ?_
  obtain ⟨hpl, hpr⟩ := hpart
  obtain ⟨k, hk⟩ : ∃ k, k = Nat.min (ys.length - j) (64 - (xs ++ ys.take j).length % 64) := ⟨_, rfl⟩
  have hmin : k = min (ys.length - j) (64 - (xs ++ ys.take j).length % 64) := hk
  have hx64 : (xs ++ ys.take j).length % 64 < 64 := Nat.mod_lt _ (by decide)
  have hzl : ((ys.drop j).take k).length = k := by rw [List.length_take, List.length_drop]; omega
  have hxe : xs ++ ys.take (j + k) = (xs ++ ys.take j) ++ ((ys.drop j).take k) := by rw [List.take_add, List.append_assoc]
  have hs2 := Seen.sliced (sz := 1) (p := k) (q := ys.length - j) hs hc' (.inr (by rw [ints_length, List.length_drop]; omega))
  have hnext : Seen w0 h0 (if c' = k then base' else base'.map (·.add (k * 1))) (ints .u8 (ys.drop (j + k))) := by have h := hs2; simp only [Nat.mul_one, ints_drop, List.drop_drop, ints_take] at h; rw [List.take_of_length_le (by rw [List.length_drop]; omega)] at h; rw [Nat.mul_one]; exact h
  refine R_skip ?_
  refine Q_then ?_
  refine R_block ?_
  refine R_seq ?_
  refine R_open [(0, 0), (1, 0), (2, 0), (3, 0), (4, 0), (5, 0), (6, 1), (7, 0), (8, 0), (9, 3), (10, 0)] mixed (by kernel_rfl) (QOk.then (QOk.block (QOk.then (QOk.block QOk.body)))) ?_
  refine O_pure rfl rfl rfl rfl (P_move rfl rfl) ?_
  refine O_pure rfl rfl rfl rfl (P_nil rfl rfl) ?_
  refine O_pure rfl rfl rfl rfl (P_fld0 rfl ty_fl_294_2 rfl) ?_
  refine O_pure rfl rfl rfl rfl (P_move rfl rfl) ?_
  refine O_pure rfl rfl rfl rfl (P_nil rfl rfl) ?_
  refine O_pure rfl rfl rfl rfl (P_fld0 rfl ty_fl_294_3 rfl) ?_
  refine O_val rfl rfl rfl rfl (V_load rfl rfl ty_sc_3 (Rd.blk .h0 (hcells_73 (cmp_length _) hpl))) ?_
  refine O_pure rfl rfl rfl rfl (P_sliceArr ((xs ++ ys.take j).length % 64) 64 rfl ty_ar_292 rfl ⟨_, rfl⟩ rfl (by omega) (by omega)) ?_
  refine E_as (t := 28) (v' := .slice (some ⟨b, 9 + (xs ++ ys.take j).length % 64, none⟩) (64 - (xs ++ ys.take j).length % 64) (64 - (xs ++ ys.take j).length % 64)) rfl (by rw [if_neg (by omega), Nat.mul_one]) ?_
  refine O_pure rfl rfl rfl rfl (P_move rfl rfl) ?_
  refine O_new rfl rfl (W_copy (k := k) (news := ints .u8 ((ys.drop j).take k)) rfl rfl rfl ty_sl_48 rfl rfl rfl (hk) (fun w nw => by have := Src.part (C := cx gl) (sz := 1) (k := k) (m := ys.length - j) (c := c') (Sn.old hs).rw_ (by rw [ints_length, List.length_drop]; omega) w nw; rwa [Nat.mul_one, ints_take] at this) (ints_one) .h0 (by rw [hcells_length (cmp_length _) hpl, ints_length, hzl]; omega) (K_new ?_))
  rw [hcells_setPart (cmp_length _) hpl _ _ (by rw [hzl]; omega)]
  refine O_pure rfl rfl rfl rfl (P_assign rfl rfl) ?_
  refine O_nil ?_
  refine Q_then ?_
  refine R_seq ?_
  refine R_region ?_
  have hpl2 : (part.take ((xs ++ ys.take j).length % 64) ++ ((ys.drop j).take k) ++ part.drop ((xs ++ ys.take j).length % 64 + ((ys.drop j).take k).length)).length = 64 := by rw [List.length_append, List.length_append, List.length_take, List.length_drop, hzl, hpl]; omega
  refine L_val rfl rfl rfl (OpP.v (P_move rfl rfl)) ?_
  refine L_val rfl rfl rfl (OpP.v (P_nil rfl rfl)) ?_
  refine L_val rfl rfl rfl (OpP.v (P_fld0 rfl ty_fl_294_3 rfl)) ?_
  refine L_val rfl rfl rfl (V_load rfl rfl ty_sc_3 (Rd.blk .h0 (hcells_73 (cmp_length _) hpl2))) ?_
  refine L_val rfl rfl rfl (OpP.v (P_move rfl rfl)) ?_
  first | (refine L_val rfl rfl rfl (OpP.v (P_addN rfl rfl rfl (by simp only [fits]; omega))) ?_) | (refine L_val rfl rfl rfl (OpP.v (P_add rfl rfl rfl)) ?_)
  refine L_val rfl rfl rfl (OpP.v (P_nil rfl rfl)) ?_
  refine L_val rfl rfl rfl (OpP.v (P_fld0 rfl ty_fl_294_3 rfl)) ?_
  refine L_op rfl (W_store rfl rfl rfl rfl ty_sc_3 rfl .h0 (by rw [hcells_length (cmp_length _) hpl2]; decide) ?_)
  rw [hcells_set73 (cmp_length _) hpl2]
  refine L_nil ?_
  refine Q_then ?_
  refine R_seq ?_
  refine R_region ?_
  refine L_val rfl rfl rfl (OpP.v (P_move rfl rfl)) ?_
  refine L_val rfl rfl rfl (OpP.v (P_move rfl rfl)) ?_
  refine L_val rfl rfl rfl (OpP.v (P_slice k (ys.length - j) rfl ty_sl_48 rfl ⟨_, rfl⟩ rfl (by omega) (by omega))) ?_
  refine E_as (t := 41) (v' := .slice (if c' = k then base' else base'.map (·.add (k * 1))) (ys.length - (j + k)) (c' - k)) rfl (by unfold sliced; rw [Nat.sub_sub]) ?_
  refine L_val rfl rfl rfl (OpP.v (P_assign rfl rfl)) ?_
  refine L_nil ?_
  refine Q_then ?_
  refine R_seq ?_
  refine R_region ?_
  refine L_val rfl rfl rfl (OpP.v (P_move rfl rfl)) ?_
  refine L_val rfl rfl rfl (OpP.v (P_nil rfl rfl)) ?_
  refine L_val rfl rfl rfl (OpP.v (P_fld0 rfl ty_fl_294_3 rfl)) ?_
  refine L_val rfl rfl rfl (V_load rfl rfl ty_sc_3 (Rd.blk .h0 (hcells_73 (cmp_length _) hpl2))) ?_
  refine L_val rfl rfl rfl (OpP.v (P_eql rfl rfl rfl)) ?_
  refine L_nil ?_
  refine Q_then ?_
  refine R_condP rfl (fun hfull => ?_) (fun hfull => ?_)
  ·skip
   refine R_open [(0, 0), (1, 0), (2, 0), (3, 0), (4, 0), (5, 1), (6, 0), (7, 0), (8, 0), (9, 1), (10, 2), (11, 0), (12, 0), (13, 3), (14, 0), (15, 0), (16, 3)] mixed (by kernel_rfl) (QOk.block (QOk.then (QOk.block QOk.body))) ?_
   refine O_pure rfl rfl rfl rfl (P_move rfl rfl) ?_
   refine O_pure rfl rfl rfl rfl (P_move rfl rfl) ?_
   refine O_pure rfl rfl rfl rfl (P_move rfl rfl) ?_
   refine O_pure rfl rfl rfl rfl (P_nil rfl rfl) ?_
   refine O_pure rfl rfl rfl rfl (P_fld0 rfl ty_fl_294_1 rfl) ?_
   refine O_val rfl rfl rfl rfl (V_loadAgg rfl rfl ty_ag_291 (Rds.part (Rds.blk .h0) 1 fun i v hv => hcells_words (cmp_length _) hpl2 i v hv) (by rw [ints_length, cmp_length])) ?_
   refine O_pure rfl rfl rfl rfl (P_move rfl rfl) ?_
   refine O_pure rfl rfl rfl rfl (P_nil rfl rfl) ?_
   refine O_pure rfl rfl rfl rfl (P_fld0 rfl ty_fl_294_2 rfl) ?_
   refine O_val rfl rfl rfl rfl (V_loadAgg rfl rfl ty_ag_292 (Rds.part (Rds.blk .h0) 9 fun i v hv => hcells_part (cmp_length _) hpl2 i v hv) (by rw [ints_length, hpl2])) ?_
   refine O_keep rfl rfl (W_callV rfl rfl rfl rfl fn_ca_212 (mix_ok hG.adds (cmp (xs ++ ys.take j)) (part.take ((xs ++ ys.take j).length % 64) ++ ((ys.drop j).take k) ++ part.drop ((xs ++ ys.take j).length % 64 + ((ys.drop j).take k).length)) (cmp_length _) hpl2) (fun _ _ => trivial) (K_keep (Weak.refl _) ?_))
   refine O_pure rfl rfl rfl rfl (P_nil rfl rfl) ?_
   refine O_pure rfl rfl rfl rfl (P_fld0 rfl ty_fl_294_1 rfl) ?_
   refine O_new rfl rfl (W_storeAgg rfl rfl rfl rfl ty_ag_291 (by rw [ints_length, mixF_length, cmp_length]) (ints_one) .h0 (by rw [hcells_length (cmp_length _) hpl2, ints_length, mixF_length, cmp_length]; decide) (K_new ?_))
   rw [hcells_setWords (cmp_length _) hpl2 _ (by rw [mixF_length, cmp_length])]
   refine O_pure rfl rfl rfl rfl (P_nil rfl rfl) ?_
   refine O_pure rfl rfl rfl rfl (P_fld0 rfl ty_fl_294_3 rfl) ?_
   refine O_new rfl rfl (W_store rfl rfl rfl rfl ty_sc_3 rfl .h0 (by rw [hcells_length (by rw [mixF_length, cmp_length]) hpl2]; decide) (K_new ?_))
   rw [hcells_set73 (by rw [mixF_length, cmp_length]) hpl2]
   refine O_nil ?_
   refine Q_block ?_
   show St (cx gl) _ _ _ _
   exact Q_round (j + k, (if c' = k then base' else base'.map (·.add (k * 1))), c' - k) (⟨by simp only; omega, by simp only; omega, hnext⟩) (by simp only; omega) (by repeat (first | exact .nil | refine .cons rfl ?_)) (by simp only; rw [hxe]; first | (obtain ⟨e1, e2, e3, e4⟩ := writeFull (zs := ((ys.drop j).take k)) hpl hpr (by omega); exact hcore_in e1 e2 e3 e4) | (obtain ⟨e1, e2, e3, e4⟩ := writeSmall (zs := ((ys.drop j).take k)) hpl hpr (by omega); exact hcore_in e1 e2 e3 (by rw [← e4, hzl])))
  ·skip
   refine R_skip ?_
   refine Q_block ?_
   show St (cx gl) _ _ _ _
   exact Q_round (j + k, (if c' = k then base' else base'.map (·.add (k * 1))), c' - k) (⟨by simp only; omega, by simp only; omega, hnext⟩) (by simp only; omega) (by repeat (first | exact .nil | refine .cons rfl ?_)) (by simp only; rw [hxe]; first | (obtain ⟨e1, e2, e3, e4⟩ := writeFull (zs := ((ys.drop j).take k)) hpl hpr (by omega); exact hcore_in e1 e2 e3 e4) | (obtain ⟨e1, e2, e3, e4⟩ := writeSmall (zs := ((ys.drop j).take k)) hpl hpr (by omega); exact hcore_in e1 e2 e3 (by rw [← e4, hzl])))
 ·skip
  refine R_exit ?_
  refine Q_then_exit ?_
  refine Q_then_exit ?_
  refine Q_block_eq ?_
  refine St.env (.nil) ?_
  have hje : j = ys.length := by omega
  subst hje
  rw [List.take_length]
  exact R_end0 (rs2 := [hasher b (xs ++ ys)]) rfl rfl (.nil) (⟨rfl, rfl⟩) (by unfold hasher; rw [List.length_append, Int.natCast_add]; exact Weak.refl _)
end Go.Proofs.YtfhjhaogmdaepaaGreatDoor

/- Walks: the Hasher's Sum and Copy. Printed by gen.py. -/
set_option linter.unusedVariables false
set_option linter.unusedSimpArgs false
set_option maxRecDepth 100000
namespace Go.Proofs.YtfhjhaogmdaepaaGreatDoor
open Go Go.RowKit Go.Proofs
theorem hcells_one {made : Bool} {ws part : List Int} {held taken : Int} : ∀ v ∈ hcells made ws part held taken, v.oneCell' = true := fun v hv => by
 simp only [hcells, List.mem_append, List.mem_singleton, List.mem_cons, List.not_mem_nil, or_false] at hv
 rcases hv with ((rfl | h) | h) | (rfl | rfl)
 ·rfl
 ·exact ints_one v h
 ·exact ints_one v h
 ·rfl
 ·rfl
def lenF (n : Nat) (j : Nat) : Int := IntKind.u8.wrap (shrI .u64 (IntKind.u64.wrap (IntKind.u64.wrap (n : Int) * 8)) (56 - 8 * (j : Int)))
def outF (ws : List Int) (i : Nat) : Int := IntKind.u8.wrap (shrI .u32 (ws.getD (i / 4) 0) (24 - 8 * ((i % 4 : Nat) : Int)))
theorem outF_at (ws : List Int) (i k : Nat) (h : k < 4) : outF ws (4 * i + k) = IntKind.u8.wrap (shrI .u32 (ws.getD i 0) (24 - 8 * (k : Int))) := by
 unfold outF
 rw [show (4 * i + k) / 4 = i by omega, show (4 * i + k) % 4 = k by omega]
set_option maxHeartbeats 1000000 in
theorem hsum_ok {gl : Nat → Obj} (hG : Globs gl) (b : Nat) (xs : List Int) : SpecR (cx gl) 175 [.pointer (some ⟨b, 0, none⟩)] (fun _ _ => True) [hasher b xs] (.agg (ints .u8 (sha xs)).toArray) [hasher b xs] := by
 refine Spec.enter (C := cx gl) Tryz.func175 rfl 65 rfl rfl fun w0 h0 hsep hsub hpre => ?_
 show St (cx gl) _ [(0, .pointer (some ⟨b, 0, none⟩))] _ _
 refine St.openP [] fun part hpart => ?_
 obtain ⟨hpl, hpr⟩ := hpart
 refine R_seq ?_
 refine R_region ?_
 refine L_op rfl (W_alloc rfl rfl rfl ty_ze_29 fun b2 => ?_)
 refine L_nil ?_
 refine Q_then ?_
 refine R_seq ?_
 refine R_seq ?_
 refine R_region ?_
 refine L_val rfl rfl rfl (OpP.v (P_move rfl rfl)) ?_
 refine L_op rfl (W_callV rfl rfl rfl rfl fn_ca_211 (good_ok gl b true) (fun w nw => Rd.blk .h1 rfl w nw) ?_)
 refine L_val rfl rfl rfl (OpP.v (P_not rfl rfl)) ?_
 refine L_nil ?_
 refine St.env (.cons (t := 0) rfl (.cons (t := 2) rfl (.cons (t := 13) rfl .nil))) ?_
 refine Q_then ?_
 refine R_condF rfl ?_
 refine R_skip ?_
 refine Q_then ?_
 refine R_seq ?_
 refine R_region ?_
 refine L_val rfl rfl rfl (OpP.v (P_move rfl rfl)) ?_
 refine L_val rfl rfl rfl (OpP.v (P_nil rfl rfl)) ?_
 refine L_val rfl rfl rfl (V_loadAgg rfl rfl ty_ag_294 (Rds.blk .h1) (hcells_length (cmp_length _) hpl)) ?_
 refine L_op rfl (W_alloc rfl rfl rfl ty_ze_294 fun b3 => ?_)
 refine L_op rfl (W_storeAll rfl rfl rfl rfl ty_ag_294 (hcells_length (cmp_length _) hpl) (hcells_one) .h0 (by rw [hcells_length (cmp_length _) hpl]; rfl) ?_)
 refine L_nil ?_
 refine St.env (.cons (t := 2) rfl (.cons (t := 3) rfl .nil)) ?_
 refine Q_then ?_
 refine R_seq ?_
 refine R_region ?_
 refine L_val rfl rfl rfl (OpP.v (P_fld0 rfl ty_fl_294_4 rfl)) ?_
 refine L_val rfl rfl rfl (V_load rfl rfl ty_sc_24 (Rd.blk .h0 (hcells_74 (cmp_length _) hpl))) ?_
 refine L_val rfl rfl rfl (OpP.v (P_mul rfl rfl rfl)) ?_
 refine L_val rfl rfl rfl (OpP.v (P_assign rfl rfl)) ?_
 refine L_nil ?_
 refine St.env (.cons (t := 2) rfl (.cons (t := 3) rfl (.cons (t := 4) rfl .nil))) ?_
 refine Q_then ?_
 refine R_seq ?_
 refine R_region ?_
 refine L_op rfl (W_lit (z := .nilIface) (ints .u8 [128]) rfl rfl rfl ty_sl_48 ty_lz_48 rfl rfl rfl (by decide) (by decide) (by simp [Value.cells]) (rfl) fun b21 => ?_)
 refine St.res (rs' := [blk b21 (ints .u8 [128]) 5, hasher b3 xs, blk b2 (List.replicate 32 (.int .u8 0)) 29, blk b (hcells true (cmp xs) part (xs.length % 64 : Nat) (IntKind.u64.wrap xs.length)) 294]) (Weak.keep (hcore_in rfl hpl hpr rfl)) ?_
 refine L_op rfl (W_callR rfl rfl rfl rfl fn_ca_174 (write_ok hG b3 xs [128] (some ⟨b21, 0, none⟩) 1 (by decide)) (Split.one (p := [_])) (Sn.pre (Sn.ofBlk .h0)) ?_)
 refine St.res (rs' := [hasher b3 (xs ++ [128]), blk b2 (List.replicate 32 (.int .u8 0)) 29, blk b (hcells true (cmp xs) part (xs.length % 64 : Nat) (IntKind.u64.wrap xs.length)) 294]) (Weak.keep (Weak.drop (Weak.refl _))) ?_
 refine L_nil ?_
 refine St.env (.cons (t := 2) rfl (.cons (t := 3) rfl (.cons (t := 4) rfl .nil))) ?_
 refine Q_then ?_
 refine R_seq ?_
 refine R_block ?_
 refine R_loop (G := Nat) (fun k => [(2, .pointer (some ⟨b2, 0, none⟩)), (3, .pointer (some ⟨b3, 0, none⟩)), (4, .int .u64 (IntKind.u64.wrap (IntKind.u64.wrap xs.length * 8)))]) (fun k => [hasher b3 (xs ++ [128] ++ List.replicate k 0), blk b2 (List.replicate 32 (.int .u8 0)) 29, blk b (hcells true (cmp xs) part (xs.length % 64 : Nat) (IntKind.u64.wrap xs.length)) 294]) (fun k => k ≤ padZ xs.length) (fun k => padZ xs.length - k) (0) (by omega) (by repeat (first | exact .nil | refine .cons rfl ?_)) (by simp only [List.replicate_zero, List.append_nil]; exact Weak.refl _) ?_
 intro k hk
 have hYl : (xs ++ [128] ++ List.replicate k 0).length = xs.length + 1 + k := by simp only [List.length_append, List.length_cons, List.length_nil, List.length_replicate]
 refine St.openP [] fun p2 hp2 => ?_
 obtain ⟨h2l, h2r⟩ := hp2
 refine R_seq ?_
 refine R_seq ?_
 refine R_region ?_
 refine L_val rfl rfl rfl (OpP.v (P_fld0 rfl ty_fl_294_3 rfl)) ?_
 refine L_val rfl rfl rfl (V_load rfl rfl ty_sc_3 (Rd.blk .h0 (hcells_73 (cmp_length _) h2l))) ?_
 refine L_val rfl rfl rfl (OpP.v (P_neq rfl rfl rfl)) ?_
 refine L_nil ?_
 refine Q_then ?_
 refine R_condP rfl (fun hne => ?_) (fun hne => ?_)
 ·skip
  refine R_skip ?_
  refine Q_then ?_
  refine R_block ?_
  refine R_region ?_
  refine L_op rfl (W_lit (z := .nilIface) (ints .u8 [0]) rfl rfl rfl ty_sl_48 ty_lz_48 rfl rfl rfl (by decide) (by decide) (by simp [Value.cells]) (rfl) fun b26 => ?_)
  refine St.res (rs' := [blk b26 (ints .u8 [0]) 5, hasher b3 (xs ++ [128] ++ List.replicate k 0), blk b2 (List.replicate 32 (.int .u8 0)) 29, blk b (hcells true (cmp xs) part (xs.length % 64 : Nat) (IntKind.u64.wrap xs.length)) 294]) (Weak.keep (hcore_in rfl h2l h2r rfl)) ?_
  refine L_op rfl (W_callR rfl rfl rfl rfl fn_ca_174 (write_ok hG b3 (xs ++ [128] ++ List.replicate k 0) [0] (some ⟨b26, 0, none⟩) 1 (by decide)) (Split.one (p := [_])) (Sn.pre (Sn.ofBlk .h0)) ?_)
  refine St.res (rs' := [hasher b3 ((xs ++ [128] ++ List.replicate k 0) ++ [0]), blk b2 (List.replicate 32 (.int .u8 0)) 29, blk b (hcells true (cmp xs) part (xs.length % 64 : Nat) (IntKind.u64.wrap xs.length)) 294]) (Weak.keep (Weak.drop (Weak.refl _))) ?_
  refine L_nil ?_
  refine St.env (.cons (t := 2) rfl (.cons (t := 3) rfl (.cons (t := 4) rfl (.cons (t := 23) rfl (.cons (t := 24) rfl (.cons (t := 25) rfl (.cons (t := 26) rfl .nil))))))) ?_
  refine Q_block ?_
  have hYn : (xs ++ [128] ++ List.replicate k 0) ++ [0] = xs ++ [128] ++ List.replicate (k + 1) 0 := by rw [List.replicate_succ', ← List.append_assoc]
  exact Q_round (k + 1) (by unfold padZ at *; omega) (by unfold padZ at *; omega) (by repeat (first | exact .nil | refine .cons rfl ?_)) (by rw [← hYn]; exact Weak.refl _)
 ·skip
  obtain rfl : k = padZ xs.length := by unfold padZ at *; omega
  refine St.res (rs' := [hasher b3 (xs ++ [128] ++ List.replicate (padZ xs.length) 0), blk b2 (List.replicate 32 (.int .u8 0)) 29, blk b (hcells true (cmp xs) part (xs.length % 64 : Nat) (IntKind.u64.wrap xs.length)) 294]) (hcore_in rfl h2l h2r rfl) ?_
  refine R_exit ?_
  refine Q_then_exit ?_
  refine Q_then_exit ?_
  refine Q_block_eq ?_
  refine St.env (.cons (t := 2) rfl (.cons (t := 3) rfl (.cons (t := 4) rfl .nil))) ?_
  refine Q_then ?_
  refine R_seq ?_
  refine R_region ?_
  refine L_op rfl (W_alloc rfl rfl rfl ty_ze_257 fun b5 => ?_)
  refine L_nil ?_
  refine Q_then ?_
  refine R_seq ?_
  refine R_seq ?_
  refine R_region ?_
  refine L_val rfl rfl rfl (OpP.v (P_move rfl rfl)) ?_
  refine L_nil ?_
  refine Q_then ?_
  refine R_block ?_
  refine R_loop (G := Nat) (fun k => [(2, .pointer (some ⟨b2, 0, none⟩)), (3, .pointer (some ⟨b3, 0, none⟩)), (4, .int .u64 (IntKind.u64.wrap (IntKind.u64.wrap xs.length * 8))), (5, .pointer (some ⟨b5, 0, none⟩)), (28, .int .i64 (k : Int))]) (fun k => [blk b5 (ints .u8 (fillN (lenF xs.length) 8 k)) 257, hasher b3 (xs ++ [128] ++ List.replicate (padZ xs.length) 0), blk b2 (List.replicate 32 (.int .u8 0)) 29, blk b (hcells true (cmp xs) part (xs.length % 64 : Nat) (IntKind.u64.wrap xs.length)) 294]) (fun k => k ≤ 8) (fun k => 8 - k) (0) (by omega) (by repeat (first | exact .nil | refine .cons rfl ?_)) (by rw [fillN_zero]; exact Weak.refl _) ?_
  intro k hk
  refine R_seq ?_
  refine R_region ?_
  refine L_val rfl rfl rfl (OpP.v (P_lss rfl rfl rfl)) ?_
  refine L_nil ?_
  refine Q_then ?_
  refine R_seq ?_
  refine R_condP rfl (fun hlt => ?_) (fun hlt => ?_)
  ·skip
   refine R_skip ?_
   refine Q_then ?_
   refine R_seq ?_
   refine R_block ?_
   refine R_seq ?_
   refine R_region ?_
   refine L_val rfl rfl rfl (OpP.v (P_move rfl rfl)) ?_
   refine L_val rfl rfl rfl (OpP.v (P_assign rfl rfl)) ?_
   refine L_nil ?_
   refine Q_then ?_
   refine R_region ?_
   refine L_val rfl rfl rfl (OpP.v (P_move rfl rfl)) ?_
   refine L_val rfl rfl rfl (OpP.v (P_move rfl rfl)) ?_
   refine L_val rfl rfl rfl (OpP.v (P_move rfl rfl)) ?_
   first | (refine L_val rfl rfl rfl (OpP.v (P_mulN rfl rfl rfl (by simp only [fits]; omega))) ?_) | (refine L_val rfl rfl rfl (OpP.v (P_mul rfl rfl rfl)) ?_)
   first | (refine L_val rfl rfl rfl (OpP.v (P_subN rfl rfl rfl (by simp only [fits]; omega))) ?_) | (refine L_val rfl rfl rfl (OpP.v (P_sub rfl rfl rfl)) ?_)
   refine L_val rfl rfl rfl (OpP.v (P_shr rfl rfl rfl (by omega))) ?_
   refine L_val rfl rfl rfl (OpP.v (P_conv rfl ty_int_24 ty_int_5 rfl)) ?_
   first | (refine L_val rfl rfl rfl (OpP.v (P_ixa0 (k) rfl ty_ar_257 rfl rfl (by first | rfl | omega) (by omega))) ?_) | (refine L_val rfl rfl rfl (OpP.v (P_ixa (k) rfl ty_ar_257 rfl rfl (by first | rfl | omega) (by omega))) ?_)
   refine L_op rfl (W_store rfl rfl rfl rfl ty_sc_5 rfl .h0 (by rw [ints_length, fillN_length]; omega) ?_)
   rw [ints_set]
   refine L_nil ?_
   refine Q_block ?_
   refine Q_then ?_
   refine R_region ?_
   first | (refine L_val rfl rfl rfl (OpP.v (P_addN rfl rfl rfl (by simp only [fits]; omega))) ?_) | (refine L_val rfl rfl rfl (OpP.v (P_add rfl rfl rfl)) ?_)
   refine L_val rfl rfl rfl (OpP.v (P_move rfl rfl)) ?_
   refine L_nil ?_
   refine E_nat (t := 28) (n := k + 1) rfl (by omega) ?_
   exact Q_round (k + 1) (by omega) (by omega) (by repeat (first | exact .nil | refine .cons rfl ?_)) (by rw [← fillN_set]; exact Weak.refl _)
  ·skip
   obtain rfl : k = 8 := by omega
   rw [fillN_full]
   refine R_exit ?_
   refine Q_then_exit ?_
   refine Q_then_exit ?_
   refine Q_block_eq ?_
   refine St.env (.cons (t := 2) rfl (.cons (t := 3) rfl (.cons (t := 5) rfl .nil))) ?_
   refine Q_then ?_
   refine R_seq ?_
   refine R_region ?_
   refine L_val rfl rfl rfl (OpP.v (P_sliceAll rfl ty_ar_257 rfl)) ?_
   refine L_op rfl (W_callR rfl rfl rfl rfl fn_ca_174 (write_ok hG b3 (xs ++ [128] ++ List.replicate (padZ xs.length) 0) (lenB xs.length) (some ⟨b5, 0, none⟩) 8 (by rw [lenB_length]; decide)) (Split.one (p := [_])) (Sn.pre (Sn.ofBlk .h0)) ?_)
   refine St.res (rs' := [hasher b3 (padded xs), blk b2 (List.replicate 32 (.int .u8 0)) 29, blk b (hcells true (cmp xs) part (xs.length % 64 : Nat) (IntKind.u64.wrap xs.length)) 294]) (Weak.keep (Weak.drop (Weak.refl _))) ?_
   refine L_nil ?_
   refine St.env (.cons (t := 2) rfl (.cons (t := 3) rfl .nil)) ?_
   refine Q_then ?_
   refine R_seq ?_
   refine R_region ?_
   refine L_op rfl (W_alloc rfl rfl rfl ty_ze_29 fun b7 => ?_)
   refine St.openP [_] fun p3 hp3 => ?_
   obtain ⟨h3l, h3r⟩ := hp3
   refine L_nil ?_
   refine Q_then ?_
   refine R_seq ?_
   refine R_seq ?_
   refine R_region ?_
   refine L_val rfl rfl rfl (OpP.v (P_fld0 rfl ty_fl_294_1 rfl)) ?_
   refine L_val rfl rfl rfl (V_loadAgg rfl rfl ty_ag_291 (Rds.part (Rds.blk .h1) 1 fun i v hv => hcells_words (cmp_length _) h3l i v hv) (by rw [ints_length, cmp_length])) ?_
   refine L_val rfl rfl rfl (OpP.v (P_move rfl rfl)) ?_
   refine L_nil ?_
   refine St.env (.cons (t := 2) rfl (.cons (t := 7) rfl (.cons (t := 43) rfl (.cons (t := 44) rfl .nil)))) ?_
   refine Q_then ?_
   refine R_block ?_
   refine R_loop (G := Nat) (fun i => [(2, .pointer (some ⟨b2, 0, none⟩)), (7, .pointer (some ⟨b7, 0, none⟩)), (43, .agg (ints .u32 (cmp (padded xs))).toArray), (44, .int .i64 (i : Int))]) (fun i => [blk b7 (ints .u8 (fillN (outF (cmp (padded xs))) 32 (4 * i))) 29, blk b3 (hcells true (cmp (padded xs)) p3 ((padded xs).length % 64 : Nat) (IntKind.u64.wrap (padded xs).length)) 294, blk b2 (List.replicate 32 (.int .u8 0)) 29, blk b (hcells true (cmp xs) part (xs.length % 64 : Nat) (IntKind.u64.wrap xs.length)) 294]) (fun i => i ≤ 8) (fun i => 8 - i) (0) (by omega) (by repeat (first | exact .nil | refine .cons rfl ?_)) (by rw [Nat.mul_zero, fillN_zero]; exact Weak.refl _) ?_
   intro i hi
   refine R_seq ?_
   refine R_region ?_
   refine L_val rfl rfl rfl (OpP.v (P_lss rfl rfl rfl)) ?_
   refine L_nil ?_
   refine Q_then ?_
   refine R_seq ?_
   refine R_condP rfl (fun hli => ?_) (fun hli => ?_)
   ·skip
    refine R_skip ?_
    refine Q_then ?_
    refine R_seq ?_
    refine R_block ?_
    refine R_seq ?_
    refine R_region ?_
    refine L_val rfl rfl rfl (OpP.v (P_move rfl rfl)) ?_
    refine L_val rfl rfl rfl (OpP.v (P_index (i) rfl ty_ar_291 ty_sc_108 rfl rfl (by first | rfl | omega) (by omega) (ints_at (by rw [cmp_length]; omega)))) ?_
    refine L_val rfl rfl rfl (OpP.v (P_assign rfl rfl)) ?_
    refine L_val rfl rfl rfl (OpP.v (P_assign rfl rfl)) ?_
    refine L_nil ?_
    refine Q_then ?_
    refine R_seq ?_
    refine R_region ?_
    refine L_val rfl rfl rfl (OpP.v (P_move rfl rfl)) ?_
    refine L_nil ?_
    refine Q_then ?_
    refine R_block ?_
    refine R_loop (G := Nat) (fun k => [(2, .pointer (some ⟨b2, 0, none⟩)), (7, .pointer (some ⟨b7, 0, none⟩)), (8, .int .i64 (i : Int)), (9, .int .u32 ((cmp (padded xs)).getD i 0)), (43, .agg (ints .u32 (cmp (padded xs))).toArray), (44, .int .i64 (i : Int)), (46, .int .i64 (i : Int)), (47, .int .u32 ((cmp (padded xs)).getD i 0)), (48, .int .i64 (k : Int))]) (fun k => [blk b7 (ints .u8 (fillN (outF (cmp (padded xs))) 32 (4 * i + k))) 29, blk b3 (hcells true (cmp (padded xs)) p3 ((padded xs).length % 64 : Nat) (IntKind.u64.wrap (padded xs).length)) 294, blk b2 (List.replicate 32 (.int .u8 0)) 29, blk b (hcells true (cmp xs) part (xs.length % 64 : Nat) (IntKind.u64.wrap xs.length)) 294]) (fun k => k ≤ 4) (fun k => 4 - k) (0) (by omega) (by repeat (first | exact .nil | refine .cons rfl ?_)) (Weak.refl _) ?_
    intro k hk
    refine R_seq ?_
    refine R_region ?_
    refine L_val rfl rfl rfl (OpP.v (P_lss rfl rfl rfl)) ?_
    refine L_nil ?_
    refine Q_then ?_
    refine R_seq ?_
    refine R_condP rfl (fun hlk => ?_) (fun hlk => ?_)
    ·skip
     refine R_skip ?_
     refine Q_then ?_
     refine R_seq ?_
     refine R_block ?_
     refine R_seq ?_
     refine R_region ?_
     refine L_val rfl rfl rfl (OpP.v (P_move rfl rfl)) ?_
     refine L_val rfl rfl rfl (OpP.v (P_assign rfl rfl)) ?_
     refine L_nil ?_
     refine Q_then ?_
     refine R_region ?_
     refine L_val rfl rfl rfl (OpP.v (P_move rfl rfl)) ?_
     first | (refine L_val rfl rfl rfl (OpP.v (P_mulN rfl rfl rfl (by simp only [fits]; omega))) ?_) | (refine L_val rfl rfl rfl (OpP.v (P_mul rfl rfl rfl)) ?_)
     refine L_val rfl rfl rfl (OpP.v (P_move rfl rfl)) ?_
     first | (refine L_val rfl rfl rfl (OpP.v (P_addN rfl rfl rfl (by simp only [fits]; omega))) ?_) | (refine L_val rfl rfl rfl (OpP.v (P_add rfl rfl rfl)) ?_)
     refine L_val rfl rfl rfl (OpP.v (P_move rfl rfl)) ?_
     refine L_val rfl rfl rfl (OpP.v (P_move rfl rfl)) ?_
     first | (refine L_val rfl rfl rfl (OpP.v (P_mulN rfl rfl rfl (by simp only [fits]; omega))) ?_) | (refine L_val rfl rfl rfl (OpP.v (P_mul rfl rfl rfl)) ?_)
     first | (refine L_val rfl rfl rfl (OpP.v (P_subN rfl rfl rfl (by simp only [fits]; omega))) ?_) | (refine L_val rfl rfl rfl (OpP.v (P_sub rfl rfl rfl)) ?_)
     refine L_val rfl rfl rfl (OpP.v (P_shr rfl rfl rfl (by omega))) ?_
     refine L_val rfl rfl rfl (OpP.v (P_conv rfl ty_int_108 ty_int_5 rfl)) ?_
     first | (refine L_val rfl rfl rfl (OpP.v (P_ixa0 (4 * i + k) rfl ty_ar_29 rfl rfl (by first | rfl | omega) (by omega))) ?_) | (refine L_val rfl rfl rfl (OpP.v (P_ixa (4 * i + k) rfl ty_ar_29 rfl rfl (by first | rfl | omega) (by omega))) ?_)
     refine L_op rfl (W_store rfl rfl rfl rfl ty_sc_5 rfl .h0 (by rw [ints_length, fillN_length]; omega) ?_)
     rw [ints_set]
     refine L_nil ?_
     refine Q_block ?_
     refine Q_then ?_
     refine R_region ?_
     first | (refine L_val rfl rfl rfl (OpP.v (P_addN rfl rfl rfl (by simp only [fits]; omega))) ?_) | (refine L_val rfl rfl rfl (OpP.v (P_add rfl rfl rfl)) ?_)
     refine L_val rfl rfl rfl (OpP.v (P_move rfl rfl)) ?_
     refine L_nil ?_
     refine E_nat (t := 48) (n := k + 1) rfl (by omega) ?_
     exact Q_round (k + 1) (by omega) (by omega) (by repeat (first | exact .nil | refine .cons rfl ?_)) (by rw [← Nat.add_assoc, ← fillN_set, outF_at _ _ _ (by omega)]; exact Weak.refl _)
    ·skip
     obtain rfl : k = 4 := by omega
     refine R_exit ?_
     refine Q_then_exit ?_
     refine Q_then_exit ?_
     refine Q_block_eq ?_
     refine Q_block ?_
     refine Q_then ?_
     refine R_region ?_
     first | (refine L_val rfl rfl rfl (OpP.v (P_addN rfl rfl rfl (by simp only [fits]; omega))) ?_) | (refine L_val rfl rfl rfl (OpP.v (P_add rfl rfl rfl)) ?_)
     refine L_val rfl rfl rfl (OpP.v (P_move rfl rfl)) ?_
     refine L_nil ?_
     refine E_nat (t := 44) (n := i + 1) rfl (by omega) ?_
     exact Q_round (i + 1) (by omega) (by omega) (by repeat (first | exact .nil | refine .cons rfl ?_)) (Weak.refl _)
   ·skip
    obtain rfl : i = 8 := by omega
    rw [show 4 * 8 = 32 from rfl, fillN_full]
    refine St.res (rs' := [blk b7 (ints .u8 (sha xs)) 29, blk b3 (hcells true (cmp (padded xs)) p3 ((padded xs).length % 64 : Nat) (IntKind.u64.wrap (padded xs).length)) 294, blk b2 (List.replicate 32 (.int .u8 0)) 29, blk b (hcells true (cmp xs) part (xs.length % 64 : Nat) (IntKind.u64.wrap xs.length)) 294]) (Weak.refl _) ?_
    refine R_exit ?_
    refine Q_then_exit ?_
    refine Q_then_exit ?_
    refine Q_block_eq ?_
    refine St.env (.cons (t := 2) rfl (.cons (t := 7) rfl .nil)) ?_
    refine Q_then ?_
    refine R_seq ?_
    refine R_region ?_
    refine L_val rfl rfl rfl (V_loadAgg rfl rfl ty_ag_29 (Rds.blk .h0) (by rw [ints_length, sha_length])) ?_
    refine L_op rfl (W_storeAll rfl rfl rfl rfl ty_ag_29 (by rw [ints_length, sha_length]) (ints_one) .h2 (by rw [ints_length, sha_length]; rfl) ?_)
    refine L_nil ?_
    refine St.env (.cons (t := 2) rfl .nil) ?_
    refine Q_then ?_
    refine R_ret ?_
    exact R_end (rs2 := [hasher b xs]) rfl rfl (.cell rfl (Rds.loadVar ty_ag_29 (Rds.blk .h2) (by rw [ints_length, sha_length])) .nil) (⟨rfl, rfl⟩) (Weak.drop (Weak.drop (Weak.drop (hcore_in rfl hpl hpr rfl))))
end Go.Proofs.YtfhjhaogmdaepaaGreatDoor

/- Walks: digests of bytes, of items and of two digests. Printed by gen.py. -/
set_option linter.unusedVariables false
set_option linter.unusedSimpArgs false
set_option maxRecDepth 100000
namespace Go.Proofs.YtfhjhaogmdaepaaGreatDoor
open Go Go.RowKit Go.Proofs
theorem BytesL.nil {w : World} : BytesL w [] [] := ⟨rfl, fun _ _ _ h => by cases h⟩
theorem BytesL.cons {w : World} {v : Value} {vs : List Value} {xs : List Int} {xss : List (List Int)} (h : Bytes w v xs) (t : BytesL w vs xss) : BytesL w (v :: vs) (xs :: xss) :=
 ⟨by rw [List.length_cons, List.length_cons, t.1], fun i u us h1 h2 => by
  cases i with
  | zero =>
   simp only [List.getElem?_cons_zero, Option.some.injEq] at h1 h2
   subst h1; subst h2; exact h
  | succ i => exact t.2 i u us h1 h2⟩
theorem BytesL.at_ {w : World} {vs : List Value} {xss : List (List Int)} (h : BytesL w vs xss) {k : Nat} (hk : k < xss.length) : ∃ base c ys, vs[k]? = some (.slice base ys.length c) ∧ xss[k]? = some ys ∧ ys.length ≤ c ∧ Row w base (ints .u8 ys) := by
 have hk' : k < vs.length := by rw [h.1]; exact hk
 obtain ⟨base, c, e, h1, h2⟩ := h.2 k vs[k] xss[k] (List.getElem?_eq_getElem hk') (List.getElem?_eq_getElem hk)
 exact ⟨base, c, xss[k], by rw [List.getElem?_eq_getElem hk', e], List.getElem?_eq_getElem hk, h1, h2⟩
theorem flatten_next {xss : List (List Int)} {k : Nat} {ys : List Int} (h : xss[k]? = some ys) : (xss.take (k + 1)).flatten = (xss.take k).flatten ++ ys := by
 rw [List.take_add_one, h]; simp
theorem joined_ok {gl : Nat → Obj} (hG : Globs gl) (base : Option Addr) (c : Nat) (vs : List Value) (xss : List (List Int)) (hvs : vs.length = xss.length) (hc : vs.length ≤ c) (hmax : vs.length ≤ 9223372036854775806) : SpecV (cx gl) 119 [.slice base vs.length c] (fun w => Row w base vs ∧ BytesL w vs xss) (.agg (ints .u8 (sha xss.flatten)).toArray) := by
 refine Spec.enter (C := cx gl) Tryz.func119 rfl 19 rfl rfl fun w0 h0 hsep hsub hpre => ?_
 obtain rfl : h0 = Heap.none := hsep
 show St (cx gl) _ [(0, .slice base vs.length c)] _ _
 refine R_seq ?_
 refine R_region ?_
 refine L_op rfl (W_alloc rfl rfl rfl ty_ze_29 fun b2 => ?_)
 refine L_nil ?_
 refine Q_then ?_
 refine R_seq ?_
 refine R_region ?_
 refine L_op rfl (W_call rfl rfl rfl rfl fn_ca_173 (new_ok hG) (Split.nil _) (fun _ _ _ _ _ _ _ => trivial) fun v rs1 ⟨b3, e1, e2⟩ => ?_)
 subst e1; subst e2
 refine St.res (rs' := [hasher b3 [], blk b2 (List.replicate 32 (.int .u8 0)) 29]) (Weak.refl _) ?_
 refine L_val rfl rfl rfl (OpP.v (P_assign rfl rfl)) ?_
 refine L_nil ?_
 refine St.env (.cons (t := 0) rfl (.cons (t := 2) rfl (.cons (t := 3) rfl .nil))) ?_
 refine Q_then ?_
 refine R_seq ?_
 refine R_seq ?_
 refine R_region ?_
 refine L_val rfl rfl rfl (OpP.v (P_move rfl rfl)) ?_
 refine L_val rfl rfl rfl (OpP.v (P_len rfl ty_sl_42 rfl)) ?_
 refine L_val rfl rfl rfl (OpP.v (P_move rfl rfl)) ?_
 refine L_nil ?_
 refine St.env (.cons (t := 2) rfl (.cons (t := 3) rfl (.cons (t := 7) rfl (.cons (t := 8) rfl (.cons (t := 9) rfl .nil))))) ?_
 refine Q_then ?_
 refine R_block ?_
 refine R_loop (G := Nat) (fun k => [(2, .pointer (some ⟨b2, 0, none⟩)), (3, .pointer (some ⟨b3, 0, none⟩)), (7, .slice base vs.length c), (8, .int .i64 ((vs.length : Nat) : Int)), (9, .int .i64 (k : Int))]) (fun k => [hasher b3 (xss.take k).flatten, blk b2 (List.replicate 32 (.int .u8 0)) 29]) (fun k => k ≤ vs.length) (fun k => vs.length - k) (0) (by omega) (by repeat (first | exact .nil | refine .cons rfl ?_)) (Weak.refl _) ?_
 intro k hk
 refine R_seq ?_
 refine R_region ?_
 refine L_val rfl rfl rfl (OpP.v (P_lss rfl rfl rfl)) ?_
 refine L_nil ?_
 refine Q_then ?_
 refine R_seq ?_
 refine R_condP rfl (fun hlt => ?_) (fun hlt => ?_)
 ·skip
  obtain ⟨pb, pj, rfl, hrow⟩ := hpre.1.some_ (by omega)
  obtain ⟨bb, bc, ys, hvk, hxk, hbc, hbr⟩ := hpre.2.at_ (k := k) (by omega)
  refine R_skip ?_
  refine Q_then ?_
  refine R_seq ?_
  refine R_block ?_
  refine R_seq ?_
  refine R_region ?_
  refine L_val rfl rfl rfl (OpP.v (P_ixs (k) rfl ty_sl_42 rfl rfl (by first | rfl | omega) (by omega))) ?_
  refine L_val rfl rfl rfl (V_load rfl rfl ty_sc_48 (Rd.row hrow rfl hvk)) ?_
  refine L_val rfl rfl rfl (OpP.v (P_assign rfl rfl)) ?_
  refine L_nil ?_
  refine Q_then ?_
  refine R_region ?_
  refine L_val rfl rfl rfl (OpP.v (P_move rfl rfl)) ?_
  refine L_val rfl rfl rfl (OpP.v (P_move rfl rfl)) ?_
  refine L_op rfl (W_callR rfl rfl rfl rfl fn_ca_174 (write_ok hG b3 (xss.take k).flatten ys bb bc hbc) (Split.one (p := [])) (Sn.pre (Sn.row hbr rfl)) ?_)
  refine St.res (rs' := [hasher b3 ((xss.take k).flatten ++ ys), blk b2 (List.replicate 32 (.int .u8 0)) 29]) (Weak.refl _) ?_
  refine L_nil ?_
  refine St.env (.cons (t := 2) rfl (.cons (t := 3) rfl (.cons (t := 5) rfl (.cons (t := 7) rfl (.cons (t := 8) rfl (.cons (t := 9) rfl (.cons (t := 10) rfl (.cons (t := 11) rfl (.cons (t := 12) rfl (.cons (t := 13) rfl (.cons (t := 14) rfl .nil))))))))))) ?_
  refine Q_block ?_
  refine Q_then ?_
  refine R_region ?_
  first | (refine L_val rfl rfl rfl (OpP.v (P_addN rfl rfl rfl (by simp only [fits]; omega))) ?_) | (refine L_val rfl rfl rfl (OpP.v (P_add rfl rfl rfl)) ?_)
  refine L_val rfl rfl rfl (OpP.v (P_move rfl rfl)) ?_
  refine L_nil ?_
  refine E_nat (t := 9) (n := k + 1) rfl (by omega) ?_
  exact Q_round (k + 1) (by omega) (by omega) (by repeat (first | exact .nil | refine .cons rfl ?_)) (by rw [flatten_next hxk]; exact Weak.refl _)
 ·skip
  obtain rfl : k = vs.length := by omega
  rw [hvs, List.take_length]
  refine R_exit ?_
  refine Q_then_exit ?_
  refine Q_then_exit ?_
  refine Q_block_eq ?_
  refine St.env (.cons (t := 2) rfl (.cons (t := 3) rfl .nil)) ?_
  refine Q_then ?_
  refine R_seq ?_
  refine R_region ?_
  refine L_val rfl rfl rfl (OpP.v (P_move rfl rfl)) ?_
  refine L_op rfl (W_callR rfl rfl rfl rfl fn_ca_175 (hsum_ok hG b3 xss.flatten) (Split.one (p := [])) (fun _ _ _ _ _ _ _ => trivial) ?_)
  refine St.res (rs' := [blk b2 (List.replicate 32 (.int .u8 0)) 29]) (Weak.drop (Weak.refl _)) ?_
  refine L_op rfl (W_storeAll rfl rfl rfl rfl ty_ag_29 (by rw [ints_length, sha_length]) (ints_one) .h0 (by rw [ints_length, sha_length]; rfl) ?_)
  refine L_nil ?_
  refine St.env (.cons (t := 2) rfl .nil) ?_
  refine Q_then ?_
  refine R_ret ?_
  exact R_endV rfl rfl (.cell rfl (Rds.loadVar ty_ag_29 (Rds.blk .h0) (by rw [ints_length, sha_length])) .nil) (rfl)
theorem sum_ok {gl : Nat → Obj} (hG : Globs gl) (base : Option Addr) (c : Nat) (xs : List Int) (hc : xs.length ≤ c) : SpecV (cx gl) 123 [.slice base xs.length c] (fun w => Row w base (ints .u8 xs)) (.agg (ints .u8 (sha xs)).toArray) := by
 refine Spec.enter (C := cx gl) Tryz.func123 rfl 6 rfl rfl fun w0 h0 hsep hsub hpre => ?_
 obtain rfl : h0 = Heap.none := hsep
 show St (cx gl) _ [(0, .slice base xs.length c)] _ _
 refine R_seq ?_
 refine R_region ?_
 refine L_op rfl (W_alloc rfl rfl rfl ty_ze_29 fun b2 => ?_)
 refine L_nil ?_
 refine Q_then ?_
 refine R_seq ?_
 refine R_region ?_
 refine L_val rfl rfl rfl (OpP.v (P_move rfl rfl)) ?_
 refine L_op rfl (W_lit (z := .nilIface) ([.slice base xs.length c]) rfl rfl rfl ty_sl_42 ty_lz_42 rfl rfl rfl (by decide) (by decide) (by simp [Value.cells]) (rfl) fun b4 => ?_)
 refine L_op rfl (W_callV rfl rfl rfl rfl fn_ca_119 (SpecV.mono (joined_ok hG (some ⟨b4, 0, none⟩) _ [.slice base xs.length c] [xs] rfl (Nat.le_refl _) (by simp)) (fun _ h => h) (v' := .agg (ints .u8 (sha xs)).toArray) (by simp)) (fun w nw => ⟨(Sn.ofBlk .h0).rw_ w nw, BytesL.cons ⟨_, _, rfl, hc, (Sn.row hpre rfl).rw_ w nw⟩ BytesL.nil⟩) ?_)
 refine L_op rfl (W_storeAll rfl rfl rfl rfl ty_ag_29 (by rw [ints_length, sha_length]) (ints_one) .h1 (by rw [ints_length, sha_length]; rfl) ?_)
 refine L_nil ?_
 refine St.env (.cons (t := 2) rfl .nil) ?_
 refine Q_then ?_
 refine R_ret ?_
 exact R_endV rfl rfl (.cell rfl (Rds.loadVar ty_ag_29 (Rds.blk .h1) (by rw [ints_length, sha_length])) .nil) (rfl)
end Go.Proofs.YtfhjhaogmdaepaaGreatDoor
