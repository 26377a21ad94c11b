/- Plain: turns by priorities: the highest is chosen and pays the total; how far apart the priorities can come. -/
import Derived.Test.YtfhjhaogmdaepaaEngL
set_option linter.unusedVariables false
set_option linter.unusedSimpArgs false
namespace Go.Proofs.Ytfhjhaogmdaepaa

/-! ### Sums of the first n -/
def sumI : Nat → (Nat → Int) → Int
  | 0, _ => 0
  | k + 1, f => sumI k f + f k
theorem sumI_congr {n : Nat} {f g : Nat → Int} (h : ∀ i, i < n → f i = g i) : sumI n f = sumI n g := by
  induction n with
  | zero => rfl
  | succ n ih => simp only [sumI]; rw [ih fun i hi => h i (by omega), h n (by omega)]
theorem sumI_le {n : Nat} {f g : Nat → Int} (h : ∀ i, i < n → f i ≤ g i) : sumI n f ≤ sumI n g := by
  induction n with
  | zero => exact Int.le_refl _
  | succ n ih => simp only [sumI]; have := ih fun i hi => h i (by omega); have := h n (by omega); omega
theorem sumI_add (n : Nat) (f g : Nat → Int) : sumI n (fun i => f i + g i) = sumI n f + sumI n g := by
  induction n with
  | zero => rfl
  | succ n ih => simp only [sumI]; rw [ih]; omega
theorem sumI_zero (n : Nat) : sumI n (fun _ => 0) = 0 := by
  induction n with
  | zero => rfl
  | succ n ih => simp only [sumI]; rw [ih]; rfl
theorem sumI_nonneg {n : Nat} {f : Nat → Int} (h : ∀ i, i < n → 0 ≤ f i) : 0 ≤ sumI n f := by
  have := sumI_le (f := fun _ => 0) h; rwa [sumI_zero] at this
theorem sumI_const (n : Nat) (c : Int) : sumI n (fun _ => c) = n * c := by
  induction n with
  | zero => simp [sumI]
  | succ n ih => simp only [sumI]; rw [ih, Int.natCast_add, Int.add_mul]; simp
theorem sumI_mul (n : Nat) (c : Int) (f : Nat → Int) : sumI n (fun i => c * f i) = c * sumI n f := by
  induction n with
  | zero => simp [sumI]
  | succ n ih => simp only [sumI]; rw [ih, Int.mul_add]
theorem sumI_one {n c : Nat} (h : c < n) (d : Int) : sumI n (fun i => if i = c then d else 0) = d := by
  induction n with
  | zero => omega
  | succ n ih =>
    simp only [sumI]
    by_cases e : n = c
    · subst e
      rw [if_pos rfl, sumI_congr (g := fun _ => 0) (fun i hi => by rw [if_neg (by omega)]), sumI_zero]; omega
    · rw [ih (by omega), if_neg e]; omega
/-- The sum over a set. -/
def sumS (n : Nat) (S : Nat → Bool) (f : Nat → Int) : Int := sumI n fun i => if S i then f i else 0
theorem sumS_add (n : Nat) (S : Nat → Bool) (f g : Nat → Int) : sumS n S (fun i => f i + g i) = sumS n S f + sumS n S g := by
  unfold sumS; rw [← sumI_add]; exact sumI_congr fun i _ => by split <;> simp
theorem sumS_le {n : Nat} {S : Nat → Bool} {f g : Nat → Int} (h : ∀ i, i < n → S i = true → f i ≤ g i) : sumS n S f ≤ sumS n S g :=
  sumI_le fun i hi => by split; exact h i hi ‹_›; exact Int.le_refl _
theorem sumS_sub {n : Nat} {S : Nat → Bool} {f : Nat → Int} (h : ∀ i, i < n → 0 ≤ f i) : sumS n S f ≤ sumI n f :=
  sumI_le fun i hi => by split; exact Int.le_refl _; exact h i hi
theorem sumS_const (n : Nat) (S : Nat → Bool) (c : Int) : sumS n S (fun _ => c) = c * sumS n S (fun _ => 1) := by
  unfold sumS; rw [← sumI_mul]; exact sumI_congr fun i _ => by split <;> simp
theorem sumS_with {n c : Nat} {S : Nat → Bool} (hc : c < n) (hS : S c = false) (f : Nat → Int) : sumS n (fun i => S i || i == c) f = sumS n S f + f c := by
  unfold sumS
  rw [← sumI_one hc (f c), ← sumI_add]
  refine sumI_congr fun i _ => ?_
  by_cases e : i = c
  · subst e; simp [hS]
  · simp [e]
theorem sumS_not (n : Nat) (S : Nat → Bool) (f : Nat → Int) : sumS n S f + sumS n (fun i => !S i) f = sumI n f := by
  unfold sumS; rw [← sumI_add]; exact sumI_congr fun i _ => by cases h : S i <;> simp [h]
theorem sumS_all (n : Nat) (f : Nat → Int) : sumS n (fun _ => true) f = sumI n f := by unfold sumS; simp
theorem card_nonneg (n : Nat) (S : Nat → Bool) : 0 ≤ sumS n S (fun _ => 1) := sumI_nonneg fun i _ => by split; exact (by decide : (0 : Int) ≤ 1); exact Int.le_refl _
theorem card_le (n : Nat) (S : Nat → Bool) : sumS n S (fun _ => 1) ≤ n := by
  have := sumS_sub (n := n) (S := S) (f := fun _ => 1) (fun _ _ => by show (0 : Int) ≤ 1; omega)
  rw [sumI_const] at this; omega
theorem card_full {n : Nat} {S : Nat → Bool} (h : sumS n S (fun _ => 1) = n) : ∀ i, i < n → S i = true := by
  intro i hi
  cases e : S i with
  | true => rfl
  | false =>
    have h1 := sumS_with hi e (fun _ => 1)
    have h2 := card_le n (fun j => S j || j == i)
    omega
theorem sumS_one {n i : Nat} (h : i < n) (f : Nat → Int) : sumS n (fun j => j == i) f = f i := by
  unfold sumS; rw [← sumI_one h (f i)]
  refine sumI_congr fun j _ => ?_
  by_cases e : j = i
  · subst e; simp
  · simp [e]

/-! ### One turn -/
/-- The next priorities: each takes its weight, c pays the total. -/
def nextQ (w q : Nat → Int) (c : Nat) (T : Int) : Nat → Int := fun i => q i + w i - (if i = c then T else 0)
/-- c is one of the highest. -/
def Best (n : Nat) (w q : Nat → Int) (c : Nat) : Prop := c < n ∧ ∀ j, j < n → q j + w j ≤ q c + w c
theorem nextQ_sum {n c : Nat} {w q : Nat → Int} {T : Int} (hw : sumI n w = T) (hc : c < n) : sumI n (nextQ w q c T) = sumI n q := by
  have e : sumI n (nextQ w q c T) = sumI n (fun i => (q i + w i) + (if i = c then -T else 0)) := sumI_congr fun i _ => by unfold nextQ; split <;> omega
  rw [e, sumI_add, sumI_add, sumI_one hc, hw]; omega
theorem best_pos {n c : Nat} {w q : Nat → Int} {T : Int} (hw : sumI n w = T) (hT : 0 < T) (hb : Best n w q c) (hs : 0 ≤ sumI n q) : 0 < q c + w c := by
  have h1 : sumI n (fun i => q i + w i) ≤ sumI n (fun _ => q c + w c) := sumI_le fun i hi => hb.2 i hi
  rw [sumI_add, sumI_const, hw] at h1
  rcases Int.lt_or_le 0 (q c + w c) with h | h
  · exact h
  · have h2 : (n : Int) * (q c + w c) ≤ 0 := Int.mul_nonpos_of_nonneg_of_nonpos (by omega) h
    omega
/-- Nobody comes below L. -/
theorem low_step {n c : Nat} {w q : Nat → Int} {T L : Int} (hw : sumI n w = T) (hw0 : ∀ i, i < n → 0 ≤ w i) (hT : 0 < T) (hb : Best n w q c) (hs : 0 ≤ sumI n q) (hL : L ≤ -T) (h : ∀ i, i < n → L ≤ q i) : ∀ i, i < n → L ≤ nextQ w q c T i := by
  intro i hi
  unfold nextQ
  have h1 := h i hi
  have h2 := hw0 i hi
  by_cases e : i = c
  · subst e
    have := best_pos hw hT hb hs
    rw [if_pos rfl]; omega
  · rw [if_neg e]; omega

/-- The least multiple of all numbers up to 64. -/
def dK : Int := 1182266884102822267511361600
def dQ (j : Nat) : Int := dK / ((j : Int) + 1)
theorem dQ_all : ((List.range 64).all fun j => decide (((j : Int) + 1) * dQ j = dK) && decide (0 ≤ dQ j)) = true := by decide +kernel
theorem dQ_mul {j : Nat} (h : j < 64) : ((j : Int) + 1) * dQ j = dK := by
  have := List.all_eq_true.1 dQ_all j (by simpa using h)
  simp only [Bool.and_eq_true, decide_eq_true_eq] at this; exact this.1
theorem dQ_nn {j : Nat} (h : j < 64) : 0 ≤ dQ j := by
  have := List.all_eq_true.1 dQ_all j (by simpa using h)
  simp only [Bool.and_eq_true, decide_eq_true_eq] at this; exact this.2
/-- dK (1/(k+1) + .. + 1/n) -/
def hN (n k : Nat) : Int := sumI n fun j => if k ≤ j then dQ j else 0
theorem hN_step {n k : Nat} (h : k < n) : hN n k = hN n (k + 1) + dQ k := by
  unfold hN
  rw [← sumI_one h (dQ k), ← sumI_add]
  refine sumI_congr fun j _ => ?_
  by_cases e : j = k
  · subst e; rw [if_pos (Nat.le_refl _), if_neg (by omega), if_pos rfl]; omega
  · rw [if_neg e]
    by_cases h2 : k ≤ j
    · rw [if_pos h2, if_pos (by omega)]; omega
    · rw [if_neg h2, if_neg (by omega)]; rfl
theorem hN_nn {n k : Nat} (h : n ≤ 64) : 0 ≤ hN n k := sumI_nonneg fun j hj => by split; exact dQ_nn (by omega); exact Int.le_refl _
theorem sumI_more {m : Nat} {f : Nat → Int} (k : Nat) (h : ∀ i, i < m + k → 0 ≤ f i) : sumI m f ≤ sumI (m + k) f := by
  induction k with
  | zero => exact Int.le_refl _
  | succ k ih =>
    have h1 := ih fun i hi => h i (by omega)
    have h2 := h (m + k) (by omega)
    show sumI m f ≤ sumI (m + k) f + f (m + k)
    omega
theorem hN_64 : 4 * hN 64 1 ≤ 15 * dK := by decide +kernel
theorem hN_bound {n : Nat} (h : n ≤ 64) : 4 * hN n 1 ≤ 15 * dK := by
  have h1 : hN n 1 ≤ hN 64 1 := by
    have := sumI_more (m := n) (f := fun j => if 1 ≤ j then dQ j else 0) (64 - n) (fun i hi => by split; exact dQ_nn (by omega); exact Int.le_refl _)
    rw [show n + (64 - n) = 64 by omega] at this
    exact this
  have := hN_64
  omega
/-- Every k of them are together at most k (C + T (1/(k+1) + .. + 1/n)). -/
def Cup (n : Nat) (C T : Int) (q : Nat → Int) : Prop := ∀ (S : Nat → Bool) (k : Nat), sumS n S (fun _ => 1) = k → 1 ≤ k → dK * sumS n S q ≤ k * (C * dK + T * hN n k)
theorem Cup.start {n : Nat} {C T : Int} {q : Nat → Int} (hn : n ≤ 64) (hT : 0 ≤ T) (h : ∀ i, i < n → q i ≤ C) : Cup n C T q := fun S k hk h1 => by
  have h2 : sumS n S q ≤ C * k := by
    have := sumS_le (n := n) (S := S) (f := q) (g := fun _ => C) (fun i hi _ => h i hi)
    rwa [sumS_const, hk] at this
  have h3 : 0 ≤ (k : Int) * (T * hN n k) := Int.mul_nonneg (by omega) (Int.mul_nonneg hT (hN_nn hn))
  have h4 : dK * sumS n S q ≤ dK * (C * k) := Int.mul_le_mul_of_nonneg_left h2 (by decide)
  have h5 : dK * (C * k) = (k : Int) * (C * dK) := by rw [Int.mul_comm dK, Int.mul_comm C, Int.mul_assoc]
  rw [Int.mul_add]; omega
theorem Cup.step {n c : Nat} {C T : Int} {w q : Nat → Int} (hn : n ≤ 64) (hw : sumI n w = T) (hw0 : ∀ i, i < n → 0 ≤ w i) (hb : Best n w q c) (h : Cup n C T q) : Cup n C T (nextQ w q c T) := fun S k hk h1 => by
  have hT : 0 ≤ T := by rw [← hw]; exact sumI_nonneg hw0
  have e0 : sumS n S (nextQ w q c T) = sumS n S q + sumS n S w - (if S c then T else 0) := by
    have e : sumS n S (nextQ w q c T) = sumI n (fun i => ((if S i then q i else 0) + (if S i then w i else 0)) + (if i = c then (if S c then -T else 0) else 0)) := by
      unfold sumS
      refine sumI_congr fun i _ => ?_
      unfold nextQ
      by_cases ei : i = c
      · subst ei
        cases S i <;> simp; omega
      · rw [if_neg ei, if_neg ei]
        cases S i <;> simp
    rw [e, sumI_add, sumI_add, sumI_one hb.1]
    show sumS n S q + sumS n S w + _ = _
    cases S c <;> simp; omega
  have hwS : sumS n S w ≤ T := by rw [← hw]; exact sumS_sub hw0
  cases hS : S c with
  | true =>
    rw [hS] at e0
    simp only [if_true] at e0
    have h2 := h S k hk h1
    have h3 : dK * sumS n S (nextQ w q c T) ≤ dK * sumS n S q := Int.mul_le_mul_of_nonneg_left (by omega) (by decide)
    omega
  | false =>
    rw [hS] at e0
    simp only [Bool.false_eq_true, if_false, Int.sub_zero] at e0
    have hk2 : sumS n (fun i => S i || i == c) (fun _ => 1) = ((k + 1 : Nat) : Int) := by rw [sumS_with hb.1 hS, hk]; omega
    have hkn : k < n := by have := card_le n (fun i => S i || i == c); rw [hk2] at this; omega
    have h2 := h (fun i => S i || i == c) (k + 1) hk2 (by omega)
    rw [sumS_with hb.1 hS] at h2
    have hwS2 : sumS n S w + w c ≤ T := by
      have : sumS n (fun i => S i || i == c) w ≤ sumI n w := sumS_sub hw0
      rw [sumS_with hb.1 hS, hw] at this; exact this
    have hI : sumS n S q + sumS n S w ≤ k * (q c + w c) := by
      have := sumS_le (n := n) (S := S) (f := fun i => q i + w i) (g := fun _ => q c + w c) (fun i hi _ => hb.2 i hi)
      rw [sumS_add, sumS_const, hk, Int.mul_comm] at this; exact this
    rw [e0]
    -- names for the products
    have hq := dQ_mul (j := k) (by omega)
    rw [hN_step hkn]
    generalize hN n (k + 1) = hh at *
    generalize dQ k = dq at *
    have hd : (0 : Int) < dK := by decide
    generalize dK = D at *
    generalize sumS n S q = A at *
    generalize sumS n S w = B at *
    generalize q c = x at *
    generalize w c = y at *
    obtain ⟨K, hK⟩ : ∃ K : Int, K = (k : Int) := ⟨_, rfl⟩
    have hK0 : 0 ≤ K := by omega
    rw [← hK] at hq hI ⊢
    have hK1 : ((k + 1 : Nat) : Int) = K + 1 := by omega
    rw [hK1] at h2
    -- (K+1)(A+B) ≤ K (A + B + x + y) ≤ K (A + x + T)
    have s1 : (K + 1) * (A + B) ≤ K * (A + x + T) := by
      have a1 : (K + 1) * (A + B) = K * (A + B) + (A + B) := by rw [Int.add_mul, Int.one_mul]
      have a2 : K * (A + B) + K * (x + y) = K * (A + x + (B + y)) := by rw [← Int.mul_add]; congr 1; omega
      have a3 : K * (A + x + (B + y)) ≤ K * (A + x + T) := Int.mul_le_mul_of_nonneg_left (by omega) hK0
      omega
    have s2 : D * ((K + 1) * (A + B)) ≤ D * (K * (A + x + T)) := Int.mul_le_mul_of_nonneg_left s1 (by omega)
    have s3 : D * (K * (A + x + T)) = K * (D * (A + x)) + K * (D * T) := by rw [← Int.mul_add, ← Int.mul_add]; rw [← Int.mul_assoc, Int.mul_comm D K, Int.mul_assoc]
    have s4 : K * (D * (A + x)) ≤ K * ((K + 1) * (C * D + T * hh)) := Int.mul_le_mul_of_nonneg_left h2 hK0
    have s5 : K * (D * T) = K * ((K + 1) * (T * dq)) := by
      congr 1
      rw [← hq, Int.mul_assoc, Int.mul_comm dq T]
    have s6 : D * ((K + 1) * (A + B)) = (K + 1) * (D * (A + B)) := by rw [← Int.mul_assoc, Int.mul_comm D, Int.mul_assoc]
    have s7 : K * ((K + 1) * (C * D + T * hh)) + K * ((K + 1) * (T * dq)) = (K + 1) * (K * (C * D + T * (hh + dq))) := by
      rw [← Int.mul_add, ← Int.mul_add, ← Int.mul_assoc, Int.mul_comm K, Int.mul_assoc]
      congr 2
      rw [Int.mul_add T]; omega
    refine Int.le_of_mul_le_mul_left ?_ (show 0 < K + 1 by omega)
    rw [← s6, ← s7]
    omega
/-- Nobody comes above C and 15/4 totals. -/
theorem Cup.high {n i : Nat} {C T : Int} {q : Nat → Int} (hn : n ≤ 64) (hT : 0 ≤ T) (h : Cup n C T q) (hi : i < n) : 4 * q i ≤ 4 * C + 15 * T := by
  have h1 := h (fun j => j == i) 1 (by rw [sumS_one hi]; rfl) (Nat.le_refl _)
  rw [sumS_one hi] at h1
  have h2 := hN_bound hn
  have h3 : T * (4 * hN n 1) ≤ T * (15 * dK) := Int.mul_le_mul_of_nonneg_left h2 hT
  have hd : (0 : Int) < dK := by decide
  refine Int.le_of_mul_le_mul_left ?_ hd
  generalize dK = D at *
  generalize hN n 1 = H at *
  have e1 : D * (4 * q i) = 4 * (D * q i) := by rw [← Int.mul_assoc, Int.mul_comm D, Int.mul_assoc]
  have e2 : D * (4 * C + 15 * T) = 4 * (C * D) + T * (15 * D) := by
    rw [Int.mul_add, ← Int.mul_assoc, Int.mul_comm D 4, Int.mul_assoc, Int.mul_comm D C]
    congr 1
    rw [Int.mul_comm T, Int.mul_assoc, ← Int.mul_assoc, Int.mul_comm D 15, Int.mul_assoc]
  have e3 : T * (4 * H) = 4 * (T * H) := by rw [← Int.mul_assoc, Int.mul_comm T, Int.mul_assoc]
  rw [e1, e2]
  rw [e3] at h3
  have h1 : D * q i ≤ C * D + T * H := by simpa using h1
  omega
/-- While the chosen ones all lie outside S, S gains at each turn. -/
theorem out_step {n c : Nat} {T : Int} {S : Nat → Bool} {w q : Nat → Int} (hc : c < n) (hS : S c = false) : sumS n S (nextQ w q c T) = sumS n S q + sumS n S w := by
  rw [← sumS_add]
  unfold sumS
  refine sumI_congr fun i _ => ?_
  unfold nextQ
  by_cases e : i = c
  · subst e; simp [hS]
  · rw [if_neg e]; split <;> simp
end Go.Proofs.Ytfhjhaogmdaepaa
