/- Plain: accounts and releases: what is sound, searches by halves, sums. -/
import Derived.Test.YtfhjhaogmdaepaaCell
import Derived.Test.YtfhjhaogmdaepaaEngN
set_option linter.unusedVariables false
set_option linter.unusedSimpArgs false
namespace Go.Proofs.Ytfhjhaogmdaepaa
open Go Go.RowKit
/-- An account. -/
structure Acc where
  a : Int
  bal : Int
  bond : Int
  non : Int
  jail : Bool
def Acc.cells (x : Acc) : List Value := [.int .u64 x.a, .int .u64 x.bal, .int .u64 x.bond, .int .u64 x.non, .bool x.jail]
instance : Rec Acc := ⟨Acc.cells, 5, fun _ => rfl, fun x v hv => by
  simp only [Acc.cells, List.mem_cons, List.not_mem_nil, or_false] at hv
  rcases hv with rfl | rfl | rfl | rfl | rfl <;> rfl⟩
def acc0 : Acc := ⟨0, 0, 0, 0, false⟩
instance : Inhabited Acc := ⟨acc0⟩
theorem Acc.inj {x y : Acc} (h : x.cells = y.cells) : x = y := by
  obtain ⟨a, b, c, d, e⟩ := x; obtain ⟨a', b', c', d', e'⟩ := y
  simp only [Acc.cells, List.cons.injEq, Value.int.injEq, Value.bool.injEq, and_true, true_and] at h
  obtain ⟨rfl, rfl, rfl, rfl, rfl⟩ := h; rfl
/-- A row of bond that was let go. -/
structure Rel where
  h : Int
  a : Int
  born : Int
  amt : Int
def Rel.cells (x : Rel) : List Value := [.int .u64 x.h, .int .u64 x.a, .int .u64 x.born, .int .u64 x.amt]
instance : Rec Rel := ⟨Rel.cells, 4, fun _ => rfl, fun x v hv => by
  simp only [Rel.cells, List.mem_cons, List.not_mem_nil, or_false] at hv
  rcases hv with rfl | rfl | rfl | rfl <;> rfl⟩
def rel0 : Rel := ⟨0, 0, 0, 0⟩
instance : Inhabited Rel := ⟨rel0⟩
theorem Rel.inj {x y : Rel} (h : x.cells = y.cells) : x = y := by
  obtain ⟨a, b, c, d⟩ := x; obtain ⟨a', b', c', d'⟩ := y
  simp only [Rel.cells, List.cons.injEq, Value.int.injEq, and_true, true_and] at h
  obtain ⟨rfl, rfl, rfl, rfl⟩ := h; rfl
def u64 (x : Int) : Prop := 0 ≤ x ∧ x ≤ 18446744073709551615
def Acc.ok (x : Acc) : Prop := u64 x.a ∧ u64 x.bal ∧ u64 x.bond ∧ u64 x.non
def Rel.ok (x : Rel) : Prop := u64 x.h ∧ u64 x.a ∧ u64 x.born ∧ u64 x.amt
theorem acc0_ok : acc0.ok := ⟨⟨by decide, by decide⟩, ⟨by decide, by decide⟩, ⟨by decide, by decide⟩, ⟨by decide, by decide⟩⟩
/-- A ledger: its lists, what was burnt, how much there was. -/
structure Led where
  acc : List Acc
  rel : List Rel
  burnt : Int
  sup : Int
def led0 : Led := ⟨[], [], 0, 0⟩
def Led.ok (l : Led) : Prop := (∀ x ∈ l.acc, x.ok) ∧ (∀ x ∈ l.rel, x.ok) ∧ u64 l.burnt ∧ u64 l.sup
/-! ### The first of many errors -/
def firstE (f : Nat → Int) : Nat → Int
  | 0 => 0
  | k + 1 => if firstE f k = 0 then f k else firstE f k
theorem firstE_next {f : Nat → Int} {i : Nat} (h0 : firstE f i = 0) (hb : f i = 0) : firstE f (i + 1) = 0 := by rw [firstE, if_pos h0, hb]
theorem firstE_stay {f : Nat → Int} {k : Nat} (h : firstE f k ≠ 0) : ∀ n, firstE f (k + n) = firstE f k
  | 0 => rfl
  | n + 1 => by
    have ih := firstE_stay h n
    show firstE f (k + n + 1) = _
    rw [firstE, if_neg (by rw [ih]; exact h), ih]
theorem firstE_hit {f : Nat → Int} {i n : Nat} {e : Int} (h0 : firstE f i = 0) (hb : f i = e) (he : e ≠ 0) (hi : i < n) : firstE f n = e := by
  have h1 : firstE f (i + 1) = e := by rw [firstE, if_pos h0, hb]
  have := firstE_stay (f := f) (k := i + 1) (by rw [h1]; exact he) (n - (i + 1))
  rwa [show i + 1 + (n - (i + 1)) = n by omega, h1] at this
theorem firstE_down {f : Nat → Int} {n : Nat} (h : firstE f n = 0) : ∀ k, k ≤ n → firstE f k = 0 := fun k hk => by
  cases Classical.em (firstE f k = 0) with
  | inl h0 => exact h0
  | inr h0 =>
    have := firstE_stay h0 (n - k)
    rw [show k + (n - k) = n by omega, h] at this
    exact absurd this.symm h0
theorem firstE_at {f : Nat → Int} {n : Nat} (h : firstE f n = 0) {k : Nat} (hk : k < n) : f k = 0 := by
  have h1 := firstE_down h k (by omega)
  have h2 := firstE_down h (k + 1) (by omega)
  rwa [firstE, if_pos h1] at h2
theorem firstE_same {f g : Nat → Int} : ∀ n, (∀ i, i < n → f i = g i) → firstE f n = firstE g n
  | 0, _ => rfl
  | n + 1, h => by rw [firstE, firstE, firstE_same n fun i hi => h i (by omega), h n (by omega)]
/-! ### Accounts -/
def MS : Int := 1152921504606846975
def accAt (l : List Acc) (i : Nat) : Acc := l.getD i acc0
def relAt (l : List Rel) (i : Nat) : Rel := l.getD i rel0
theorem accAt_of {l : List Acc} {i : Nat} {x : Acc} (h : l[i]? = some x) : accAt l i = x := by unfold accAt; rw [List.getD_eq_getElem?_getD, h]; rfl
theorem relAt_of {l : List Rel} {i : Nat} {x : Rel} (h : l[i]? = some x) : relAt l i = x := by unfold relAt; rw [List.getD_eq_getElem?_getD, h]; rfl
theorem accAt_get {l : List Acc} {i : Nat} (h : i < l.length) : l[i]? = some (accAt l i) := by unfold accAt; rw [List.getD_eq_getElem?_getD, List.getElem?_eq_getElem h]; rfl
theorem relAt_get {l : List Rel} {i : Nat} (h : i < l.length) : l[i]? = some (relAt l i) := by unfold relAt; rw [List.getD_eq_getElem?_getD, List.getElem?_eq_getElem h]; rfl
theorem accAt_mem {l : List Acc} {i : Nat} (h : i < l.length) : accAt l i ∈ l := List.mem_of_getElem? (accAt_get h)
theorem relAt_mem {l : List Rel} {i : Nat} (h : i < l.length) : relAt l i ∈ l := List.mem_of_getElem? (relAt_get h)
def accBad (l : List Acc) (i : Nat) : Int := if (accAt l i).a = 0 then 85 else if 0 < i ∧ (accAt l i).a ≤ (accAt l (i - 1)).a then 42 else if MS < (accAt l i).bal ∨ MS < (accAt l i).bond then 87 else 0
def accE (l : List Acc) : Int := firstE (accBad l) l.length
def sumA (l : List Acc) : Int := (l.map fun x => x.bal + x.bond).sum
def sumR (l : List Rel) : Int := (l.map Rel.amt).sum
theorem sumA_snoc {l : List Acc} {i : Nat} {x : Acc} (h : l[i]? = some x) : sumA (l.take (i + 1)) = sumA (l.take i) + (x.bal + x.bond) := by
  rw [List.take_add_one, h]; simp [sumA]
theorem sumR_snoc {l : List Rel} {i : Nat} {x : Rel} (h : l[i]? = some x) : sumR (l.take (i + 1)) = sumR (l.take i) + x.amt := by
  rw [List.take_add_one, h]; simp [sumR]
theorem sumA_cons (x : Acc) (l : List Acc) : sumA (x :: l) = x.bal + x.bond + sumA l := by simp [sumA]
theorem sumR_cons (x : Rel) (l : List Rel) : sumR (x :: l) = x.amt + sumR l := by simp [sumR]
theorem sumA_app (l k : List Acc) : sumA (l ++ k) = sumA l + sumA k := by simp [sumA]
theorem sumR_app (l k : List Rel) : sumR (l ++ k) = sumR l + sumR k := by simp [sumR]
theorem sumA_nn {l : List Acc} (h : ∀ x ∈ l, x.ok) : 0 ≤ sumA l := by
  induction l with
  | nil => decide
  | cons x l ih =>
    rw [sumA_cons]
    have h1 := ih fun y hy => h y (by simp [hy])
    obtain ⟨_, ⟨h2, _⟩, ⟨h3, _⟩, _⟩ := h x (by simp)
    omega
theorem sumR_nn {l : List Rel} (h : ∀ x ∈ l, x.ok) : 0 ≤ sumR l := by
  induction l with
  | nil => decide
  | cons x l ih =>
    rw [sumR_cons]
    have h1 := ih fun y hy => h y (by simp [hy])
    obtain ⟨_, _, _, ⟨h3, _⟩⟩ := h x (by simp)
    omega
/-- So far each account has passed: the sum is not great. -/
theorem sumA_le {l : List Acc} : ∀ i, i ≤ l.length → firstE (accBad l) i = 0 → sumA (l.take i) ≤ 2 * MS * i
  | 0, _, _ => by simp [sumA]
  | i + 1, h, h0 => by
    have h1 := firstE_down h0 i (by omega)
    have h2 := firstE_at h0 (show i < i + 1 by omega)
    rw [sumA_snoc (accAt_get (by omega))]
    have h3 := sumA_le i (by omega) h1
    unfold accBad at h2
    split at h2
    · omega
    · split at h2
      · omega
      · split at h2
        · omega
        · have : (accAt l i).bal ≤ MS ∧ (accAt l i).bond ≤ MS := by omega
          push_cast
          rw [Int.mul_add]
          omega
structure AccFine (l : List Acc) : Prop where
  no0 : ∀ i, i < l.length → (accAt l i).a ≠ 0
  up : ∀ i, 0 < i → i < l.length → (accAt l (i - 1)).a < (accAt l i).a
  le : ∀ i, i < l.length → (accAt l i).bal ≤ MS ∧ (accAt l i).bond ≤ MS
theorem accFine_of {l : List Acc} (h : accE l = 0) : AccFine l := by
  have key : ∀ i, i < l.length → (accAt l i).a ≠ 0 ∧ (0 < i → (accAt l (i - 1)).a < (accAt l i).a) ∧ (accAt l i).bal ≤ MS ∧ (accAt l i).bond ≤ MS := fun i hi => by
    have h2 := firstE_at h hi
    unfold accBad at h2
    split at h2
    · omega
    · split at h2
      · omega
      · split at h2
        · omega
        · refine ⟨by assumption, fun hp => ?_, by omega, by omega⟩
          rename_i h4 _
          exact Int.not_le.1 fun h5 => h4 ⟨hp, h5⟩
  exact ⟨fun i hi => (key i hi).1, fun i h0 hi => (key i hi).2.1 h0, fun i hi => (key i hi).2.2⟩
theorem AccFine.mono {l : List Acc} (h : AccFine l) : ∀ i j, i < j → j < l.length → (accAt l i).a < (accAt l j).a := fun i j hij hj => by
  induction j with
  | zero => omega
  | succ j ih =>
    have h1 := h.up (j + 1) (by omega) hj
    rcases Nat.lt_or_ge i j with h2 | h2
    · exact Int.lt_trans (ih h2 (by omega)) h1
    · obtain rfl : i = j := by omega
      exact h1
/-- What New answers. -/
def newE (l : List Acc) : Int := if 65536 < l.length then 86 else if accE l ≠ 0 then accE l else if MS < sumA l then 87 else 0
def newL8 (l : List Acc) : Led := if newE l = 0 then ⟨l, [], 0, sumA l⟩ else led0
theorem newE_big {l : List Acc} (h : 65536 < l.length) : newE l = 86 := by rw [newE, if_pos h]
theorem newE_bad {l : List Acc} (h : ¬ 65536 < l.length) (hb : accE l ≠ 0) : newE l = accE l := by rw [newE, if_neg h, if_pos hb]
theorem newE_sum {l : List Acc} (h : ¬ 65536 < l.length) (hb : accE l = 0) (hs : MS < sumA l) : newE l = 87 := by rw [newE, if_neg h, if_neg (by rw [hb]; simp), if_pos hs]
theorem newE_fine {l : List Acc} (h : ¬ 65536 < l.length) (hb : accE l = 0) (hs : ¬ MS < sumA l) : newE l = 0 := by rw [newE, if_neg h, if_neg (by rw [hb]; simp), if_neg hs]
theorem newE_zero {l : List Acc} (h : newE l = 0) : l.length ≤ 65536 ∧ accE l = 0 ∧ sumA l ≤ MS := by
  unfold newE at h
  split at h
  · omega
  · split at h
    · exact absurd h (by assumption)
    · split at h
      · omega
      · exact ⟨by omega, Classical.not_not.1 (by assumption), by omega⟩
theorem newL8_bad {l : List Acc} (h : newE l ≠ 0) : newL8 l = led0 := if_neg h
theorem newL8_fine {l : List Acc} (h : newE l = 0) : newL8 l = ⟨l, [], 0, sumA l⟩ := if_pos h
/-! ### Sums that stop -/
def addC (t x : Int) : Int := if MS < t ∨ MS < x then MS + 1 else t + x
def capF (t : Int) : List Int → Int
  | [] => t
  | x :: l => capF (addC t x) l
theorem capF_app (t : Int) (l k : List Int) : capF t (l ++ k) = capF (capF t l) k := by
  induction l generalizing t with
  | nil => rfl
  | cons x l ih => exact ih _
theorem capF_big {t : Int} (h : MS < t) : ∀ l, MS < capF t l
  | [] => h
  | x :: l => capF_big (t := addC t x) (by unfold addC; rw [if_pos (.inl h)]; omega) l
theorem capF_spec {l : List Int} (h : ∀ x ∈ l, 0 ≤ x) : ∀ t, 0 ≤ t → (capF t l ≤ MS ↔ t + l.sum ≤ MS) ∧ (capF t l ≤ MS → capF t l = t + l.sum) := by
  induction l with
  | nil => intro t _; simp [capF]
  | cons x l ih =>
    intro t ht
    have hx := h x (by simp)
    have hs : 0 ≤ l.sum := by
      have : ∀ k : List Int, (∀ y ∈ k, 0 ≤ y) → 0 ≤ k.sum := by
        intro k
        induction k with
        | nil => intro _; decide
        | cons y k ihk => intro hk; rw [List.sum_cons]; have := ihk fun z hz => hk z (by simp [hz]); have := hk y (by simp); omega
      exact this l fun y hy => h y (by simp [hy])
    rw [List.sum_cons]
    show (capF (addC t x) l ≤ MS ↔ _) ∧ (capF (addC t x) l ≤ MS → capF (addC t x) l = _)
    unfold addC
    split
    · have := capF_big (t := MS + 1) (by omega) l
      refine ⟨⟨fun h => by omega, fun h => by omega⟩, fun h => by omega⟩
    · obtain ⟨h1, h2⟩ := ih (fun y hy => h y (by simp [hy])) (t + x) (by omega)
      rw [← Int.add_assoc]
      exact ⟨h1, h2⟩
/-! ### Searches by halves -/
def bsI (p : Nat → Bool) : Nat → Nat → Nat → Nat
  | 0, lo, _ => lo
  | f + 1, lo, hi => if lo < hi then (if p ((lo + hi) / 2) = true then bsI p f ((lo + hi) / 2 + 1) hi else bsI p f lo ((lo + hi) / 2)) else lo
theorem bsI_fuel (p : Nat → Bool) : ∀ (f g lo hi : Nat), hi - lo ≤ f → hi - lo ≤ g → bsI p f lo hi = bsI p g lo hi
  | 0, 0, _, _, _, _ => rfl
  | 0, g + 1, lo, hi, h, _ => by rw [bsI, bsI, if_neg (by omega)]
  | f + 1, 0, lo, hi, _, h => by rw [bsI, bsI, if_neg (by omega)]
  | f + 1, g + 1, lo, hi, h1, h2 => by
    rw [bsI, bsI]
    split
    · split
      · exact bsI_fuel p f g _ _ (by omega) (by omega)
      · exact bsI_fuel p f g _ _ (by omega) (by omega)
    · rfl
def bsN (p : Nat → Bool) (lo hi : Nat) : Nat := bsI p (hi - lo) lo hi
theorem bsN_end {p : Nat → Bool} {lo hi : Nat} (h : ¬ lo < hi) : bsN p lo hi = lo := by
  unfold bsN; rw [show hi - lo = 0 by omega]; rfl
theorem bsN_up {p : Nat → Bool} {lo hi : Nat} (h : lo < hi) (hp : p ((lo + hi) / 2) = true) : bsN p lo hi = bsN p ((lo + hi) / 2 + 1) hi := by
  unfold bsN
  obtain ⟨f, hf⟩ : ∃ f, hi - lo = f + 1 := ⟨hi - lo - 1, by omega⟩
  rw [hf, bsI, if_pos h, if_pos hp]
  exact bsI_fuel p _ _ _ _ (by omega) (by omega)
theorem bsN_down {p : Nat → Bool} {lo hi : Nat} (h : lo < hi) (hp : p ((lo + hi) / 2) = false) : bsN p lo hi = bsN p lo ((lo + hi) / 2) := by
  unfold bsN
  obtain ⟨f, hf⟩ : ∃ f, hi - lo = f + 1 := ⟨hi - lo - 1, by omega⟩
  rw [hf, bsI, if_pos h, if_neg (by rw [hp]; decide)]
  exact bsI_fuel p _ _ _ _ (by omega) (by omega)
theorem bsN_bound (p : Nat → Bool) : ∀ (f lo hi : Nat), hi - lo ≤ f → lo ≤ hi → lo ≤ bsN p lo hi ∧ bsN p lo hi ≤ hi
  | 0, lo, hi, h, h2 => by rw [bsN_end (by omega)]; omega
  | f + 1, lo, hi, h, h2 => by
    rcases Nat.lt_or_ge lo hi with hl | hl
    · cases hp : p ((lo + hi) / 2) with
      | true => rw [bsN_up hl hp]; have := bsN_bound p f ((lo + hi) / 2 + 1) hi (by omega) (by omega); omega
      | false => rw [bsN_down hl hp]; have := bsN_bound p f lo ((lo + hi) / 2) (by omega) (by omega); omega
    · rw [bsN_end (by omega)]; omega
/-- Where what is asked is true ahead of a place and false from there on, that place is found. -/
theorem bsN_spec {p : Nat → Bool} : ∀ (f lo hi : Nat), hi - lo ≤ f → lo ≤ hi → (∀ i j, lo ≤ i → i < j → j < hi → p j = true → p i = true) → (∀ i, lo ≤ i → i < bsN p lo hi → p i = true) ∧ (∀ i, bsN p lo hi ≤ i → i < hi → p i = false)
  | 0, lo, hi, h, h2, _ => by rw [bsN_end (by omega)]; exact ⟨fun i _ _ => by omega, fun i _ _ => by omega⟩
  | f + 1, lo, hi, h, h2, hm => by
    rcases Nat.lt_or_ge lo hi with hl | hl
    · cases hp : p ((lo + hi) / 2) with
      | true =>
        rw [bsN_up hl hp]
        obtain ⟨h3, h4⟩ := bsN_spec f ((lo + hi) / 2 + 1) hi (by omega) (by omega) fun i j hi' => hm i j (by omega)
        refine ⟨fun i h5 h6 => ?_, h4⟩
        rcases Nat.lt_trichotomy i ((lo + hi) / 2) with h7 | h7 | h7
        · exact hm i _ h5 h7 (by omega) hp
        · rw [h7]; exact hp
        · exact h3 i (by omega) h6
      | false =>
        rw [bsN_down hl hp]
        obtain ⟨h3, h4⟩ := bsN_spec f lo ((lo + hi) / 2) (by omega) (by omega) fun i j h1 h2' h3' => hm i j h1 h2' (by omega)
        refine ⟨h3, fun i h5 h6 => ?_⟩
        rcases Nat.lt_trichotomy i ((lo + hi) / 2) with h7 | h7 | h7
        · exact h4 i h5 h7
        · rw [h7]; exact hp
        · cases hq : p i with
          | false => rfl
          | true => rw [hm ((lo + hi) / 2) i (by omega) h7 h6 hq] at hp; cases hp
    · rw [bsN_end (by omega)]; exact ⟨fun i _ _ => by omega, fun i _ _ => by omega⟩
/-- Where an account stands, or would stand. -/
def spotI (l : List Acc) (a : Int) : Nat := bsN (fun i => decide ((accAt l i).a < a)) 0 l.length
def spotB (l : List Acc) (a : Int) : Bool := decide (spotI l a < l.length) && decide ((accAt l (spotI l a)).a = a)
def placeI (l : List Acc) (a : Int) : Int := if spotB l a = true then (spotI l a : Int) else -1
theorem spotI_le (l : List Acc) (a : Int) : spotI l a ≤ l.length := (bsN_bound _ _ 0 l.length (Nat.le_refl _) (Nat.zero_le _)).2
theorem spot_fine {l : List Acc} (h : AccFine l) (a : Int) : (∀ i, i < spotI l a → (accAt l i).a < a) ∧ (∀ i, spotI l a ≤ i → i < l.length → a ≤ (accAt l i).a) := by
  obtain ⟨h1, h2⟩ := bsN_spec (p := fun i => decide ((accAt l i).a < a)) l.length 0 l.length (Nat.le_refl _) (Nat.zero_le _) fun i j _ hij hj hp => decide_eq_true (Int.lt_trans (h.mono i j hij hj) (of_decide_eq_true hp))
  exact ⟨fun i hi => of_decide_eq_true (h1 i (Nat.zero_le _) hi), fun i hi hn => Int.not_lt.1 (of_decide_eq_false (h2 i hi hn))⟩
/-- The account of an address, by going through all of them. -/
def findI (l : List Acc) (a : Int) : Option Nat := if a = 0 then none else l.findIdx? fun x => decide (x.a = a)
theorem spotB_iff {l : List Acc} (h : AccFine l) (a : Int) : spotB l a = true ↔ ∃ i, i < l.length ∧ (accAt l i).a = a := by
  unfold spotB
  rw [Bool.and_eq_true, decide_eq_true_eq, decide_eq_true_eq]
  refine ⟨fun ⟨h1, h2⟩ => ⟨_, h1, h2⟩, fun ⟨i, h1, h2⟩ => ?_⟩
  obtain ⟨h3, h4⟩ := spot_fine h a
  have h5 : spotI l a ≤ i := Nat.not_lt.1 fun h5 => by have := h3 i h5; omega
  have h6 : spotI l a < l.length := by omega
  refine ⟨h6, ?_⟩
  have h7 := h4 _ (Nat.le_refl _) h6
  rcases Nat.lt_or_ge (spotI l a) i with h8 | h8
  · have := h.mono _ _ h8 h1; omega
  · rw [show spotI l a = i by omega]; exact h2
theorem AccFine.uniq {l : List Acc} (h : AccFine l) {i j : Nat} (hi : i < l.length) (hj : j < l.length) (e : (accAt l i).a = (accAt l j).a) : i = j := by
  rcases Nat.lt_trichotomy i j with h1 | h1 | h1
  · have := h.mono i j h1 hj; omega
  · exact h1
  · have := h.mono j i h1 hi; omega
theorem spotI_eq {l : List Acc} (h : AccFine l) {a : Int} {i : Nat} (hi : i < l.length) (e : (accAt l i).a = a) : spotI l a = i := by
  have hb := (spotB_iff h a).2 ⟨i, hi, e⟩
  unfold spotB at hb
  rw [Bool.and_eq_true, decide_eq_true_eq, decide_eq_true_eq] at hb
  exact h.uniq hb.1 hi (hb.2.trans e.symm)
/-! ### Releases -/
def laterB (x y : Rel) : Bool := decide (y.h < x.h) || (decide (x.h = y.h) && decide (y.a < x.a))
def relBad (l : List Acc) (r : List Rel) (i : Nat) : Int :=
  if spotB l (relAt r i).a = false then 85 else if 1099511627776 < (relAt r i).born ∨ (relAt r i).h < (relAt r i).born ∨ 1103806595072 < (relAt r i).h then 2
  else if 0 < i ∧ laterB (relAt r i) (relAt r (i - 1)) = false then 42 else if (relAt r i).amt = 0 ∨ MS < (relAt r i).amt then 87 else 0
def relE (l : List Acc) (r : List Rel) : Int := firstE (relBad l r) r.length
def lsoundE (l : Led) : Int := if 65536 < l.acc.length ∨ 65536 < l.rel.length then 86 else if accE l.acc ≠ 0 then accE l.acc else if relE l.acc l.rel ≠ 0 then relE l.acc l.rel
  else if MS < l.sup ∨ l.burnt + sumA l.acc + sumR l.rel ≠ l.sup then 87 else 0
theorem sumR_le {a : List Acc} {l : List Rel} : ∀ i, i ≤ l.length → firstE (relBad a l) i = 0 → sumR (l.take i) ≤ MS * i
  | 0, _, _ => by simp [sumR]
  | i + 1, h, h0 => by
    have h1 := firstE_down h0 i (by omega)
    have h2 := firstE_at h0 (show i < i + 1 by omega)
    rw [sumR_snoc (relAt_get (by omega))]
    have h3 := sumR_le i (by omega) h1
    have : (relAt l i).amt ≤ MS := by
      unfold relBad at h2
      split at h2
      · omega
      · split at h2
        · omega
        · split at h2
          · omega
          · split at h2 <;> omega
    push_cast
    rw [Int.mul_add]
    omega
structure LedFine (l : Led) : Prop where
  few : l.acc.length ≤ 65536
  few' : l.rel.length ≤ 65536
  acc : accE l.acc = 0
  rel : relE l.acc l.rel = 0
  sup : l.sup ≤ MS
  sum : l.burnt + sumA l.acc + sumR l.rel = l.sup
theorem ledFine_of {l : Led} (h : lsoundE l = 0) : LedFine l := by
  unfold lsoundE at h
  split at h
  · omega
  · split at h
    · exact absurd h (by assumption)
    · split at h
      · exact absurd h (by assumption)
      · split at h
        · omega
        · rename_i h1 h2 h3 h4
          exact ⟨by omega, by omega, Classical.not_not.1 h2, Classical.not_not.1 h3, by omega, Classical.not_not.1 fun h5 => h4 (.inr h5)⟩
theorem LedFine.zero {l : Led} (h : LedFine l) : lsoundE l = 0 := by
  unfold lsoundE
  rw [if_neg (by have := h.few; have := h.few'; omega), if_neg (by rw [h.acc]; simp), if_neg (by rw [h.rel]; simp), if_neg (by rw [h.sum]; have := h.sup; omega)]
theorem sound_new {l : List Acc} (h : newE l = 0) (hok : ∀ x ∈ l, x.ok) : LedFine ⟨l, [], 0, sumA l⟩ := by
  obtain ⟨h1, h2, h3⟩ := newE_zero h
  exact ⟨h1, Nat.zero_le _, h2, rfl, h3, by simp [sumR]⟩
end Go.Proofs.Ytfhjhaogmdaepaa
