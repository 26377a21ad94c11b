/- Plain: merging in place: two blocks exchanged, rotations, binary searches, what a merge leaves. -/
import Derived.Sort.AssemblyPlain
set_option linter.unusedVariables false
set_option linter.unusedSimpArgs false
set_option linter.unusedSectionVars false
namespace Go.Proofs.Ytfhjhaogmdaepaa
open Go Go.Sort
section
variable {α : Type} [Inhabited α]
/-- The first n places of two blocks are exchanged. -/
def swR (d : Array α) (a b : Nat) : Nat → Array α
  | 0 => d
  | n + 1 => swp (swR d a b n) (a + n) (b + n)
def swI (a b n k : Nat) : Nat := if a ≤ k ∧ k < a + n then k - a + b else if b ≤ k ∧ k < b + n then k - b + a else k
theorem swR_size (d : Array α) (a b n : Nat) : (swR d a b n).size = d.size := by
  induction n with
  | zero => rfl
  | succ n ih => rw [swR, swp_size, ih]
theorem swR_get (d : Array α) (a b : Nat) : ∀ (n k : Nat), a + n ≤ b → b + n ≤ d.size → (swR d a b n)[k]! = d[swI a b n k]!
  | 0, k, _, _ => by
    have : swI a b 0 k = k := by unfold swI; split <;> (try omega); split <;> omega
    rw [this]; rfl
  | n + 1, k, h1, h2 => by
    rw [swR, swp_get _ (by rw [swR_size]; omega) (by rw [swR_size]; omega), swR_get d a b n _ (by omega) (by omega), swR_get d a b n _ (by omega) (by omega), swR_get d a b n _ (by omega) (by omega)]
    split
    · rename_i hk; congr 1; unfold swI; (repeat' split) <;> omega
    · split
      · rename_i hk; congr 1; unfold swI; (repeat' split) <;> omega
      · congr 1; unfold swI; (repeat' split) <;> omega
theorem swR_perm (d : Array α) (a b lo hi : Nat) (hlo : lo ≤ a) (hs : hi ≤ d.size) : ∀ n, a + n ≤ b → b + n ≤ hi → PermIn lo hi d (swR d a b n)
  | 0, _, _ => permIn_refl _ _ _
  | n + 1, h1, h2 => permIn_trans _ _ _ _ _ (swR_perm d a b lo hi hlo hs n (by omega) (by omega)) (swp_permIn _ _ _ _ _ (by omega) (by omega) (by omega) (by omega) (by rw [swR_size]; exact hs))
/-- Where what stands at a place behind a rotation has stood. -/
def rotI (a m b k : Nat) : Nat := if a ≤ k ∧ k < a + (b - m) then k - a + m else if a + (b - m) ≤ k ∧ k < b then k - (b - m) else k
/-- d' is d with the blocks [a, m) and [m, b) in the other order. -/
def Rot (a m b : Nat) (d d' : Array α) : Prop := d'.size = d.size ∧ ∀ k, d'[k]! = d[rotI a m b k]!
theorem Rot.left {i j m : Nat} {d d' : Array α} (hj : 0 < j) (hij : j < i) (him : i ≤ m) (hs : m + j ≤ d.size) (h : Rot (m - (i - j)) m (m + j) (swR d (m - i) m j) d') : Rot (m - i) m (m + j) d d' := by
  refine ⟨by rw [h.1, swR_size], fun k => ?_⟩
  rw [h.2, swR_get _ _ _ _ _ (by omega) (by omega)]
  congr 1; unfold rotI swI; (repeat' split) <;> omega
theorem Rot.right {i j m : Nat} {d d' : Array α} (hi : 0 < i) (hij : i < j) (him : i ≤ m) (hs : m + j ≤ d.size) (h : Rot (m - i) m (m + (j - i)) (swR d (m - i) (m + j - i) i) d') : Rot (m - i) m (m + j) d d' := by
  refine ⟨by rw [h.1, swR_size], fun k => ?_⟩
  rw [h.2, swR_get _ _ _ _ _ (by omega) (by omega)]
  congr 1; unfold rotI swI; (repeat' split) <;> omega
theorem Rot.same {i m : Nat} {d : Array α} (him : i ≤ m) (hs : m + i ≤ d.size) : Rot (m - i) m (m + i) d (swR d (m - i) m i) := by
  refine ⟨swR_size _ _ _ _, fun k => ?_⟩
  rw [swR_get _ _ _ _ _ (by omega) (by omega)]
  congr 1; unfold rotI swI; (repeat' split) <;> omega
/-- What stands at a goes n places to the right. -/
def shR (d : Array α) (a : Nat) : Nat → Array α
  | 0 => d
  | n + 1 => swp (shR d a n) (a + n) (a + n + 1)
theorem shR_size (d : Array α) (a n : Nat) : (shR d a n).size = d.size := by
  induction n with
  | zero => rfl
  | succ n ih => rw [shR, swp_size, ih]
theorem shR_get (d : Array α) (a : Nat) : ∀ (n k : Nat), a + n < d.size → (shR d a n)[k]! = if a ≤ k ∧ k < a + n then d[k + 1]! else if k = a + n then d[a]! else d[k]!
  | 0, k, _ => by
    rw [if_neg (by omega), shR]
    split
    · rename_i h; rw [h]; rfl
    · rfl
  | n + 1, k, h => by
    rw [shR, swp_get _ (by rw [shR_size]; omega) (by rw [shR_size]; omega), shR_get d a n _ (by omega), shR_get d a n _ (by omega), shR_get d a n _ (by omega)]
    rcases Nat.lt_trichotomy k (a + n) with hk | hk | hk
    · rw [if_neg (by omega), if_neg (by omega)]
      by_cases h2 : a ≤ k
      · rw [if_pos ⟨h2, hk⟩, if_pos ⟨h2, by omega⟩]
      · rw [if_neg (by omega), if_neg (by omega), if_neg (by omega), if_neg (by omega)]
    · subst hk
      rw [if_neg (by omega), if_pos rfl, if_neg (by omega), if_neg (by omega), if_pos ⟨by omega, by omega⟩]
    · rcases Nat.lt_or_ge (a + n + 1) k with h2 | h2
      · rw [if_neg (by omega), if_neg (by omega), if_neg (by omega), if_neg (by omega), if_neg (by omega), if_neg (by omega)]
      · obtain rfl : k = a + n + 1 := by omega
        rw [if_pos rfl, if_neg (by omega), if_pos rfl, if_neg (by omega), if_pos (by omega)]
theorem shR_perm (d : Array α) (a lo hi : Nat) (hlo : lo ≤ a) (hs : hi ≤ d.size) : ∀ n, a + n < hi → PermIn lo hi d (shR d a n)
  | 0, _ => permIn_refl _ _ _
  | n + 1, h => permIn_trans _ _ _ _ _ (shR_perm d a lo hi hlo hs n (by omega)) (swp_permIn _ _ _ _ _ (by omega) (by omega) (by omega) (by omega) (by rw [shR_size]; exact hs))
/-- What stands at m goes n places to the left. -/
def shL (d : Array α) (m : Nat) : Nat → Array α
  | 0 => d
  | n + 1 => swp (shL d m n) (m - n) (m - n - 1)
theorem shL_size (d : Array α) (m n : Nat) : (shL d m n).size = d.size := by
  induction n with
  | zero => rfl
  | succ n ih => rw [shL, swp_size, ih]
theorem shL_get (d : Array α) (m : Nat) : ∀ (n k : Nat), n ≤ m → m < d.size → (shL d m n)[k]! = if m - n < k ∧ k ≤ m then d[k - 1]! else if k = m - n then d[m]! else d[k]!
  | 0, k, _, _ => by
    rw [if_neg (by omega), shL]
    split
    · rename_i h; rw [h]; rfl
    · rfl
  | n + 1, k, h, hm => by
    rw [shL, swp_get _ (by rw [shL_size]; omega) (by rw [shL_size]; omega), shL_get d m n _ (by omega) hm, shL_get d m n _ (by omega) hm, shL_get d m n _ (by omega) hm]
    rcases Nat.lt_trichotomy k (m - n) with hk | hk | hk
    · rcases Nat.lt_or_ge k (m - n - 1) with h2 | h2
      · rw [if_neg (by omega), if_neg (by omega), if_neg (by omega), if_neg (by omega), if_neg (by omega), if_neg (by omega)]
      · obtain rfl : k = m - n - 1 := by omega
        rw [if_pos rfl, if_neg (by omega), if_pos rfl, if_neg (by omega), if_pos (by omega)]
    · subst hk
      rw [if_neg (by omega), if_pos rfl, if_neg (by omega), if_neg (by omega), if_pos ⟨by omega, by omega⟩]
    · rw [if_neg (by omega), if_neg (by omega)]
      by_cases h2 : k ≤ m
      · rw [if_pos ⟨hk, h2⟩, if_pos ⟨by omega, h2⟩]
      · rw [if_neg (by omega), if_neg (by omega), if_neg (by omega), if_neg (by omega)]
theorem shL_perm (d : Array α) (m lo hi : Nat) (hm : m < hi) (hs : hi ≤ d.size) : ∀ n, lo + n ≤ m → PermIn lo hi d (shL d m n)
  | 0, _ => permIn_refl _ _ _
  | n + 1, h => permIn_trans _ _ _ _ _ (shL_perm d m lo hi hm hs n (by omega)) (swp_permIn _ _ _ _ _ (by omega) (by omega) (by omega) (by omega) (by rw [shL_size]; exact hs))
/-! ### Merging -/
variable {lt : α → α → Bool}
theorem sortSub {a b c e : Nat} {d : Array α} (h : SortedIn lt a b d) (h1 : a ≤ c) (h2 : e ≤ b) : SortedIn lt c e d := fun i j hi hij hj => h i j (by omega) hij (by omega)
theorem sortEq {a b : Nat} {d d' : Array α} (h : SortedIn lt a b d) (e : ∀ k, a ≤ k → k < b → d'[k]! = d[k]!) : SortedIn lt a b d' := fun i j hi hij hj => by rw [e i hi (by omega), e j (by omega) hj]; exact h i j hi hij hj
theorem sorted_one {a b : Nat} {d : Array α} (h : b ≤ a + 1) : SortedIn lt a b d := fun i j _ _ _ => by omega
/-- What is not less than something is not less than what stands ahead of that. -/
theorem lt_down (hS : SWO lt) {x y z : α} (h1 : lt y x = false) (h2 : lt y z = true) : lt x z = true := by
  cases h : lt x z with
  | true => rfl
  | false => rw [hS.ntrans _ _ _ h1 h] at h2; cases h2
theorem lt_up (hS : SWO lt) {x y z : α} (h1 : lt y x = false) (h2 : lt z x = true) : lt z y = true := by
  cases h : lt z y with
  | true => rfl
  | false => rw [hS.ntrans _ _ _ h h1] at h2; cases h2
/-- One element, [a], is brought in among [a + 1, b): it goes to i - 1. -/
theorem merge_one (hS : SWO lt) {a i b : Nat} {d d' : Array α} (ha : a + 1 ≤ i) (hib : i ≤ b) (hs : SortedIn lt (a + 1) b d)
    (hl : ∀ c, a + 1 ≤ c → c < i → lt d[c]! d[a]! = true) (hr : ∀ c, i ≤ c → c < b → lt d[c]! d[a]! = false)
    (h1 : ∀ k, a ≤ k → k < i - 1 → d'[k]! = d[k + 1]!) (h2 : d'[i - 1]! = d[a]!) (h3 : ∀ k, i ≤ k → k < b → d'[k]! = d[k]!) : SortedIn lt a b d' := fun p q hp hpq hq => by
  rcases Nat.lt_trichotomy q (i - 1) with hqi | hqi | hqi
  · rw [h1 p hp (by omega), h1 q (by omega) hqi]; exact hs _ _ (by omega) (by omega) (by omega)
  · subst hqi; rw [h2, h1 p hp hpq]; exact hS.asymmA (hl _ (by omega) (by omega))
  · rw [h3 q (by omega) hq]
    rcases Nat.lt_trichotomy p (i - 1) with hpi | hpi | hpi
    · rw [h1 p hp hpi]; exact hs _ _ (by omega) (by omega) hq
    · subst hpi; rw [h2]; exact hr q (by omega) hq
    · rw [h3 p (by omega) (by omega)]; exact hs _ _ (by omega) hpq hq
/-- One element, [m], is brought in among [a, m): it goes to i. -/
theorem merge_last (hS : SWO lt) {a i m : Nat} {d d' : Array α} (ha : a ≤ i) (him : i ≤ m) (hs : SortedIn lt a m d)
    (hl : ∀ c, a ≤ c → c < i → lt d[m]! d[c]! = false) (hr : ∀ c, i ≤ c → c < m → lt d[m]! d[c]! = true)
    (h1 : ∀ k, i < k → k ≤ m → d'[k]! = d[k - 1]!) (h2 : d'[i]! = d[m]!) (h3 : ∀ k, a ≤ k → k < i → d'[k]! = d[k]!) : SortedIn lt a (m + 1) d' := fun p q hp hpq hq => by
  rcases Nat.lt_trichotomy q i with hqi | hqi | hqi
  · rw [h3 p hp (by omega), h3 q (by omega) hqi]; exact hs _ _ hp hpq (by omega)
  · subst hqi; rw [h2, h3 p hp hpq]; exact hl p hp hpq
  · rw [h1 q hqi (by omega)]
    rcases Nat.lt_trichotomy p i with hpi | hpi | hpi
    · rw [h3 p hp hpi]; exact hs _ _ hp (by omega) (by omega)
    · subst hpi; rw [h2]; exact hS.asymmA (hr _ (by omega) (by omega))
    · rw [h1 p hpi (by omega)]; exact hs _ _ (by omega) (by omega) (by omega)
theorem swp_permIn' {d : Array α} {a b i j : Nat} (h1 : a ≤ i ∧ i < b) (h2 : a ≤ j ∧ j < b) (h3 : b ≤ d.size) : PermIn a b d (swp d i j) := swp_permIn d a b i j h1.1 h1.2 h2.1 h2.2 h3
theorem permTr {d d' d'' : Array α} {a b : Nat} (h : PermIn a b d d') (k : PermIn a b d' d'') : PermIn a b d d'' := permIn_trans _ _ _ _ _ h k
theorem permMono {d d' : Array α} {a b a' b' : Nat} (h : PermIn a b d d') (ha : a' ≤ a) (hb : b ≤ b') (hs : b' ≤ d.size) : PermIn a' b' d d' := permIn_mono _ _ _ _ _ _ ha hb hs h
/-- The two halves of a merge: what is left of the middle against what is right of it, behind the rotation. -/
theorem merge_parts (hS : SWO lt) {a m b mid st : Nat} {d d1 : Array α} (ham : a < m) (hmb : m < b) (hbs : b ≤ d.size) (hmid : mid = (a + b) / 2)
    (hL : SortedIn lt a m d) (hR : SortedIn lt m b d) (h0 : (if m > mid then mid + m - b else a) ≤ st) (h1 : st ≤ (if m > mid then mid else m))
    (hl : ∀ c, (if m > mid then mid + m - b else a) ≤ c → c < st → lt d[mid + m - 1 - c]! d[c]! = false) (hr : ∀ c, st ≤ c → c < (if m > mid then mid else m) → lt d[mid + m - 1 - c]! d[c]! = true)
    (hrot : Rot st m (mid + m - st) d d1) :
    SortedIn lt a st d1 ∧ SortedIn lt st mid d1 ∧ SortedIn lt mid (mid + m - st) d1 ∧ SortedIn lt (mid + m - st) b d1 ∧ ∀ p q, a ≤ p → p < mid → mid ≤ q → q < b → lt d1[q]! d1[p]! = false := by
  have e : ∀ k, d1[k]! = d[rotI st m (mid + m - st) k]! := hrot.2
  have hst : st ≤ m ∧ st ≤ mid ∧ a ≤ st := by split at h0 <;> split at h1 <;> omega
  have hend : m ≤ mid + m - st ∧ mid + m - st ≤ b := by split at h0 <;> split at h1 <;> omega
  have r1 : ∀ k, k < st → rotI st m (mid + m - st) k = k := fun k hk => by unfold rotI; (repeat' split) <;> omega
  have r2 : ∀ k, st ≤ k → k < mid → rotI st m (mid + m - st) k = k - st + m := fun k h1 h2 => by unfold rotI; (repeat' split) <;> omega
  have r3 : ∀ k, mid ≤ k → k < mid + m - st → rotI st m (mid + m - st) k = k - mid + st := fun k h1 h2 => by unfold rotI; (repeat' split) <;> omega
  have r4 : ∀ k, mid + m - st ≤ k → rotI st m (mid + m - st) k = k := fun k h1 => by unfold rotI; (repeat' split) <;> omega
  -- what is known at the border
  have b1 : a < st → mid + m - st < b → lt d[mid + m - st]! d[st - 1]! = false := fun h2 h3 => by
    have := hl (st - 1) (by split <;> rename_i hm <;> (first | rw [if_pos hm] at h0 | rw [if_neg hm] at h0) <;> omega) (by omega)
    rwa [show mid + m - 1 - (st - 1) = mid + m - st by omega] at this
  have b2 : st < m → st < mid → lt d[mid + m - 1 - st]! d[st]! = true := fun h2 h3 => hr st (Nat.le_refl _) (by split <;> omega)
  refine ⟨?_, ?_, ?_, ?_, ?_⟩
  · intro i j hi hij hj; rw [e, e, r1 i (by omega), r1 j (by omega)]; exact hL i j hi hij (by omega)
  · intro i j hi hij hj; rw [e, e, r2 i hi (by omega), r2 j (by omega) hj]; exact hR _ _ (by omega) (by omega) (by omega)
  · intro i j hi hij hj; rw [e, e, r3 i hi (by omega), r3 j (by omega) hj]; exact hL _ _ (by omega) (by omega) (by omega)
  · intro i j hi hij hj; rw [e, e, r4 i hi, r4 j (by omega)]; exact hR _ _ (by omega) hij hj
  · intro p q hp hpm hq hqb
    rw [e, e]
    have le_ : ∀ i j, a ≤ i → i ≤ j → j < m → lt d[j]! d[i]! = false := fun i j h1 h2 h3 => by
      rcases Nat.lt_or_ge i j with h | h
      · exact hL i j h1 h h3
      · obtain rfl : i = j := by omega
        exact hS.irrefl _
    have re_ : ∀ i j, m ≤ i → i ≤ j → j < b → lt d[j]! d[i]! = false := fun i j h1 h2 h3 => by
      rcases Nat.lt_or_ge i j with h | h
      · exact hR i j h1 h h3
      · obtain rfl : i = j := by omega
        exact hS.irrefl _
    rcases Nat.lt_or_ge p st with hps | hps
    · rw [r1 p hps]
      rcases Nat.lt_or_ge q (mid + m - st) with hqe | hqe
      · rw [r3 q hq hqe]; exact le_ _ _ hp (by omega) (by omega)
      · rw [r4 q hqe]
        have h5 := b1 (by omega) (by omega)
        exact hS.ntrans _ _ _ (re_ (mid + m - st) q (by omega) hqe hqb) (hS.ntrans _ _ _ h5 (le_ p (st - 1) hp (by omega) (by omega)))
    · rw [r2 p hps hpm]
      rcases Nat.lt_or_ge q (mid + m - st) with hqe | hqe
      · rw [r3 q hq hqe]
        have h5 := hS.asymmA (b2 (by omega) (by omega))
        exact hS.ntrans _ _ _ (le_ st _ (by omega) (by omega) (by omega)) (hS.ntrans _ _ _ h5 (re_ _ (mid + m - 1 - st) (by omega) (by omega) (by omega)))
      · rw [r4 q hqe]; exact re_ _ _ (by omega) (by omega) hqb
theorem Rot.triv {a m b : Nat} {d : Array α} (h : a = m ∨ m = b) (hab : a ≤ m) (hmb : m ≤ b) : Rot a m b d d := ⟨rfl, fun k => by congr 1; unfold rotI; (repeat' split) <;> omega⟩
theorem arr_get {d : Array α} {i : Nat} (h : i < d.size) : d.toList[i]? = some d[i]! := by
  rw [Array.getElem?_toList, Array.getElem?_eq_getElem h, getElem!_pos d i h]
theorem swp_toList (d : Array α) (i j : Nat) : (swp d i j).toList = (d.toList.set i d[j]!).set j d[i]! := by simp [swp]
/-- Sorted halves, of which the left one is not above the right one. -/
theorem merge_join {a mid b : Nat} {d : Array α} (h1 : SortedIn lt a mid d) (h2 : SortedIn lt mid b d) (h3 : ∀ p q, a ≤ p → p < mid → mid ≤ q → q < b → lt d[q]! d[p]! = false) : SortedIn lt a b d := fun p q hp hpq hq => by
  rcases Nat.lt_or_ge q mid with h | h
  · exact h1 p q hp hpq h
  · rcases Nat.lt_or_ge p mid with h' | h'
    · exact h3 p q hp h' h hq
    · exact h2 p q h' hpq hq
/-- What holds between two stretches still holds when each is brought into another order. -/
theorem between_perm {a mid b : Nat} {d d' : Array α} (hs : b ≤ d.size) (hm : mid ≤ b) (h : ∀ p q, a ≤ p → p < mid → mid ≤ q → q < b → lt d[q]! d[p]! = false)
    (hp : PermIn a mid d d') : ∀ p q, a ≤ p → p < mid → mid ≤ q → q < b → lt d'[q]! d'[p]! = false := fun p q h1 h2 h3 h4 => by
  rw [hp.2.1 q (.inr h3)]
  exact permIn_all d d' a mid (fun x => lt d[q]! x = false) (by omega) hp (fun i hi hi' => h i q hi hi' h3 h4) p h1 h2
theorem between_perm' {a mid b : Nat} {d d' : Array α} (hs : b ≤ d.size) (h : ∀ p q, a ≤ p → p < mid → mid ≤ q → q < b → lt d[q]! d[p]! = false)
    (hp : PermIn mid b d d') : ∀ p q, a ≤ p → p < mid → mid ≤ q → q < b → lt d'[q]! d'[p]! = false := fun p q h1 h2 h3 h4 => by
  rw [hp.2.1 p (.inl h2)]
  exact permIn_all d d' mid b (fun x => lt x d[p]! = false) hs hp (fun i hi hi' => h p i h1 h2 hi hi') q h3 h4
/-- The merge's search: what is asked is true ahead of a place and false from there on. -/
theorem search_mono (hS : SWO lt) {a m b mid : Nat} {d : Array α} (hL : SortedIn lt a m d) (hR : SortedIn lt m b d) (hn : mid + m ≤ a + b + m) (c c' : Nat) (h1 : a ≤ c) (h2 : c < c') (h3 : c' < m) (h4 : m ≤ mid + m - 1 - c') (h5 : mid + m - 1 - c < b) :
    lt d[mid + m - 1 - c]! d[c]! = true → lt d[mid + m - 1 - c']! d[c']! = true := fun h => by
  have e1 : lt d[c']! d[c]! = false := hL c c' h1 h2 h3
  have e2 : lt d[mid + m - 1 - c]! d[mid + m - 1 - c']! = false := hR _ _ h4 (by omega) h5
  exact lt_down hS e2 (lt_up hS e1 h)
end
end Go.Proofs.Ytfhjhaogmdaepaa
