/- Plain: the way from the root down to a place; what a proof leads to. -/
import Derived.Test.YtldndhekjhlbmaaDoorTree
set_option linter.unusedVariables false
set_option linter.unusedSimpArgs false
namespace Go.Proofs.YtldndhekjhlbmaaDoor
open Go

def turnsF : Nat → Nat → Nat → List Bool
  | 0, _, _ => []
  | f + 1, n, i => if n ≤ 1 then [] else decide (splitN n ≤ i) :: (if splitN n ≤ i then turnsF f (n - splitN n) (i - splitN n) else turnsF f (splitN n) i)
/-- At each step from the root down to a place: whether it goes to the right. -/
def turnsH (n i : Nat) : List Bool := turnsF n n i
theorem turnsF_fuel : ∀ (f g n i : Nat), n ≤ f → n ≤ g → turnsF f n i = turnsF g n i
  | 0, g, n, i, h1, h2 => by
    cases g with
    | zero => rfl
    | succ g => unfold turnsF; rw [if_pos (by omega)]
  | f + 1, 0, n, i, h1, h2 => by
    simp only [turnsF]; rw [if_pos (by omega)]
  | f + 1, g + 1, n, i, h1, h2 => by
    unfold turnsF
    by_cases h : n ≤ 1
    · rw [if_pos h, if_pos h]
    · have := splitN_lt (n := n) (by omega)
      have := splitN_pos (n := n) (by omega)
      rw [if_neg h, if_neg h]
      by_cases hk : splitN n ≤ i
      · rw [if_pos hk, if_pos hk, turnsF_fuel f g _ _ (by omega) (by omega)]
      · rw [if_neg hk, if_neg hk, turnsF_fuel f g _ _ (by omega) (by omega)]
theorem turnsH_one {n i : Nat} (h : n ≤ 1) : turnsH n i = [] := by
  unfold turnsH
  cases n with
  | zero => rfl
  | succ n => unfold turnsF; rw [if_pos h]
theorem turnsH_right {n i : Nat} (h : 1 < n) (hk : splitN n ≤ i) : turnsH n i = true :: turnsH (n - splitN n) (i - splitN n) := by
  have := splitN_lt h
  have := splitN_pos h
  obtain ⟨m, rfl⟩ : ∃ m, n = m + 1 := ⟨n - 1, by omega⟩
  unfold turnsH
  conv => lhs; unfold turnsF
  rw [if_neg (by omega), if_pos hk, decide_eq_true hk, turnsF_fuel m _ _ _ (by omega) (Nat.le_refl _)]
theorem turnsH_left {n i : Nat} (h : 1 < n) (hk : ¬ splitN n ≤ i) : turnsH n i = false :: turnsH (splitN n) i := by
  have := splitN_lt h
  have := splitN_pos h
  obtain ⟨m, rfl⟩ : ∃ m, n = m + 1 := ⟨n - 1, by omega⟩
  unfold turnsH
  conv => lhs; unfold turnsF
  rw [if_neg (by omega), if_neg hk, decide_eq_false hk, turnsF_fuel m _ _ _ (by omega) (Nat.le_refl _)]
theorem turnsH_len (n i : Nat) : (turnsH n i).length ≤ n := by
  have key : ∀ (m n i : Nat), n ≤ m → (turnsH n i).length ≤ n := by
    intro m
    induction m with
    | zero => intro n i h; rw [turnsH_one (by omega)]; exact Nat.zero_le _
    | succ m ih =>
      intro n i h
      by_cases h1 : n ≤ 1
      · rw [turnsH_one h1]; exact Nat.zero_le _
      · have h2 := splitN_lt (n := n) (by omega)
        have h3 := splitN_pos (n := n) (by omega)
        by_cases hk : splitN n ≤ i
        · rw [turnsH_right (by omega) hk, List.length_cons]
          have := ih (n - splitN n) (i - splitN n) (by omega); omega
        · rw [turnsH_left (by omega) hk, List.length_cons]
          have := ih (splitN n) i (by omega); omega
  exact key n n i (Nat.le_refl _)
/-- One step up. -/
def stepH (t a : List Int) (d : Bool) : List Int := if d = true then sha (1 :: (a ++ t)) else sha (1 :: (t ++ a))
theorem stepH_length (t a : List Int) (d : Bool) : (stepH t a d).length = 32 := by unfold stepH; split <;> exact sha_length _
/-- From a leaf's digest up along the aunts. -/
def climb (t : List Int) : List (List Int) → List Bool → List Int
  | a :: es, d :: ds => climb (stepH t a d) es ds
  | _, _ => t
theorem climb_append (t : List Int) : ∀ (es : List (List Int)) (ds : List Bool) (a : List Int) (d : Bool), es.length = ds.length → climb t (es ++ [a]) (ds ++ [d]) = stepH (climb t es ds) a d := by
  intro es
  induction es generalizing t with
  | nil => intro ds a d h; cases ds with
    | nil => rfl
    | cons => cases h
  | cons b es ih => intro ds a d h; cases ds with
    | nil => cases h
    | cons e ds => exact ih (stepH t b e) ds a d (by simpa using h)
theorem climb_length {t : List Int} (ht : t.length = 32) : ∀ (es : List (List Int)) (ds : List Bool), (climb t es ds).length = 32 := by
  intro es
  induction es generalizing t with
  | nil => intro ds; exact ht
  | cons a es ih => intro ds; cases ds with
    | nil => exact ht
    | cons d ds => exact ih (stepH_length _ _ _) ds
theorem climb_take (t : List Int) (es : List (List Int)) (ds : List Bool) (k : Nat) (a : List Int) (d : Bool) (ha : es[k]? = some a) (hd : ds[k]? = some d) : climb t (es.take (k + 1)) (ds.take (k + 1)) = stepH (climb t (es.take k) (ds.take k)) a d := by
  have h1 := (List.getElem?_eq_some_iff.1 ha).1
  have h2 := (List.getElem?_eq_some_iff.1 hd).1
  rw [List.take_add_one, List.take_add_one, ha, hd]
  exact climb_append t _ _ a d (by rw [List.length_take, List.length_take]; omega)
/-- The top to which a proof leads. -/
def leadH (n i : Nat) (es : List (List Int)) (t : List Int) : List Int := climb t es (turnsH n i).reverse
theorem leadH_one {n i : Nat} (h : n ≤ 1) (t : List Int) : leadH n i [] t = t := by unfold leadH; rw [turnsH_one h]; rfl
theorem leadH_right {n i : Nat} (h : 1 < n) (hk : splitN n ≤ i) {es : List (List Int)} (a t : List Int) (hl : es.length = (turnsH (n - splitN n) (i - splitN n)).length) : leadH n i (es ++ [a]) t = sha (1 :: (a ++ leadH (n - splitN n) (i - splitN n) es t)) := by
  unfold leadH
  rw [turnsH_right h hk, List.reverse_cons, climb_append _ _ _ _ _ (by rw [List.length_reverse]; exact hl)]
  rfl
theorem leadH_left {n i : Nat} (h : 1 < n) (hk : ¬ splitN n ≤ i) {es : List (List Int)} (a t : List Int) (hl : es.length = (turnsH (splitN n) i).length) : leadH n i (es ++ [a]) t = sha (1 :: (leadH (splitN n) i es t ++ a)) := by
  unfold leadH
  rw [turnsH_left h hk, List.reverse_cons, climb_append _ _ _ _ _ (by rw [List.length_reverse]; exact hl)]
  rfl
theorem leadH_length {n i : Nat} {es : List (List Int)} {t : List Int} (ht : t.length = 32) : (leadH n i es t).length = 32 := climb_length ht _ _
/-- May such a proof be? -/
def inB (total index : Int) : Bool := decide (1 ≤ total ∧ total ≤ 65536 ∧ 0 ≤ index ∧ index < total)
def fitsB (total index : Int) (m : Nat) : Bool := inB total index && decide (m = (turnsH total.toNat index.toNat).length)
/-- What Path answers. -/
def pathE (total index : Int) (hs : List (List Int)) (item : List Int) : Int := if 1048576 < item.length then 4 else if fitsB total index hs.length = true then 0 else 20
def pathD (total index : Int) (hs : List (List Int)) (item : List Int) : List Int := if pathE total index hs item = 0 then sha (2 :: (numB total ++ leadH total.toNat index.toNat hs (leafH item))) else List.replicate 32 0
theorem pathD_length (total index : Int) (hs : List (List Int)) (item : List Int) : (pathD total index hs item).length = 32 := by unfold pathD; split <;> simp [sha_length]
def verE (root : List Int) (total index : Int) (hs : List (List Int)) (item : List Int) : Int := if pathE total index hs item = 0 then (if pathD total index hs item = root then 0 else 21) else pathE total index hs item
def pathV (total index : Int) (hs : List (List Int)) (item : List Int) : Value := .tuple #[.agg (ints .u8 (pathD total index hs item)).toArray, .int .i64 (pathE total index hs item)]
theorem fitsB_true {total index : Int} {m : Nat} (h : fitsB total index m = true) : ∃ n i : Nat, total = n ∧ index = i ∧ 1 ≤ n ∧ n ≤ 65536 ∧ i < n ∧ m = (turnsH n i).length := by
  unfold fitsB inB at h
  simp only [Bool.and_eq_true, decide_eq_true_eq] at h
  refine ⟨total.toNat, index.toNat, by omega, by omega, by omega, by omega, by omega, h.2⟩
theorem inB_true {total index : Int} (h : inB total index = true) : ∃ n i : Nat, total = n ∧ index = i ∧ 1 ≤ n ∧ n ≤ 65536 ∧ i < n := by
  unfold inB at h
  simp only [decide_eq_true_eq] at h
  exact ⟨total.toNat, index.toNat, by omega, by omega, by omega, by omega, by omega⟩
end Go.Proofs.YtldndhekjhlbmaaDoor
