/- Plain: the proof of a place. -/
import Derived.Test.YtldndhekjhlbmaaDoorWay
set_option linter.unusedVariables false
set_option linter.unusedSimpArgs false
namespace Go.Proofs.YtldndhekjhlbmaaDoor
open Go

def wayF : Nat → List (List Int) → Nat → List (List Int)
  | 0, _, _ => []
  | f + 1, l, i => if l.length ≤ 1 then [] else if i < splitN l.length then wayF f (l.take (splitN l.length)) i ++ [topH (l.drop (splitN l.length))] else wayF f (l.drop (splitN l.length)) (i - splitN l.length) ++ [topH (l.take (splitN l.length))]
/-- The digests beside the way from a leaf up. -/
def wayH (l : List (List Int)) (i : Nat) : List (List Int) := wayF l.length l i
theorem wayF_fuel : ∀ (f g : Nat) (l : List (List Int)) (i : Nat), l.length ≤ f → l.length ≤ g → wayF f l i = wayF g l i
  | 0, g, l, i, h1, h2 => by
    cases g with
    | zero => rfl
    | succ g => unfold wayF; rw [if_pos (by omega)]
  | f + 1, 0, l, i, h1, h2 => by
    simp only [wayF]; rw [if_pos (by omega)]
  | f + 1, g + 1, l, i, h1, h2 => by
    unfold wayF
    by_cases h : l.length ≤ 1
    · rw [if_pos h, if_pos h]
    · have := splitN_lt (n := l.length) (by omega)
      have := splitN_pos (n := l.length) (by omega)
      rw [if_neg h, if_neg h, wayF_fuel f g (l.take _) i (by rw [List.length_take]; omega) (by rw [List.length_take]; omega), wayF_fuel f g (l.drop _) _ (by rw [List.length_drop]; omega) (by rw [List.length_drop]; omega)]
theorem wayH_one {l : List (List Int)} {i : Nat} (h : l.length ≤ 1) : wayH l i = [] := by
  unfold wayH
  cases hn : l.length with
  | zero => rfl
  | succ n => unfold wayF; rw [if_pos h]
theorem wayH_left {l : List (List Int)} {i : Nat} (h : 1 < l.length) (hk : i < splitN l.length) : wayH l i = wayH (l.take (splitN l.length)) i ++ [topH (l.drop (splitN l.length))] := by
  have := splitN_lt h
  have := splitN_pos h
  obtain ⟨m, hm⟩ : ∃ m, l.length = m + 1 := ⟨l.length - 1, by omega⟩
  conv => lhs; unfold wayH
  rw [hm]; unfold wayF
  rw [if_neg (by omega), if_pos hk]
  unfold wayH
  rw [wayF_fuel m _ _ _ (by rw [List.length_take]; omega) (Nat.le_refl _), hm]
theorem wayH_right {l : List (List Int)} {i : Nat} (h : 1 < l.length) (hk : ¬ i < splitN l.length) : wayH l i = wayH (l.drop (splitN l.length)) (i - splitN l.length) ++ [topH (l.take (splitN l.length))] := by
  have := splitN_lt h
  have := splitN_pos h
  obtain ⟨m, hm⟩ : ∃ m, l.length = m + 1 := ⟨l.length - 1, by omega⟩
  conv => lhs; unfold wayH
  rw [hm]; unfold wayF
  rw [if_neg (by omega), if_neg hk]
  unfold wayH
  rw [wayF_fuel m _ _ _ (by rw [List.length_drop]; omega) (Nat.le_refl _), hm]
theorem wayH_all {p : List Int → Prop} (hp : ∀ l : List (List Int), (∀ x ∈ l, p x) → p (topH l)) : ∀ (m : Nat) (l : List (List Int)) (i : Nat), l.length ≤ m → (∀ x ∈ l, p x) → ∀ x ∈ wayH l i, p x := by
  intro m
  induction m with
  | zero => intro l i h _ x hx; rw [wayH_one (by omega)] at hx; cases hx
  | succ m ih =>
    intro l i h hl x hx
    by_cases h1 : l.length ≤ 1
    · rw [wayH_one h1] at hx; cases hx
    · have h2 := splitN_lt (n := l.length) (by omega)
      have h3 := splitN_pos (n := l.length) (by omega)
      by_cases hk : i < splitN l.length
      · rw [wayH_left (by omega) hk] at hx
        rcases List.mem_append.1 hx with hx | hx
        · exact ih _ _ (by rw [List.length_take]; omega) (fun y hy => hl y (List.mem_of_mem_take hy)) x hx
        · rw [List.mem_singleton.1 hx]; exact hp _ fun y hy => hl y (List.mem_of_mem_drop hy)
      · rw [wayH_right (by omega) hk] at hx
        rcases List.mem_append.1 hx with hx | hx
        · exact ih _ _ (by rw [List.length_drop]; omega) (fun y hy => hl y (List.mem_of_mem_drop hy)) x hx
        · rw [List.mem_singleton.1 hx]; exact hp _ fun y hy => hl y (List.mem_of_mem_take hy)
theorem wayH_len {l : List (List Int)} (h : ∀ x ∈ l, x.length = 32) (i : Nat) : ∀ x ∈ wayH l i, x.length = 32 := wayH_all (p := fun x => x.length = 32) (fun l h => topH_length h) l.length l i (Nat.le_refl _) h
theorem wayH_isB {l : List (List Int)} (h : ∀ x ∈ l, IsB x) (i : Nat) : ∀ x ∈ wayH l i, IsB x := wayH_all (p := IsB) (fun l h => isB_topH h) l.length l i (Nat.le_refl _) h
theorem wayH_length : ∀ (m : Nat) (l : List (List Int)) (i : Nat), l.length ≤ m → (wayH l i).length = (turnsH l.length i).length := by
  intro m
  induction m with
  | zero => intro l i h; rw [wayH_one (by omega), turnsH_one (by omega)]; rfl
  | succ m ih =>
    intro l i h
    by_cases h1 : l.length ≤ 1
    · rw [wayH_one h1, turnsH_one h1]; rfl
    · have h2 := splitN_lt (n := l.length) (by omega)
      have h3 := splitN_pos (n := l.length) (by omega)
      by_cases hk : i < splitN l.length
      · rw [wayH_left (by omega) hk, turnsH_left (by omega) (by omega), List.length_append, ih _ _ (by rw [List.length_take]; omega), List.length_take, Nat.min_eq_left (by omega)]; rfl
      · rw [wayH_right (by omega) hk, turnsH_right (by omega) (by omega), List.length_append, ih _ _ (by rw [List.length_drop]; omega), List.length_drop]; rfl
/-- The proof of a place leads from its leaf to the top. -/
theorem lead_way : ∀ (m : Nat) (l : List (List Int)) (i : Nat) (t : List Int), l.length ≤ m → l[i]? = some t → leadH l.length i (wayH l i) t = topH l := by
  intro m
  induction m with
  | zero => intro l i t h hi; have := (List.getElem?_eq_some_iff.1 hi).1; omega
  | succ m ih =>
    intro l i t h hi
    have hlt := (List.getElem?_eq_some_iff.1 hi).1
    by_cases h1 : l.length ≤ 1
    · have h0 : i = 0 := by omega
      subst h0
      rw [wayH_one h1, leadH_one h1, topH_one (by omega) hi]
    · have h2 := splitN_lt (n := l.length) (by omega)
      have h3 := splitN_pos (n := l.length) (by omega)
      by_cases hk : i < splitN l.length
      · have hl : (l.take (splitN l.length)).length = splitN l.length := by rw [List.length_take]; omega
        have hw := wayH_length m (l.take (splitN l.length)) i (by omega)
        rw [hl] at hw
        have := ih (l.take (splitN l.length)) i t (by omega) (by rw [List.getElem?_take, if_pos hk]; exact hi)
        rw [hl] at this
        rw [wayH_left (by omega) hk, leadH_left (by omega) (by omega) _ _ hw, this, ← topH_two (by omega)]
      · have hl : (l.drop (splitN l.length)).length = l.length - splitN l.length := by rw [List.length_drop]
        have hw := wayH_length m (l.drop (splitN l.length)) (i - splitN l.length) (by omega)
        rw [hl] at hw
        have := ih (l.drop (splitN l.length)) (i - splitN l.length) t (by omega) (by rw [List.getElem?_drop, show splitN l.length + (i - splitN l.length) = i by omega]; exact hi)
        rw [hl] at this
        rw [wayH_right (by omega) hk, leadH_right (by omega) (by omega) _ _ hw, this, ← topH_two (by omega)]
/-- The first and the last k have changed places. -/
def revK (l : List (List Int)) (k : Nat) : List (List Int) := (List.range l.length).map fun x => if x < k ∨ l.length - k ≤ x then l.getD (l.length - 1 - x) [] else l.getD x []
theorem revK_length (l : List (List Int)) (k : Nat) : (revK l k).length = l.length := by simp [revK]
theorem revK_at {l : List (List Int)} {k x : Nat} (hx : x < l.length) : (revK l k)[x]? = some (if x < k ∨ l.length - k ≤ x then l.getD (l.length - 1 - x) [] else l.getD x []) := by simp [revK, hx]
theorem revK_zero (l : List (List Int)) : revK l 0 = l := by
  apply List.ext_getElem? ; intro x
  by_cases hx : x < l.length
  · rw [revK_at hx, if_neg (by omega), List.getElem?_eq_getElem hx]; simp [List.getD_eq_getElem?_getD, hx]
  · rw [List.getElem?_eq_none (by rw [revK_length]; omega), List.getElem?_eq_none (by omega)]
theorem revK_step {l : List (List Int)} {k : Nat} (h : k < l.length - 1 - k) : ((revK l k).set k (l.getD (l.length - 1 - k) [])).set (l.length - 1 - k) (l.getD k []) = revK l (k + 1) := by
  apply List.ext_getElem? ; intro x
  by_cases hx : x < l.length
  · rw [revK_at hx]
    by_cases h1 : x = l.length - 1 - k
    · subst h1
      rw [List.getElem?_set_self (by rw [List.length_set, revK_length]; omega), if_pos (by omega), show l.length - 1 - (l.length - 1 - k) = k by omega]
    · rw [List.getElem?_set_ne (by omega)]
      by_cases h2 : x = k
      · subst h2
        rw [List.getElem?_set_self (by rw [revK_length]; omega), if_pos (by omega)]
      · rw [List.getElem?_set_ne (by omega), revK_at hx]
        by_cases h3 : x < k ∨ l.length - k ≤ x
        · rw [if_pos h3, if_pos (by omega)]
        · rw [if_neg h3, if_neg (by omega)]
  · rw [List.getElem?_eq_none (by rw [List.length_set, List.length_set, revK_length]; omega), List.getElem?_eq_none (by rw [revK_length]; omega)]
theorem revK_end {l : List (List Int)} {k : Nat} (h : ¬ ((k : Int) < (l.length : Int) - 1 - k)) : revK l k = l.reverse := by
  apply List.ext_getElem? ; intro x
  by_cases hx : x < l.length
  · rw [revK_at hx, List.getElem?_reverse hx, List.getElem?_eq_getElem (show l.length - 1 - x < l.length by omega)]
    by_cases h3 : x < k ∨ l.length - k ≤ x
    · rw [if_pos h3]; simp [List.getD_eq_getElem?_getD, show l.length - 1 - x < l.length by omega]
    · rw [if_neg h3]
      have e : l.length - 1 - x = x := by omega
      simp [List.getD_eq_getElem?_getD, hx, e]
  · rw [List.getElem?_eq_none (by rw [revK_length]; omega), List.getElem?_eq_none (by rw [List.length_reverse]; omega)]
theorem revK_len {l : List (List Int)} (h : ∀ x ∈ l, x.length = 32) (k : Nat) : ∀ x ∈ revK l k, x.length = 32 := fun x hx => by
  obtain ⟨i, hi, rfl⟩ := List.mem_map.1 hx
  rw [List.mem_range] at hi
  split
  · simp only [List.getD_eq_getElem?_getD, List.getElem?_eq_getElem (show l.length - 1 - i < l.length by omega), Option.getD_some]
    exact h _ (List.getElem_mem _)
  · simp only [List.getD_eq_getElem?_getD, List.getElem?_eq_getElem hi, Option.getD_some]
    exact h _ (List.getElem_mem _)
end Go.Proofs.YtldndhekjhlbmaaDoor
