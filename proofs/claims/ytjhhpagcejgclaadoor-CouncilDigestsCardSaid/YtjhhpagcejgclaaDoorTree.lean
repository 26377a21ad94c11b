/- Plain: the tree over a list: where it is split, its top, its proofs. -/
import Derived.Test.YtjhhpagcejgclaaDoorD1
import Derived.Test.YtjhhpagcejgclaaDoorSha
import Derived.Test.YtjhhpagcejgclaaDoorEngH
import Derived.Test.YtjhhpagcejgclaaDoorD6
set_option linter.unusedVariables false
set_option linter.unusedSimpArgs false
namespace Go.Proofs.YtjhhpagcejgclaaDoor
open Go

theorem splitF_bounds : ∀ (f k n : Nat), 0 < k → k < n → k ≤ splitF f k n ∧ splitF f k n < n
  | 0, k, n, _, h2 => ⟨Nat.le_refl _, h2⟩
  | f + 1, k, n, h1, h2 => by
    unfold splitF
    by_cases h : 2 * k < n
    · rw [if_pos h]
      obtain ⟨a, b⟩ := splitF_bounds f (2 * k) n (by omega) h
      exact ⟨by omega, b⟩
    · rw [if_neg h]; exact ⟨Nat.le_refl _, h2⟩
theorem splitN_pos {n : Nat} (h : 1 < n) : 0 < splitN n := by have := (splitF_bounds n 1 n (by decide) h).1; unfold splitN; omega
theorem splitN_lt {n : Nat} (h : 1 < n) : splitN n < n := (splitF_bounds n 1 n (by decide) h).2

def topF : Nat → List (List Int) → List Int
  | 0, _ => sha []
  | f + 1, l => if l.length = 0 then sha [] else if l.length = 1 then l.getD 0 [] else sha (1 :: (topF f (l.take (splitN l.length)) ++ topF f (l.drop (splitN l.length))))
/-- The top of a list of digests. -/
def topH (l : List (List Int)) : List Int := topF l.length l
theorem topF_fuel : ∀ (f g : Nat) (l : List (List Int)), l.length ≤ f → l.length ≤ g → topF f l = topF g l
  | 0, g, l, h1, h2 => by
    cases g with
    | zero => rfl
    | succ g => unfold topF; rw [if_pos (by omega)]
  | f + 1, 0, l, h1, h2 => by
    have : l.length = 0 := by omega
    simp only [topF]; rw [if_pos this]
  | f + 1, g + 1, l, h1, h2 => by
    unfold topF
    by_cases h0 : l.length = 0
    · rw [if_pos h0, if_pos h0]
    · by_cases h3 : l.length = 1
      · rw [if_neg h0, if_neg h0, if_pos h3, if_pos h3]
      · have h4 : 1 < l.length := by omega
        have := splitN_lt h4
        have := splitN_pos h4
        rw [if_neg h0, if_neg h0, if_neg h3, if_neg h3, topF_fuel f g (l.take _) (by rw [List.length_take]; omega) (by rw [List.length_take]; omega), topF_fuel f g (l.drop _) (by rw [List.length_drop]; omega) (by rw [List.length_drop]; omega)]
theorem topH_zero {l : List (List Int)} (h : l.length = 0) : topH l = sha [] := by unfold topH; rw [h]; rfl
theorem topH_one {l : List (List Int)} (h : l.length = 1) {x : List Int} (hx : l[0]? = some x) : topH l = x := by
  unfold topH; rw [h]; unfold topF
  rw [if_neg (by omega), if_pos h]
  simp [List.getD_eq_getElem?_getD, hx]
theorem topH_two {l : List (List Int)} (h : 1 < l.length) : topH l = sha (1 :: (topH (l.take (splitN l.length)) ++ topH (l.drop (splitN l.length)))) := by
  have h1 := splitN_lt h
  have h2 := splitN_pos h
  conv => lhs; unfold topH
  obtain ⟨n, hn⟩ : ∃ n, l.length = n + 1 := ⟨l.length - 1, by omega⟩
  rw [hn]; unfold topF
  rw [if_neg (by omega), if_neg (by omega)]
  unfold topH
  rw [topF_fuel n _ (l.take _) (by rw [List.length_take]; omega) (Nat.le_refl _), topF_fuel n _ (l.drop _) (by rw [List.length_drop]; omega) (Nat.le_refl _), hn]
theorem topH_length {l : List (List Int)} (h : ∀ x ∈ l, x.length = 32) : (topH l).length = 32 := by
  by_cases h0 : l.length = 0
  · rw [topH_zero h0, sha_length]
  · by_cases h1 : l.length = 1
    · match l, h1 with
      | [x], _ => rw [topH_one rfl rfl]; exact h x (by simp)
    · rw [topH_two (by omega), sha_length]
def leafH (x : List Int) : List Int := sha (0 :: x)
def leaves (xss : List (List Int)) : List (List Int) := xss.map leafH
theorem leaves_len (xss : List (List Int)) : ∀ h ∈ leaves xss, h.length = 32 := fun h hh => by
  obtain ⟨x, _, rfl⟩ := List.mem_map.1 hh
  exact sha_length _
theorem leaves_length (xss : List (List Int)) : (leaves xss).length = xss.length := by simp [leaves]
theorem leaves_take (xss : List (List Int)) (n : Nat) : leaves (xss.take n) = (leaves xss).take n := by simp [leaves]
theorem leaves_drop (xss : List (List Int)) (n : Nat) : leaves (xss.drop n) = (leaves xss).drop n := by simp [leaves]
/-- Is there too much? -/
def anyBig (xss : List (List Int)) : Bool := xss.any fun x => decide (1048576 < x.length)
def bigL (xss : List (List Int)) : Bool := decide (65536 < xss.length) || anyBig xss
theorem bigL_false {xss : List (List Int)} (h : bigL xss = false) : xss.length ≤ 65536 ∧ anyBig xss = false ∧ ∀ x ∈ xss, x.length ≤ 1048576 := by
  unfold bigL at h
  rw [Bool.or_eq_false_iff] at h
  refine ⟨by simpa using h.1, h.2, fun x hx => ?_⟩
  have := h.2
  unfold anyBig at this
  rw [List.any_eq_false] at this
  simpa using this x hx
theorem bigL_long {xss : List (List Int)} (h : 65536 < xss.length) : bigL xss = true := by unfold bigL; rw [decide_eq_true h]; rfl
theorem bigL_short {xss : List (List Int)} (h : ¬ 65536 < xss.length) : bigL xss = anyBig xss := by unfold bigL; rw [decide_eq_false h]; rfl
theorem anyBig_drop {xss : List (List Int)} {k : Nat} {y : List Int} (h : xss[k]? = some y) : anyBig (xss.drop k) = (decide (1048576 < y.length) || anyBig (xss.drop (k + 1))) := by
  have hlt := (List.getElem?_eq_some_iff.1 h).1
  rw [List.drop_eq_getElem_cons hlt]
  rw [List.getElem?_eq_getElem hlt, Option.some.injEq] at h
  rw [h]; rfl
theorem anyBig_end {xss : List (List Int)} {k : Nat} (h : xss.length ≤ k) : anyBig (xss.drop k) = false := by rw [List.drop_eq_nil_of_le h]; rfl
/-- Where the first of too many bytes stands. -/
def idxB : List (List Int) → Nat → Int
  | [], _ => -1
  | x :: r, i => if 1048576 < x.length then (i : Int) else idxB r (i + 1)
theorem idxB_drop {xss : List (List Int)} {k : Nat} {y : List Int} (h : xss[k]? = some y) : idxB (xss.drop k) k = if 1048576 < y.length then (k : Int) else idxB (xss.drop (k + 1)) (k + 1) := by
  have hlt := (List.getElem?_eq_some_iff.1 h).1
  rw [List.drop_eq_getElem_cons hlt]
  rw [List.getElem?_eq_getElem hlt, Option.some.injEq] at h
  rw [h]; rfl
theorem idxB_any : ∀ (xss : List (List Int)) (i : Nat), decide (0 ≤ idxB xss i) = anyBig xss
  | [], i => rfl
  | x :: r, i => by
    unfold idxB
    show _ = (decide (1048576 < x.length) || anyBig r)
    by_cases h : 1048576 < x.length
    · rw [if_pos h, decide_eq_true h, Bool.true_or]; exact decide_eq_true (by omega)
    · rw [if_neg h, decide_eq_false h, Bool.false_or]; exact idxB_any r (i + 1)
/-- The first k of n digests are filled. -/
def fillG (f : Nat → List Int) (n k : Nat) : List (List Int) := (List.range n).map fun i => if i < k then f i else List.replicate 32 0
theorem fillG_length (f : Nat → List Int) (n k : Nat) : (fillG f n k).length = n := by simp [fillG]
theorem fillG_len (f : Nat → List Int) (n k : Nat) (hf : ∀ i, (f i).length = 32) : ∀ x ∈ fillG f n k, x.length = 32 := fun x hx => by
  obtain ⟨i, _, rfl⟩ := List.mem_map.1 hx
  split
  · exact hf i
  · simp
theorem fillG_zero (f : Nat → List Int) (n : Nat) : fillG f n 0 = List.replicate n (List.replicate 32 0) := by
  apply List.ext_getElem (by simp [fillG])
  intro i h1 h2; simp [fillG]
theorem fillG_full (f : Nat → List Int) (n : Nat) : fillG f n n = (List.range n).map f := by
  apply List.ext_getElem (by simp [fillG])
  intro i h1 h2
  simp only [fillG, List.length_map, List.length_range] at h1
  simp [fillG, h1]
theorem fillG_set (f : Nat → List Int) (n k : Nat) : (fillG f n k).set k (f k) = fillG f n (k + 1) := by
  apply List.ext_getElem (by simp [fillG])
  intro i h1 h2
  rw [List.getElem_set]
  by_cases hik : k = i
  · subst hik; simp [fillG]
  · have : (i < k) ↔ (i < k + 1) := by omega
    simp [fillG, hik, this]
def leafF (xss : List (List Int)) (i : Nat) : List Int := leafH (xss.getD i [])
theorem leaves_fill (xss : List (List Int)) : fillG (leafF xss) xss.length xss.length = leaves xss := by
  rw [fillG_full]
  apply List.ext_getElem (by simp [leaves])
  intro i h1 h2
  simp only [List.length_map, List.length_range] at h1
  simp [leafF, leaves, List.getD_eq_getElem?_getD, h1]
/-- The root of a list. -/
def rootH (n : Nat) (t : List Int) : List Int := sha (2 :: (numB (n : Int) ++ t))
def rootD (xss : List (List Int)) : List Int := if bigL xss = true then List.replicate 32 0 else rootH xss.length (topH (leaves xss))
def rootE (xss : List (List Int)) : Int := if bigL xss = true then 4 else 0
def rootV (xss : List (List Int)) : Value := .tuple #[.agg (ints .u8 (rootD xss)).toArray, .int .i64 (rootE xss)]
theorem rootD_length (xss : List (List Int)) : (rootD xss).length = 32 := by
  unfold rootD rootH
  split
  · simp
  · rw [sha_length]
/-- Unlike texts with one digest. -/
def clashB (xs ys : List Int) : Bool := decide (xs ≠ ys) && decide (sha xs = sha ys)
theorem clashB_of {xs ys : List Int} (h : xs ≠ ys) (e : sha xs = sha ys) : clashB xs ys = true := by unfold clashB; rw [decide_eq_true h, decide_eq_true e]; rfl
theorem isB_u8 (x : Int) : 0 ≤ IntKind.u8.wrap x ∧ IntKind.u8.wrap x ≤ 255 := by
  simp only [IntKind.wrap, IntKind.signed, IntKind.bits, Bool.false_and, Bool.false_eq_true, if_false]; omega
theorem isB_sha (xs : List Int) : IsB (sha xs) := fun x hx => by
  obtain ⟨i, _, rfl⟩ := List.mem_map.1 hx
  exact isB_u8 _
theorem isB_numB (n : Int) : IsB (numB n) := fun x hx => by
  obtain ⟨i, _, rfl⟩ := List.mem_map.1 hx
  exact isB_u8 _
theorem IsB.cons {x : Int} {xs : List Int} (h0 : 0 ≤ x) (h1 : x ≤ 255) (h : IsB xs) : IsB (x :: xs) := fun y hy => by
  rcases List.mem_cons.1 hy with rfl | hy
  · exact ⟨h0, h1⟩
  · exact h y hy
theorem IsB.append {xs ys : List Int} (h : IsB xs) (k : IsB ys) : IsB (xs ++ ys) := fun y hy => by
  rcases List.mem_append.1 hy with hy | hy
  · exact h y hy
  · exact k y hy
theorem isB_topH {l : List (List Int)} (h : ∀ x ∈ l, IsB x) : IsB (topH l) := by
  by_cases h0 : l.length = 0
  · rw [topH_zero h0]; exact isB_sha _
  · by_cases h1 : l.length = 1
    · match l, h1 with
      | [x], _ => rw [topH_one rfl rfl]; exact h x (by simp)
    · rw [topH_two (by omega)]; exact isB_sha _
theorem isB_leaves (xss : List (List Int)) : ∀ x ∈ leaves xss, IsB x := fun x hx => by
  obtain ⟨y, _, rfl⟩ := List.mem_map.1 hx
  exact isB_sha _
theorem numF_small {n : Nat} (h : n ≤ 16777215) (j : Nat) (hj : j < 3) : numF (n : Int) j = ((n / 256 ^ j % 256 : Nat) : Int) := by
  have hw : IntKind.u64.wrap (n : Int) = (n : Int) := wrap_fits (by simp only [fits]; omega)
  unfold numF
  rw [hw]
  match j, hj with
  | 0, _ => simp [shrI, IntKind.wrap, IntKind.signed, IntKind.bits, Int.fdiv_eq_ediv]
  | 1, _ => simp [shrI, IntKind.wrap, IntKind.signed, IntKind.bits, Int.fdiv_eq_ediv]
  | 2, _ => simp [shrI, IntKind.wrap, IntKind.signed, IntKind.bits, Int.fdiv_eq_ediv]
theorem numB_inj {n m : Nat} (hn : n ≤ 16777215) (hm : m ≤ 16777215) (h : numB (n : Int) = numB (m : Int)) : n = m := by
  have key : ∀ j, j < 3 → n / 256 ^ j % 256 = m / 256 ^ j % 256 := fun j hj => by
    have h1 : (numB (n : Int)).getD j 0 = (numB (m : Int)).getD j 0 := by rw [h]
    have h2 : ∀ x : Int, (numB x).getD j 0 = numF x j := fun x => by
      have : j < 8 := by omega
      simp [numB, List.getD_eq_getElem?_getD, this]
    rw [h2, h2, numF_small hn j hj, numF_small hm j hj] at h1
    omega
  have k0 := key 0 (by decide)
  have k1 := key 1 (by decide)
  have k2 := key 2 (by decide)
  simp only [Nat.pow_zero, Nat.div_one, Nat.pow_one, show (256 : Nat) ^ 2 = 65536 from rfl] at k0 k1 k2
  omega
theorem rootText_inj {n m : Nat} {t u : List Int} (hn : n ≤ 16777215) (hm : m ≤ 16777215) (h : 2 :: (numB (n : Int) ++ t) = 2 :: (numB (m : Int) ++ u)) : n = m ∧ t = u := by
  have h2 : numB (n : Int) ++ t = numB (m : Int) ++ u := by injection h
  obtain ⟨a, b⟩ := List.append_inj h2 (by rw [numB_length, numB_length])
  exact ⟨numB_inj hn hm a, b⟩
end Go.Proofs.YtjhhpagcejgclaaDoor
