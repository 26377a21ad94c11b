/- Plain: what Renew answers. -/
import Derived.Test.YtfhjhaogmdaepaaGame
set_option linter.unusedVariables false
set_option linter.unusedSimpArgs false
namespace Go.Proofs.Ytfhjhaogmdaepaa
open Go Go.RowKit
/-! ### A list changed in place -/
def mapN (f : Mem → Mem) (l : List Mem) (i : Nat) : List Mem := (l.take i).map f ++ l.drop i
theorem mapN_length (f : Mem → Mem) (l : List Mem) (i : Nat) : (mapN f l i).length = l.length := by simp [mapN]; omega
theorem mapN_zero (f : Mem → Mem) (l : List Mem) : mapN f l 0 = l := by simp [mapN]
theorem mapN_full (f : Mem → Mem) (l : List Mem) : mapN f l l.length = l.map f := by simp [mapN]
theorem mapN_at {f : Mem → Mem} {l : List Mem} {i : Nat} {m : Mem} (h : l[i]? = some m) : (mapN f l i)[i]? = some m := by
  have hlt := (List.getElem?_eq_some_iff.1 h).1
  unfold mapN
  rw [List.getElem?_append_right (by simp only [List.length_map, List.length_take]; exact Nat.min_le_left _ _)]
  simp [Nat.min_eq_left (Nat.le_of_lt hlt), h]
theorem mapN_step {f : Mem → Mem} {l : List Mem} {i : Nat} {m : Mem} (h : l[i]? = some m) : (mapN f l i).set i (f m) = mapN f l (i + 1) := by
  have hlt := (List.getElem?_eq_some_iff.1 h).1
  unfold mapN
  rw [List.set_append_right _ _ (by simp only [List.length_map, List.length_take]; exact Nat.min_le_left _ _), List.take_add_one, h]
  simp only [List.length_map, List.length_take, Nat.min_eq_left (Nat.le_of_lt hlt), Nat.sub_self, List.map_append, Option.toList_some, List.map_cons, List.map_nil, List.append_assoc, List.singleton_append]
  rw [List.drop_eq_getElem_cons hlt, List.set_cons_zero]
/-! ### The lowest and the highest -/
def loQ (l : List Mem) : Nat → Int
  | 0 => (mAt l 0).q
  | k + 1 => if (mAt l k).q < loQ l k then (mAt l k).q else loQ l k
def hiQ (l : List Mem) : Nat → Int
  | 0 => (mAt l 0).q
  | k + 1 => if (mAt l k).q > hiQ l k then (mAt l k).q else hiQ l k
theorem loQ_le (l : List Mem) : ∀ k j, j < k → loQ l k ≤ (mAt l j).q
  | k + 1, j, h => by
    show (if (mAt l k).q < loQ l k then (mAt l k).q else loQ l k) ≤ _
    by_cases e : j = k
    · subst e; split <;> omega
    · have := loQ_le l k j (by omega); split <;> omega
theorem hiQ_ge (l : List Mem) : ∀ k j, j < k → (mAt l j).q ≤ hiQ l k
  | k + 1, j, h => by
    show _ ≤ (if (mAt l k).q > hiQ l k then (mAt l k).q else hiQ l k)
    by_cases e : j = k
    · subst e; split <;> omega
    · have := hiQ_ge l k j (by omega); split <;> omega
theorem loQ_in {l : List Mem} (hl : 0 < l.length) : ∀ k, k ≤ l.length → ∃ j, j < l.length ∧ loQ l k = (mAt l j).q
  | 0, _ => ⟨0, hl, rfl⟩
  | k + 1, h => by
    obtain ⟨j, hj, e⟩ := loQ_in hl k (by omega)
    show ∃ i, i < l.length ∧ (if (mAt l k).q < loQ l k then (mAt l k).q else loQ l k) = _
    split
    · exact ⟨k, by omega, rfl⟩
    · exact ⟨j, hj, e⟩
theorem hiQ_in {l : List Mem} (hl : 0 < l.length) : ∀ k, k ≤ l.length → ∃ j, j < l.length ∧ hiQ l k = (mAt l j).q
  | 0, _ => ⟨0, hl, rfl⟩
  | k + 1, h => by
    obtain ⟨j, hj, e⟩ := hiQ_in hl k (by omega)
    show ∃ i, i < l.length ∧ (if (mAt l k).q > hiQ l k then (mAt l k).q else hiQ l k) = _
    split
    · exact ⟨k, by omega, rfl⟩
    · exact ⟨j, hj, e⟩
def spanQ (l : List Mem) : Int := hiQ l l.length - loQ l l.length
def ratQ (T : Int) (l : List Mem) : Int := if spanQ l % (2 * T) = 0 then spanQ l / (2 * T) else spanQ l / (2 * T) + 1
def narM (r : Int) (m : Mem) : Mem := ⟨m.a, m.p, m.q.tdiv r⟩
def narL (T : Int) (l : List Mem) : List Mem := if spanQ l ≤ 2 * T then l else l.map (narM (ratQ T l))
theorem span_bd {l : List Mem} {B : Int} (hl : 0 < l.length) (hb : ∀ m ∈ l, -B ≤ m.q ∧ m.q ≤ B) : (-B ≤ loQ l l.length ∧ loQ l l.length ≤ hiQ l l.length ∧ hiQ l l.length ≤ B) := by
  obtain ⟨j, hj, e⟩ := loQ_in hl l.length (Nat.le_refl _)
  obtain ⟨i, hi, e'⟩ := hiQ_in hl l.length (Nat.le_refl _)
  have h1 := hb _ (mAt_mem hj)
  have h2 := hb _ (mAt_mem hi)
  have h3 := hiQ_ge l l.length j hj
  omega
theorem ratQ_spec {T : Int} {l : List Mem} (hT : 0 < T) (hs : 2 * T < spanQ l) : 1 ≤ ratQ T l ∧ ratQ T l ≤ spanQ l ∧ spanQ l ≤ 2 * T * ratQ T l := by
  have h1 := Int.mul_ediv_add_emod (spanQ l) (2 * T)
  have h2 := Int.emod_nonneg (spanQ l) (show 2 * T ≠ 0 by omega)
  have h3 := Int.emod_lt_of_pos (spanQ l) (show 0 < 2 * T by omega)
  have h4 : 1 ≤ spanQ l / (2 * T) := by
    rcases Int.lt_or_le 0 (spanQ l / (2 * T)) with h | h
    · exact h
    · have : 2 * T * (spanQ l / (2 * T)) ≤ 0 := Int.mul_nonpos_of_nonneg_of_nonpos (by omega) h
      omega
  have h5 : 2 * (spanQ l / (2 * T)) ≤ 2 * T * (spanQ l / (2 * T)) := Int.mul_le_mul_of_nonneg_right (by omega) (by omega)
  unfold ratQ
  split
  · omega
  · rw [Int.mul_add]; omega
theorem tdiv_bd {a r B : Int} (hr : 1 ≤ r) (h : -B ≤ a ∧ a ≤ B) : -B ≤ a.tdiv r ∧ a.tdiv r ≤ B := by
  rcases Int.lt_or_le a 0 with h0 | h0
  · have e : a.tdiv r = -((-a) / r) := by
      have : a = -(-a) := by omega
      rw [this, Int.neg_tdiv, Int.tdiv_eq_ediv_of_nonneg (by omega)]; simp
    have h1 : 0 ≤ (-a) / r := Int.ediv_nonneg (by omega) (by omega)
    have h2 : (-a) / r ≤ -a := Int.ediv_le_self _ (by omega)
    omega
  · have e : a.tdiv r = a / r := Int.tdiv_eq_ediv_of_nonneg h0
    have h1 : 0 ≤ a / r := Int.ediv_nonneg h0 (by omega)
    have h2 : a / r ≤ a := Int.ediv_le_self _ h0
    omega
theorem tdiv_neg_eq {a r : Int} (h : a < 0) : a.tdiv r = -((-a) / r) := by
  have : a = -(-a) := by omega
  rw [this, Int.neg_tdiv, Int.tdiv_eq_ediv_of_nonneg (by omega)]; simp
theorem tdiv_span {a b r D : Int} (hr : 1 ≤ r) (h : a - b ≤ D * r) (hD : 0 ≤ D) : a.tdiv r - b.tdiv r ≤ D := by
  have key : ∀ x : Int, 0 ≤ x → ∃ e, x = r * (x / r) + e ∧ 0 ≤ e ∧ e < r := fun x hx => ⟨x % r, by rw [Int.mul_ediv_add_emod], Int.emod_nonneg _ (by omega), Int.emod_lt_of_pos _ (by omega)⟩
  have hc : D * r = r * D := Int.mul_comm _ _
  rcases Int.lt_or_le a 0 with ha | ha <;> rcases Int.lt_or_le b 0 with hb | hb
  · rw [tdiv_neg_eq ha, tdiv_neg_eq hb]
    obtain ⟨e, h1, h2, h3⟩ := key (-a) (by omega)
    obtain ⟨e', h1', h2', h3'⟩ := key (-b) (by omega)
    generalize (-a) / r = x at *
    generalize (-b) / r = y at *
    rcases Int.lt_or_le D (-x - -y) with h4 | h4
    · have h5 : r * (D + 1) ≤ r * (y - x) := Int.mul_le_mul_of_nonneg_left (by omega) (by omega)
      rw [Int.mul_add, Int.mul_sub] at h5
      omega
    · exact h4
  · rw [tdiv_neg_eq ha, Int.tdiv_eq_ediv_of_nonneg hb]
    have h1 : 0 ≤ (-a) / r := Int.ediv_nonneg (by omega) (by omega)
    have h2 : 0 ≤ b / r := Int.ediv_nonneg hb (by omega)
    omega
  · rw [Int.tdiv_eq_ediv_of_nonneg ha, tdiv_neg_eq hb]
    obtain ⟨e, h1, h2, h3⟩ := key a ha
    obtain ⟨e', h1', h2', h3'⟩ := key (-b) (by omega)
    generalize a / r = x at *
    generalize (-b) / r = y at *
    rcases Int.lt_or_le D (x - -y) with h4 | h4
    · have h5 : r * (D + 1) ≤ r * (x + y) := Int.mul_le_mul_of_nonneg_left (by omega) (by omega)
      rw [Int.mul_add, Int.mul_add] at h5
      omega
    · exact h4
  · rw [Int.tdiv_eq_ediv_of_nonneg ha, Int.tdiv_eq_ediv_of_nonneg hb]
    obtain ⟨e, h1, h2, h3⟩ := key a ha
    obtain ⟨e', h1', h2', h3'⟩ := key b hb
    generalize a / r = x at *
    generalize b / r = y at *
    rcases Int.lt_or_le D (x - y) with h4 | h4
    · have h5 : r * (D + 1) ≤ r * (x - y) := Int.mul_le_mul_of_nonneg_left (by omega) (by omega)
      rw [Int.mul_add, Int.mul_sub] at h5
      omega
    · exact h4
theorem narL_length (T : Int) (l : List Mem) : (narL T l).length = l.length := by unfold narL; split <;> simp
theorem narL_bd {T B : Int} {l : List Mem} (hT : 0 < T) (hb : ∀ m ∈ l, -B ≤ m.q ∧ m.q ≤ B) : ∀ m ∈ narL T l, -B ≤ m.q ∧ m.q ≤ B := by
  unfold narL
  split
  · exact hb
  · rename_i h
    intro m hm
    simp only [List.mem_map] at hm
    obtain ⟨m', hm', rfl⟩ := hm
    exact tdiv_bd (ratQ_spec hT (by omega)).1 (hb m' hm')
theorem narL_span {T : Int} {l : List Mem} (hT : 0 < T) : ∀ x ∈ narL T l, ∀ y ∈ narL T l, x.q - y.q ≤ 2 * T := by
  have hsp : ∀ x ∈ l, ∀ y ∈ l, x.q - y.q ≤ spanQ l := fun x hx y hy => by
    obtain ⟨i, hi, rfl⟩ := mem_mAt hx
    obtain ⟨j, hj, rfl⟩ := mem_mAt hy
    have := hiQ_ge l l.length i hi
    have := loQ_le l l.length j hj
    unfold spanQ; omega
  unfold narL
  split
  · intro x hx y hy; have := hsp x hx y hy; omega
  · rename_i h
    intro x hx y hy
    simp only [List.mem_map] at hx hy
    obtain ⟨x', hx', rfl⟩ := hx
    obtain ⟨y', hy', rfl⟩ := hy
    obtain ⟨h1, _, h2⟩ := ratQ_spec hT (l := l) (by omega)
    exact tdiv_span h1 (by have := hsp x' hx' y' hy'; omega) (by omega)
/-! ### The mean -/
def sumQ (l : List Mem) : Int := (l.map Mem.q).sum
theorem sumQ_snoc {l : List Mem} {i : Nat} {m : Mem} (h : l[i]? = some m) : sumQ (l.take (i + 1)) = sumQ (l.take i) + m.q := by
  unfold sumQ; rw [List.take_add_one, h, List.map_append, List.sum_append]; simp
def meanQ (l : List Mem) : Int := sumQ l / (l.length : Int)
def cenM (a : Int) (m : Mem) : Mem := ⟨m.a, m.p, m.q - a⟩
def cenL (l : List Mem) : List Mem := l.map (cenM (meanQ l))
theorem sumQ_ge {l : List Mem} {A : Int} (h : ∀ m ∈ l, A ≤ m.q) : l.length * A ≤ sumQ l := by
  induction l with
  | nil => simp [sumQ]
  | cons m l ih =>
    have h1 := h m (by simp)
    have h2 := ih fun x hx => h x (by simp [hx])
    have e : sumQ (m :: l) = m.q + sumQ l := by simp [sumQ]
    rw [e, List.length_cons, Int.natCast_add, Int.add_mul]; omega
theorem sumQ_le {l : List Mem} {A : Int} (h : ∀ m ∈ l, m.q ≤ A) : sumQ l ≤ l.length * A := by
  induction l with
  | nil => simp [sumQ]
  | cons m l ih =>
    have h1 := h m (by simp)
    have h2 := ih fun x hx => h x (by simp [hx])
    have e : sumQ (m :: l) = m.q + sumQ l := by simp [sumQ]
    rw [e, List.length_cons, Int.natCast_add, Int.add_mul]; omega
theorem mean_ge {l : List Mem} {A : Int} (hl : 0 < l.length) (h : ∀ m ∈ l, A ≤ m.q) : A ≤ meanQ l := by
  unfold meanQ
  rw [Int.le_ediv_iff_mul_le (by omega), Int.mul_comm]; exact sumQ_ge h
theorem mean_le {l : List Mem} {A : Int} (hl : 0 < l.length) (h : ∀ m ∈ l, m.q ≤ A) : meanQ l ≤ A := by
  unfold meanQ
  have := Int.ediv_le_ediv (c := (l.length : Int)) (by omega) (sumQ_le h)
  rw [Int.mul_ediv_cancel_left _ (by omega)] at this; exact this
/-- Each is within the span of the mean. -/
theorem mean_span {l : List Mem} {D : Int} (hl : 0 < l.length) (h : ∀ x ∈ l, ∀ y ∈ l, x.q - y.q ≤ D) : ∀ m ∈ l, -D ≤ m.q - meanQ l ∧ m.q - meanQ l ≤ D := fun m hm => by
  have h1 := mean_ge (A := m.q - D) hl fun y hy => by have := h m hm y hy; omega
  have h2 := mean_le (A := m.q + D) hl fun y hy => by have := h y hy m hm; omega
  omega
theorem cenL_length (l : List Mem) : (cenL l).length = l.length := by simp [cenL]
/-! ### Renew -/
def fillQ (c : List Mem) (T : Int) (m : Mem) : Int := if 0 ≤ idxP (isA m.a) c then (mAt c (idxP (isA m.a) c).toNat).q else -(T + T / 8)
def fillM (c : List Mem) (T : Int) (m : Mem) : Mem := ⟨m.a, m.p, fillQ c T m⟩
def filL (c l : List Mem) : List Mem := (newL l).map (fillM c (sumP l))
def renL (c l : List Mem) : List Mem := cenL (narL (sumP l) (filL c l))
def renE (c l : List Mem) : Int := if soundE c ≠ 0 then soundE c else memE l
def renM (c l : List Mem) : List Mem := if renE c l = 0 then renL c l else []
theorem renE_bad {c l : List Mem} (h : soundE c ≠ 0) : renE c l = soundE c := by unfold renE; rw [if_pos h]
theorem renE_mem {c l : List Mem} (h : soundE c = 0) : renE c l = memE l := by unfold renE; rw [if_neg (by rw [h]; simp)]
theorem renM_bad {c l : List Mem} (h : renE c l ≠ 0) : renM c l = [] := by unfold renM; rw [if_neg h]
theorem renM_fine {c l : List Mem} (h : renE c l = 0) : renM c l = renL c l := by unfold renM; rw [if_pos h]
theorem newL_map_ap {f : Mem → Mem} (h : ∀ m, (f m).a = m.a ∧ (f m).p = m.p) (l : List Mem) : newL (l.map f) = newL l := by
  unfold newL; rw [List.map_map]
  exact List.map_congr_left fun m _ => by show (⟨(f m).a, (f m).p, 0⟩ : Mem) = _; rw [(h m).1, (h m).2]
theorem newL_newL (l : List Mem) : newL (newL l) = newL l := by unfold newL; rw [List.map_map]; rfl
theorem newL_nar (T : Int) (l : List Mem) : newL (narL T l) = newL l := by
  unfold narL; split
  · rfl
  · exact newL_map_ap (f := narM (ratQ T l)) (fun _ => ⟨rfl, rfl⟩) l
theorem newL_ren (c l : List Mem) : newL (renL c l) = newL l := by
  unfold renL cenL
  rw [newL_map_ap (f := cenM _) (fun _ => ⟨rfl, rfl⟩), newL_nar]
  unfold filL
  rw [newL_map_ap (f := fillM c _) (fun _ => ⟨rfl, rfl⟩), newL_newL]
theorem renL_length (c l : List Mem) : (renL c l).length = l.length := by unfold renL; rw [cenL_length, narL_length]; simp [filL, newL]
theorem idxP_lt {p : Mem → Bool} {c : List Mem} (h : 0 ≤ idxP p c) : (idxP p c).toNat < c.length := by
  unfold idxP at *
  split at h
  · rename_i i hi
    rw [List.findIdx?_eq_some_iff_getElem] at hi
    obtain ⟨h1, _⟩ := hi
    simpa using h1
  · omega
theorem fillQ_bd {c : List Mem} {T : Int} (hc : soundE c = 0) (hT0 : 0 ≤ T) (hT : T ≤ msK) (m : Mem) : -(7 * msK) ≤ fillQ c T m ∧ fillQ c T m ≤ 7 * msK := by
  obtain ⟨hf, hb⟩ := sound_fine hc
  have hms : msK = 1152921504606846975 := rfl
  unfold fillQ
  split
  · rename_i h
    have h1 := hb _ (mAt_mem (idxP_lt h))
    have h2 := hf.tot
    omega
  · omega
theorem filL_bd {c l : List Mem} (hc : soundE c = 0) (hT0 : 0 ≤ sumP l) (hT : sumP l ≤ msK) : ∀ m ∈ filL c l, -(7 * msK) ≤ m.q ∧ m.q ≤ 7 * msK := fun m hm => by
  unfold filL at hm
  simp only [List.mem_map] at hm
  obtain ⟨m', _, rfl⟩ := hm
  exact fillQ_bd hc hT0 hT m'
theorem renL_bd {c l : List Mem} (hl : 0 < l.length) (hT : 0 < sumP l) : ∀ m ∈ renL c l, -(2 * sumP l) ≤ m.q ∧ m.q ≤ 2 * sumP l := fun m hm => by
  unfold renL cenL at hm
  simp only [List.mem_map] at hm
  obtain ⟨m', hm', rfl⟩ := hm
  exact mean_span (by rw [narL_length]; simpa [filL, newL] using hl) (narL_span hT) m' hm'
/-- Floored division from the truncated one. -/
theorem floor_eq {p n : Int} (hn : 0 < n) : p / n = (if p.tmod n < 0 then p.tdiv n - 1 else p.tdiv n) ∧ p % n = (if p.tmod n < 0 then p.tmod n + n else p.tmod n) := by
  have h1 := Int.mul_tdiv_add_tmod p n
  have h2 := Int.tmod_lt_of_pos p hn
  have h3 : -n < p.tmod n := by
    have := Int.tmod_lt_of_pos (-p) hn
    rw [Int.neg_tmod] at this; omega
  rcases Int.lt_or_le (p.tmod n) 0 with h | h
  · rw [if_pos h, if_pos h]
    rw [Int.ediv_emod_unique hn]
    refine ⟨?_, by omega, by omega⟩
    rw [Int.mul_sub]; omega
  · rw [if_neg (by omega), if_neg (by omega)]
    rw [Int.ediv_emod_unique hn]
    exact ⟨by omega, h, h2⟩
def flA (n : Int) (l : List Mem) : Int := (l.map fun m => m.q / n).sum
def flR (n : Int) (l : List Mem) : Int := (l.map fun m => m.q % n).sum
theorem flA_snoc {n : Int} {l : List Mem} {i : Nat} {m : Mem} (h : l[i]? = some m) : flA n (l.take (i + 1)) = flA n (l.take i) + m.q / n ∧ flR n (l.take (i + 1)) = flR n (l.take i) + m.q % n := by
  unfold flA flR; rw [List.take_add_one, h, List.map_append, List.sum_append, List.map_append, List.sum_append]; simp
theorem fl_sum (n : Int) (l : List Mem) : n * flA n l + flR n l = sumQ l := by
  induction l with
  | nil => simp [flA, flR, sumQ]
  | cons m l ih =>
    have e1 : flA n (m :: l) = m.q / n + flA n l := by simp [flA]
    have e2 : flR n (m :: l) = m.q % n + flR n l := by simp [flR]
    have e3 : sumQ (m :: l) = m.q + sumQ l := by simp [sumQ]
    rw [e1, e2, e3, Int.mul_add, ← ih]
    have := Int.mul_ediv_add_emod m.q n
    omega
theorem fl_mean {l : List Mem} (hl : 0 < l.length) : flA l.length l + flR l.length l / l.length = meanQ l := by
  unfold meanQ
  have e : ∀ n A R : Int, 0 < n → (n * A + R) / n = A + R / n := fun n A R hn => by rw [Int.add_comm, Int.add_mul_ediv_left _ _ (by omega)]; omega
  rw [← fl_sum l.length l, e _ _ _ (by omega)]
theorem flR_bd {n : Int} (hn : 0 < n) (l : List Mem) : 0 ≤ flR n l ∧ flR n l ≤ l.length * n := by
  induction l with
  | nil => simp [flR]
  | cons m l ih =>
    have e2 : flR n (m :: l) = m.q % n + flR n l := by simp [flR]
    have := Int.emod_nonneg m.q (show n ≠ 0 by omega)
    have := Int.emod_lt_of_pos m.q hn
    rw [e2, List.length_cons, Int.natCast_add, Int.add_mul]; omega
theorem flA_bd {n B : Int} (hn : 0 < n) (hB : 0 ≤ B) {l : List Mem} (h : ∀ m ∈ l, -B ≤ m.q ∧ m.q ≤ B) : n * flA n l ≤ l.length * B ∧ -(l.length * B) - l.length * n ≤ n * flA n l := by
  have h1 := fl_sum n l
  have h2 := flR_bd hn l
  have h3 := sumQ_le fun m hm => (h m hm).2
  have h4 := sumQ_ge fun m hm => (h m hm).1
  rw [Int.mul_neg] at h4
  omega
theorem sumQ_bd {l : List Mem} (hf : l.length ≤ 64) (h : ∀ m ∈ l, -(7 * msK) ≤ m.q ∧ m.q ≤ 7 * msK) (i : Nat) : -516508834063867444800 ≤ sumQ (l.take i) ∧ sumQ (l.take i) ≤ 516508834063867444800 := by
  have h3 := sumQ_le (l := l.take i) fun m hm => (h m (List.mem_of_mem_take hm)).2
  have h4 := sumQ_ge (l := l.take i) fun m hm => (h m (List.mem_of_mem_take hm)).1
  have h5 : (l.take i).length ≤ 64 := by rw [List.length_take]; omega
  have hms : msK = 1152921504606846975 := rfl
  generalize (l.take i).length = k at *
  have h6 : (k : Int) * (7 * msK) ≤ 64 * (7 * msK) := Int.mul_le_mul_of_nonneg_right (by omega) (by omega)
  rw [Int.mul_neg] at h4
  omega
theorem flA_b {l : List Mem} (hl : 0 < l.length) (h : ∀ m ∈ l, -(7 * msK) ≤ m.q ∧ m.q ≤ 7 * msK) (hf : l.length ≤ 64) (i : Nat) (hi : i ≤ l.length) :
    -(7 * msK) - 64 ≤ flA l.length (l.take i) ∧ flA l.length (l.take i) ≤ 7 * msK ∧ 0 ≤ flR l.length (l.take i) ∧ flR l.length (l.take i) ≤ 4096 := by
  have hms : msK = 1152921504606846975 := rfl
  have hk : (l.take i).length = i := by rw [List.length_take]; omega
  obtain ⟨h1, h2⟩ := flA_bd (n := (l.length : Int)) (B := 7 * msK) (by omega) (by omega) (l := l.take i) fun m hm => h m (List.mem_of_mem_take hm)
  obtain ⟨h3, h4⟩ := flR_bd (n := (l.length : Int)) (by omega) (l.take i)
  rw [hk] at h1 h2 h4
  have a1 : (i : Int) * (7 * msK) ≤ (l.length : Int) * (7 * msK) := Int.mul_le_mul_of_nonneg_right (by omega) (by omega)
  have a2 : (i : Int) * (l.length : Int) ≤ (l.length : Int) * (l.length : Int) := Int.mul_le_mul_of_nonneg_right (by omega) (by omega)
  have a3 : (l.length : Int) * (l.length : Int) ≤ 64 * 64 := by
    have b1 : (l.length : Int) * (l.length : Int) ≤ 64 * (l.length : Int) := Int.mul_le_mul_of_nonneg_right (by omega) (by omega)
    omega
  have a4 : (l.length : Int) * flA l.length (l.take i) ≤ (l.length : Int) * (7 * msK) := by omega
  have a5 : (l.length : Int) * (-(7 * msK) - l.length) ≤ (l.length : Int) * flA l.length (l.take i) := by
    rw [Int.mul_sub, Int.mul_neg]; omega
  have a6 := Int.le_of_mul_le_mul_left a4 (by omega)
  have a7 := Int.le_of_mul_le_mul_left a5 (by omega)
  refine ⟨by omega, a6, h3, by omega⟩
theorem wrap_span {a b : Int} (h0 : 0 ≤ a - b) (h1 : a - b ≤ 18446744073709551615) : IntKind.u64.wrap (IntKind.u64.wrap a - IntKind.u64.wrap b) = a - b := by
  have e : ∀ x : Int, IntKind.u64.wrap x = x % 18446744073709551616 := fun x => by
    unfold IntKind.wrap; simp [IntKind.signed, IntKind.bits]
  rw [e, e, e]; omega
end Go.Proofs.Ytfhjhaogmdaepaa
