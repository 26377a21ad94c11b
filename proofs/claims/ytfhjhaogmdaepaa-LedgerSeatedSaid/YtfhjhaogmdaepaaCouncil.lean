/- Plain: what is sound, who is chosen: the council's reckonings. -/
import Derived.Test.YtfhjhaogmdaepaaEngN
import Derived.Test.YtfhjhaogmdaepaaCup
set_option linter.unusedVariables false
set_option linter.unusedSimpArgs false
namespace Go.Proofs.Ytfhjhaogmdaepaa
open Go Go.RowKit
/-- A member: address, power, priority. -/
structure Mem where
  a : Int
  p : Int
  q : Int
def Mem.cells (m : Mem) : List Value := [.int .u64 m.a, .int .u64 m.p, .int .i64 m.q]
def memC (l : List Mem) : List Value := l.flatMap Mem.cells
theorem mem_len (l : List Mem) : ∀ m ∈ l, m.cells.length = 3 := fun _ _ => rfl
theorem memC_length (l : List Mem) : (memC l).length = l.length * 3 := rows_length (mem_len l)
theorem memC_append (l k : List Mem) : memC (l ++ k) = memC l ++ memC k := by unfold memC; rw [List.flatMap_append]
theorem memC_one (l : List Mem) : ∀ v ∈ memC l, v.oneCell' = true := rows_one fun m _ v hv => by
  simp only [Mem.cells, List.mem_cons, List.not_mem_nil, or_false] at hv
  rcases hv with rfl | rfl | rfl <;> rfl
theorem Mem.cells_inj {m n : Mem} (h : m.cells = n.cells) : m = n := by
  cases m; cases n
  simp only [Mem.cells, List.cons.injEq, Value.int.injEq, and_true, true_and] at h
  obtain ⟨rfl, rfl, rfl⟩ := h; rfl
theorem Mem.cells_one (m : Mem) : ∀ v ∈ m.cells, v.oneCell' = true := fun v hv => by
  simp only [Mem.cells, List.mem_cons, List.not_mem_nil, or_false] at hv
  rcases hv with rfl | rfl | rfl <;> rfl
theorem Mem.cells_kind (m n : Mem) (i : Nat) (x y : Value) (hx : m.cells[i]? = some x) (hy : n.cells[i]? = some y) : ∃ k a b, x = .int k a ∧ y = .int k b := by
  match i, hx, hy with
  | 0, hx, hy => exact ⟨_, _, _, (Option.some.inj hx).symm, (Option.some.inj hy).symm⟩
  | 1, hx, hy => exact ⟨_, _, _, (Option.some.inj hx).symm, (Option.some.inj hy).symm⟩
  | 2, hx, hy => exact ⟨_, _, _, (Option.some.inj hx).symm, (Option.some.inj hy).symm⟩
def Mem.ok (m : Mem) : Prop := (0 ≤ m.a ∧ m.a ≤ 18446744073709551615) ∧ (0 ≤ m.p ∧ m.p ≤ 18446744073709551615) ∧ (-9223372036854775808 ≤ m.q ∧ m.q ≤ 9223372036854775807)
theorem rd_mem {C : Cx} {F : Fx} {rs : List HP} {b j i k : Nat} {l : List Mem} {m : Mem} {v : Value} (hp : RowAt F.w ⟨b, j, none⟩ (memC l)) (hf : F.h b = none) (hm : l[i]? = some m) (hv : m.cells[k]? = some v) : Rd C F rs ⟨b, j + i * 3 + k, none⟩ v := by
  have := hp (i * 3 + k) v (rows_at (mem_len l) hm k v hv)
  rw [add_zero_off, ← Nat.add_assoc] at this
  exact Rd.old this hf
theorem rds_mem {C : Cx} {F : Fx} {rs : List HP} {b j i : Nat} {l : List Mem} {m : Mem} (hp : RowAt F.w ⟨b, j, none⟩ (memC l)) (hf : F.h b = none) (hm : l[i]? = some m) : Rds C F rs ⟨b, j + i * 3, none⟩ m.cells :=
  (Rds.row hp hf).part (i * 3) fun k v hv => rows_at (mem_len l) hm k v hv
/-! ### What is sound -/
def msK : Int := 1152921504606846975
def sumP (l : List Mem) : Int := (l.map Mem.p).sum
theorem sumP_cons (m : Mem) (l : List Mem) : sumP (m :: l) = m.p + sumP l := by simp [sumP]
theorem sumP_append (l k : List Mem) : sumP (l ++ k) = sumP l + sumP k := by simp [sumP]
theorem sumP_nonneg {l : List Mem} (h : ∀ m ∈ l, 0 ≤ m.p) : 0 ≤ sumP l := by
  induction l with
  | nil => exact Int.le_refl _
  | cons m l ih => rw [sumP_cons]; have := h m (by simp); have := ih fun x hx => h x (by simp [hx]); omega
theorem sumP_snoc {l : List Mem} {i : Nat} {m : Mem} (h : l[i]? = some m) : sumP (l.take (i + 1)) = sumP (l.take i) + m.p := by
  rw [List.take_add_one, h, sumP_append]
  simp [sumP]
theorem sumP_take {l : List Mem} (h : ∀ m ∈ l, 0 ≤ m.p) (i : Nat) : sumP (l.take i) ≤ sumP l := by
  have e : sumP l = sumP (l.take i) + sumP (l.drop i) := by rw [← sumP_append, List.take_append_drop]
  have := sumP_nonneg (l := l.drop i) fun m hm => h m (List.mem_of_mem_drop hm)
  omega
def totOk (l : List Mem) : Bool := decide (sumP l ≤ msK)
def totV (l : List Mem) : Int := if sumP l ≤ msK then sumP l else 0
def mAt (l : List Mem) (i : Nat) : Mem := l.getD i ⟨0, 0, 0⟩
theorem mAt_of {l : List Mem} {i : Nat} {m : Mem} (h : l[i]? = some m) : mAt l i = m := by simp [mAt, List.getD, h]
def badAt (l : List Mem) (i : Nat) : Int := if (mAt l i).a = 0 then 85 else if 0 < i ∧ (mAt l i).a ≤ (mAt l (i - 1)).a then 52 else if (mAt l i).p = 0 ∨ msK < (mAt l i).p then 50 else 0
def bads (l : List Mem) : Nat → Int
  | 0 => 0
  | k + 1 => if bads l k = 0 then badAt l k else bads l k
theorem bads_stay {l : List Mem} {k : Nat} (h : bads l k ≠ 0) : ∀ n, bads l (k + n) = bads l k
  | 0 => rfl
  | n + 1 => by
    have ih := bads_stay h n
    show (if bads l (k + n) = 0 then badAt l (k + n) else bads l (k + n)) = _
    rw [ih, if_neg h]
theorem bads_hit {l : List Mem} {i n : Nat} {e : Int} (h0 : bads l i = 0) (hb : badAt l i = e) (he : e ≠ 0) (hi : i < n) : bads l n = e := by
  have h1 : bads l (i + 1) = e := by show (if bads l i = 0 then badAt l i else bads l i) = e; rw [if_pos h0, hb]
  have := bads_stay (l := l) (k := i + 1) (by rw [h1]; exact he) (n - (i + 1))
  rw [show i + 1 + (n - (i + 1)) = n by omega, h1] at this
  exact this
theorem bads_next {l : List Mem} {i : Nat} (h0 : bads l i = 0) (hb : badAt l i = 0) : bads l (i + 1) = 0 := by show (if bads l i = 0 then badAt l i else bads l i) = 0; rw [if_pos h0, hb]
def memE (l : List Mem) : Int := if l.length = 0 then 53 else if 64 < l.length then 4 else if bads l l.length ≠ 0 then bads l l.length else if sumP l ≤ msK then 0 else 51
def memT (l : List Mem) : Int := if memE l = 0 then sumP l else 0
theorem memE_bad {l : List Mem} {i : Nat} {e : Int} (h1 : ¬ l.length = 0) (h2 : ¬ 64 < l.length) (h0 : bads l i = 0) (hb : badAt l i = e) (he : e ≠ 0) (hi : i < l.length) : memE l = e := by
  unfold memE
  rw [if_neg h1, if_neg h2, bads_hit h0 hb he hi, if_pos he]
theorem memE_fine {l : List Mem} (h1 : ¬ l.length = 0) (h2 : ¬ 64 < l.length) (h0 : bads l l.length = 0) : memE l = if sumP l ≤ msK then 0 else 51 := by
  unfold memE; rw [if_neg h1, if_neg h2, h0]; simp
theorem badAt_zero {l : List Mem} {i : Nat} {m : Mem} (hm : l[i]? = some m) (h1 : ¬ m.a = 0) (h2 : ∀ m', 0 < i → l[i - 1]? = some m' → ¬ m.a ≤ m'.a) (h3 : ¬ m.p = 0) (h4 : ¬ msK < m.p) : badAt l i = 0 := by
  unfold badAt
  rw [mAt_of hm, if_neg h1, if_neg, if_neg (by omega)]
  rintro ⟨hi, hle⟩
  have hlt := (List.getElem?_eq_some_iff.1 hm).1
  have hp : l[i - 1]? = some l[i - 1] := List.getElem?_eq_getElem (by omega)
  rw [mAt_of hp] at hle
  exact h2 _ hi hp hle
def outQ (T : Int) (m : Mem) : Bool := decide (m.q < -(7 * T)) || decide (7 * T < m.q)
def soundE (l : List Mem) : Int := if memE l ≠ 0 then memE l else if l.any (outQ (sumP l)) then 2 else 0
def soundT (l : List Mem) : Int := if soundE l = 0 then sumP l else 0
theorem memE_of_sound {l : List Mem} (h : soundE l = 0) : memE l = 0 := by
  unfold soundE at h
  by_cases h1 : memE l = 0
  · exact h1
  · rw [if_pos h1] at h; exact absurd h h1
theorem soundE_mem {l : List Mem} (he : memE l = 0) : soundE l = if l.any (outQ (sumP l)) then 2 else 0 := by unfold soundE; rw [if_neg (by rw [he]; simp)]
structure Fine (l : List Mem) : Prop where
  pos : 0 < l.length
  few : l.length ≤ 64
  no : bads l l.length = 0
  tot : sumP l ≤ msK
theorem fine_of {l : List Mem} (h : memE l = 0) : Fine l := by
  unfold memE at h
  split at h
  · cases h
  · split at h
    · cases h
    · split at h
      · rename_i h3; exact absurd h h3
      · split at h
        · exact ⟨by omega, by omega, by rename_i h3 _; exact Classical.not_not.1 h3, ‹_›⟩
        · cases h
theorem bads_down {l : List Mem} {n : Nat} (h : bads l n = 0) : ∀ k, k ≤ n → bads l k = 0 := fun k hk => by
  by_cases h0 : bads l k = 0
  · exact h0
  · have := bads_stay h0 (n - k)
    rw [show k + (n - k) = n by omega, h] at this
    exact this.symm
theorem Fine.badAt {l : List Mem} (h : Fine l) {i : Nat} (hi : i < l.length) : Go.Proofs.Ytfhjhaogmdaepaa.badAt l i = 0 := by
  have h1 := bads_down h.no i (by omega)
  have h2 := bads_down h.no (i + 1) (by omega)
  have h3 : (if bads l i = 0 then Go.Proofs.Ytfhjhaogmdaepaa.badAt l i else bads l i) = 0 := h2
  rwa [if_pos h1] at h3
theorem Fine.at_ {l : List Mem} (h : Fine l) {i : Nat} {m : Mem} (hm : l[i]? = some m) : m.a ≠ 0 ∧ m.p ≠ 0 ∧ m.p ≤ msK ∧ ∀ m', 0 < i → l[i - 1]? = some m' → m'.a < m.a := by
  have hb := h.badAt (List.getElem?_eq_some_iff.1 hm).1
  unfold Go.Proofs.Ytfhjhaogmdaepaa.badAt at hb
  rw [mAt_of hm] at hb
  split at hb
  · cases hb
  · rename_i h1
    split at hb
    · cases hb
    · rename_i h2
      split at hb
      · cases hb
      · rename_i h3
        refine ⟨h1, by omega, by omega, fun m' hi hm' => ?_⟩
        rw [mAt_of hm'] at h2
        omega
theorem sound_fine {l : List Mem} (h : soundE l = 0) : Fine l ∧ ∀ m ∈ l, -(7 * sumP l) ≤ m.q ∧ m.q ≤ 7 * sumP l := by
  refine ⟨fine_of (memE_of_sound h), fun m hm => ?_⟩
  unfold soundE at h
  rw [if_neg (by rw [memE_of_sound h]; simp)] at h
  split at h
  · cases h
  · rename_i h2
    have : outQ (sumP l) m = false := by
      cases e : outQ (sumP l) m with
      | false => rfl
      | true => exact absurd (List.any_eq_true.2 ⟨m, hm, e⟩) h2
    unfold outQ at this
    simp at this; omega
/-! ### Searches -/
def idxP (p : Mem → Bool) (l : List Mem) : Int := match l.findIdx? p with | some i => i | none => -1
theorem idxP_hit {p : Mem → Bool} {l : List Mem} {i : Nat} {m : Mem} (h0 : ∀ j m', j < i → l[j]? = some m' → p m' = false) (hm : l[i]? = some m) (hp : p m = true) : idxP p l = i := by
  unfold idxP
  have : l.findIdx? p = some i := by
    rw [List.findIdx?_eq_some_iff_getElem]
    have hlt := (List.getElem?_eq_some_iff.1 hm).1
    refine ⟨hlt, ?_, fun j hj => ?_⟩
    · rw [List.getElem?_eq_getElem hlt, Option.some.injEq] at hm; rw [hm]; exact hp
    · simp [h0 j _ hj (List.getElem?_eq_getElem (by omega))]
  rw [this]
theorem idxP_none {p : Mem → Bool} {l : List Mem} (h0 : ∀ j m', j < l.length → l[j]? = some m' → p m' = false) : idxP p l = -1 := by
  unfold idxP
  have : l.findIdx? p = none := by
    rw [List.findIdx?_eq_none_iff]
    intro x hx
    obtain ⟨i, hi, e⟩ := List.mem_iff_getElem.1 hx
    exact h0 i x hi (by rw [List.getElem?_eq_getElem hi, e])
  rw [this]
theorem idxP_any (p : Mem → Bool) (l : List Mem) : decide (0 ≤ idxP p l) = l.any p := by
  unfold idxP
  cases h : l.findIdx? p with
  | none =>
    rw [List.findIdx?_eq_none_iff] at h
    have : l.any p = false := by rw [List.any_eq_false]; intro x hx; simp [h x hx]
    rw [this]; rfl
  | some i =>
    rw [List.findIdx?_eq_some_iff_getElem] at h
    obtain ⟨hi, hp, _⟩ := h
    have : l.any p = true := List.any_eq_true.2 ⟨l[i], List.getElem_mem hi, hp⟩
    rw [this]; exact decide_eq_true (by simp)
def isA (a : Int) (m : Mem) : Bool := decide (m.a = a)
def newL (l : List Mem) : List Mem := l.map fun m => ⟨m.a, m.p, 0⟩
def zeroN (l : List Mem) (i : Nat) : List Mem := newL (l.take i) ++ l.drop i
theorem zeroN_length (l : List Mem) (i : Nat) : (zeroN l i).length = l.length := by simp [zeroN, newL]; omega
theorem zeroN_at {l : List Mem} {i : Nat} {m : Mem} (h : l[i]? = some m) : (zeroN l i)[i]? = some m := by
  have hlt := (List.getElem?_eq_some_iff.1 h).1
  unfold zeroN newL
  rw [List.getElem?_append_right (by simp only [List.length_map, List.length_take]; exact Nat.min_le_left _ _)]
  simp [Nat.min_eq_left (Nat.le_of_lt hlt), h]
theorem zeroN_step {l : List Mem} {i : Nat} {m : Mem} (h : l[i]? = some m) : (zeroN l i).set i ⟨m.a, m.p, 0⟩ = zeroN l (i + 1) := by
  have hlt := (List.getElem?_eq_some_iff.1 h).1
  unfold zeroN newL
  rw [List.set_append_right _ _ (by simp only [List.length_map, List.length_take]; exact Nat.min_le_left _ _), List.take_add_one, h]
  simp only [List.length_map, List.length_take, Nat.min_eq_left (Nat.le_of_lt hlt), Nat.sub_self, List.map_append, Option.toList_some, List.map_cons, List.map_nil, List.append_assoc, List.singleton_append]
  rw [List.drop_eq_getElem_cons hlt, List.set_cons_zero]
theorem zeroN_zero (l : List Mem) : zeroN l 0 = l := by simp [zeroN, newL]
theorem zeroN_full (l : List Mem) : zeroN l l.length = newL l := by simp [zeroN]
theorem newL_length (l : List Mem) : (newL l).length = l.length := by simp [newL]
theorem newL_sum (l : List Mem) : sumP (newL l) = sumP l := by simp [newL, sumP, Function.comp_def]
theorem newL_at {l : List Mem} {i : Nat} {m : Mem} (h : l[i]? = some m) : (newL l)[i]? = some ⟨m.a, m.p, 0⟩ := by simp [newL, h]
theorem newL_mAt (l : List Mem) (i : Nat) : (mAt (newL l) i).a = (mAt l i).a ∧ (mAt (newL l) i).p = (mAt l i).p := by
  cases h : l[i]? with
  | none =>
    have h1 : mAt l i = ⟨0, 0, 0⟩ := by simp [mAt, List.getD, h]
    have h2 : mAt (newL l) i = ⟨0, 0, 0⟩ := by simp [mAt, List.getD, newL, h]
    rw [h1, h2]; exact ⟨rfl, rfl⟩
  | some m => rw [mAt_of h, mAt_of (newL_at h)]; exact ⟨rfl, rfl⟩
theorem newL_bads (l : List Mem) (k : Nat) : bads (newL l) k = bads l k := by
  induction k with
  | zero => rfl
  | succ k ih =>
    show (if bads (newL l) k = 0 then badAt (newL l) k else bads (newL l) k) = (if bads l k = 0 then badAt l k else bads l k)
    rw [ih]
    unfold badAt
    rw [(newL_mAt l k).1, (newL_mAt l k).2, (newL_mAt l (k - 1)).1]
theorem newL_memE (l : List Mem) : memE (newL l) = memE l := by unfold memE; rw [newL_length, newL_bads, newL_sum]
theorem newL_soundE (l : List Mem) (hp : ∀ m ∈ l, 0 ≤ m.p) (h : memE l = 0) : soundE (newL l) = 0 := by
  unfold soundE
  rw [newL_memE, if_neg (by rw [h]; simp), if_neg]
  intro hx
  obtain ⟨m, hm, ho⟩ := List.any_eq_true.1 hx
  simp only [newL, List.mem_map] at hm
  obtain ⟨m', hm', rfl⟩ := hm
  have hs : 0 ≤ sumP (newL l) := by
    rw [newL_sum]; exact sumP_nonneg hp
  unfold outQ at ho
  simp at ho; omega
/-- The reference's total. -/
def rtG : Int → List Mem → Int
  | t, [] => t
  | t, m :: l => if msK < t ∨ msK < m.p then msK + 1 else rtG (t + m.p) l
def rtV (l : List Mem) : Int := rtG 0 l
theorem rtG_spec {l : List Mem} (h : ∀ m ∈ l, 0 ≤ m.p) : ∀ t, 0 ≤ t → rtG t l = t + sumP l ∨ (msK < rtG t l ∧ msK < t + sumP l) := by
  induction l with
  | nil => intro t ht; left; simp [rtG, sumP]
  | cons m l ih =>
    intro t ht
    have h0 := h m (by simp)
    have hs := sumP_nonneg (l := l) fun x hx => h x (by simp [hx])
    have hms : msK = 1152921504606846975 := rfl
    unfold rtG
    rw [sumP_cons]
    split
    · right; omega
    · rcases ih (fun x hx => h x (by simp [hx])) (t + m.p) (by omega) with e | e
      · left; omega
      · right; omega
theorem rtV_small {l : List Mem} (h : ∀ m ∈ l, 0 ≤ m.p) (hs : sumP l ≤ msK) : rtV l = sumP l := by
  have := rtG_spec h 0 (Int.le_refl _)
  unfold rtV; omega
theorem rtV_big {l : List Mem} (h : ∀ m ∈ l, 0 ≤ m.p) : msK < rtV l ↔ msK < sumP l := by
  have := rtG_spec h 0 (Int.le_refl _)
  unfold rtV; omega
theorem drop_at {α : Type} {l : List α} {i : Nat} {x : α} (h : l[i]? = some x) : l.drop i = x :: l.drop (i + 1) := by
  have hlt := (List.getElem?_eq_some_iff.1 h).1
  rw [List.drop_eq_getElem_cons hlt]
  rw [List.getElem?_eq_getElem hlt, Option.some.injEq] at h
  rw [h]
theorem any_take_next {p : Mem → Bool} {l : List Mem} {i : Nat} {m : Mem} (h : (l.take i).any p = false) (hm : l[i]? = some m) (hp : p m = false) : (l.take (i + 1)).any p = false := by
  rw [List.take_add_one, hm, List.any_append, h]; simp [hp]
theorem any_hit {p : Mem → Bool} {l : List Mem} {i : Nat} {m : Mem} (hm : l[i]? = some m) (hp : p m = true) : l.any p = true := List.any_eq_true.2 ⟨m, List.mem_of_getElem? hm, hp⟩
theorem newL_snoc {l : List Mem} {i : Nat} {m : Mem} (hm : l[i]? = some m) : newL (l.take (i + 1)) = newL (l.take i) ++ [⟨m.a, m.p, 0⟩] := by unfold newL; rw [List.take_add_one, hm, List.map_append]; rfl
theorem memC_snoc (l : List Mem) (m : Mem) : memC l ++ m.cells = memC (l ++ [m]) := rows_snoc l m
theorem newL_ok {l : List Mem} (h : ∀ m ∈ l, m.ok) : ∀ m ∈ newL l, m.ok := fun m hm => by
  simp only [newL, List.mem_map] at hm
  obtain ⟨m', hm', rfl⟩ := hm
  obtain ⟨h1, h2, h3⟩ := h m' hm'
  exact ⟨h1, h2, by show -9223372036854775808 ≤ (0 : Int) ∧ (0 : Int) ≤ 9223372036854775807; omega⟩
/-- What New answers. -/
def newM (l : List Mem) : List Mem := if memE l = 0 then newL l else []
theorem newM_bad {l : List Mem} (h : memE l ≠ 0) : newM l = [] := by unfold newM; rw [if_neg h]
theorem newM_fine {l : List Mem} (h : memE l = 0) : newM l = newL l := by unfold newM; rw [if_pos h]
theorem newL_soundE_eq (l : List Mem) (hp : ∀ m ∈ l, 0 ≤ m.p) : soundE (newL l) = memE l := by
  by_cases h : memE l = 0
  · rw [newL_soundE l hp h, h]
  · unfold soundE; rw [newL_memE, if_pos h]
def marks : List Mem := [⟨777, 0, 0⟩, ⟨778, 0, 0⟩]
end Go.Proofs.Ytfhjhaogmdaepaa
