/- Plain: turns of a council. -/
import Derived.Test.YtfhjhaogmdaepaaCouncil
set_option linter.unusedVariables false
set_option linter.unusedSimpArgs false
namespace Go.Proofs.Ytfhjhaogmdaepaa
open Go Go.RowKit
def cmpI (x y : Int) : Int := if x < y then -1 else if y < x then 1 else 0
def orI (x y : Int) : Int := if x ≠ 0 then x else y
def firstI (a b : Mem) : Int := orI (cmpI b.q a.q) (cmpI a.a b.a)
theorem firstI_neg {a b : Mem} (h : ¬ a.a < b.a) : firstI a b < 0 ↔ b.q < a.q := by
  unfold firstI orI cmpI
  split <;> (repeat' split) <;> omega
def bumpM (T : Int) (m : Mem) : Mem := ⟨m.a, m.p, if 7 * T < m.q + m.p then 7 * T else m.q + m.p⟩
def payM (T : Int) (m : Mem) : Mem := ⟨m.a, m.p, if -(7 * T) > m.q - T then -(7 * T) else m.q - T⟩
def bumpN (T : Int) (l : List Mem) (i : Nat) : List Mem := (l.take i).map (bumpM T) ++ l.drop i
def bumpL (T : Int) (l : List Mem) : List Mem := l.map (bumpM T)
def bestF (b : List Mem) : Nat → Nat
  | 0 => 0
  | k + 1 => if (mAt b (bestF b k)).q < (mAt b k).q then k else bestF b k
theorem bestF_lt (b : List Mem) : ∀ k, 0 < k → bestF b k < k
  | 1, _ => by unfold bestF; split <;> simp [bestF]
  | k + 2, _ => by
    have := bestF_lt b (k + 1) (by omega)
    show (if (mAt b (bestF b (k + 1))).q < (mAt b (k + 1)).q then k + 1 else bestF b (k + 1)) < k + 2
    split <;> omega
theorem bestF_le (b : List Mem) (k : Nat) : bestF b k ≤ k := by
  cases k with
  | zero => exact Nat.le_refl _
  | succ k => exact Nat.le_of_lt (bestF_lt b (k + 1) (by omega))
theorem bestF_max (b : List Mem) : ∀ k j, j < k → (mAt b j).q ≤ (mAt b (bestF b k)).q
  | k + 1, j, hj => by
    show (mAt b j).q ≤ (mAt b (if (mAt b (bestF b k)).q < (mAt b k).q then k else bestF b k)).q
    by_cases e : j = k
    · subst e; split <;> omega
    · have := bestF_max b k j (by omega)
      split <;> omega
def chosen (T : Int) (l : List Mem) : Nat := bestF (bumpL T l) l.length
def onceL (T : Int) (l : List Mem) : List Mem := (bumpL T l).set (chosen T l) (payM T (mAt (bumpL T l) (chosen T l)))
def choA (T : Int) (l : List Mem) : Int := (mAt (bumpL T l) (chosen T l)).a
def turnsL (T : Int) : Nat → List Mem → List Mem
  | 0, l => l
  | k + 1, l => onceL T (turnsL T k l)
theorem bumpL_length (T : Int) (l : List Mem) : (bumpL T l).length = l.length := by simp [bumpL]
theorem bumpN_length (T : Int) (l : List Mem) (i : Nat) : (bumpN T l i).length = l.length := by simp [bumpN]; omega
theorem onceL_length (T : Int) (l : List Mem) : (onceL T l).length = l.length := by simp [onceL, bumpL]
theorem turnsL_length (T : Int) (l : List Mem) : ∀ k, (turnsL T k l).length = l.length
  | 0 => rfl
  | k + 1 => (onceL_length _ _).trans (turnsL_length T l k)
theorem bumpN_zero (T : Int) (l : List Mem) : bumpN T l 0 = l := by simp [bumpN]
theorem bumpN_full (T : Int) (l : List Mem) : bumpN T l l.length = bumpL T l := by simp [bumpN, bumpL]
theorem bumpN_at {T : Int} {l : List Mem} {i : Nat} {m : Mem} (h : l[i]? = some m) : (bumpN T l i)[i]? = some m := by
  have hlt := (List.getElem?_eq_some_iff.1 h).1
  unfold bumpN
  rw [List.getElem?_append_right (by simp only [List.length_map, List.length_take]; exact Nat.min_le_left _ _)]
  simp [Nat.min_eq_left (Nat.le_of_lt hlt), h]
theorem bumpN_step {T : Int} {l : List Mem} {i : Nat} {m : Mem} (h : l[i]? = some m) : (bumpN T l i).set i (bumpM T m) = bumpN T l (i + 1) := by
  have hlt := (List.getElem?_eq_some_iff.1 h).1
  unfold bumpN
  rw [List.set_append_right _ _ (by simp only [List.length_map, List.length_take]; exact Nat.min_le_left _ _), List.take_add_one, h]
  simp only [List.length_map, List.length_take, Nat.min_eq_left (Nat.le_of_lt hlt), Nat.sub_self, List.map_append, Option.toList_some, List.map_cons, List.map_nil, List.append_assoc, List.singleton_append]
  rw [List.drop_eq_getElem_cons hlt, List.set_cons_zero]
theorem bumpL_at {T : Int} {l : List Mem} {i : Nat} {m : Mem} (h : l[i]? = some m) : (bumpL T l)[i]? = some (bumpM T m) := by simp [bumpL, h]
theorem bumpN_old {T : Int} {l : List Mem} {i j : Nat} {m : Mem} (h : l[j]? = some m) (hj : j < i) : (bumpN T l i)[j]? = some (bumpM T m) := by
  have hlt := (List.getElem?_eq_some_iff.1 h).1
  unfold bumpN
  rw [List.getElem?_append_left (by simp only [List.length_map, List.length_take]; omega), List.getElem?_map, List.getElem?_take, if_pos hj, h]; rfl
theorem bumpL_mAt {T : Int} {l : List Mem} {i : Nat} {m : Mem} (h : l[i]? = some m) : mAt (bumpL T l) i = bumpM T m := mAt_of (bumpL_at h)
/-- What may take turns. -/
structure Sane (T : Int) (l : List Mem) : Prop where
  t0 : 0 ≤ T
  t1 : T ≤ msK
  pos : 0 < l.length
  few : l.length ≤ 64
  ok : ∀ m ∈ l, m.ok
  pw : ∀ m ∈ l, m.p ≤ msK
  bd : ∀ m ∈ l, -(7 * T) ≤ m.q ∧ m.q ≤ 7 * T
  srt : ∀ (i j : Nat) (x y : Mem), i < j → l[i]? = some x → l[j]? = some y → x.a < y.a
theorem Fine.srt {l : List Mem} (h : Fine l) : ∀ (j i : Nat) (x y : Mem), i < j → l[i]? = some x → l[j]? = some y → x.a < y.a
  | 0, i, x, y, hij, _, _ => by omega
  | j + 1, i, x, y, hij, hx, hy => by
    have hlt := (List.getElem?_eq_some_iff.1 hy).1
    have hz : l[j]? = some l[j] := List.getElem?_eq_getElem (by omega)
    have h1 := (h.at_ hy).2.2.2 l[j] (by omega) (by simp)
    by_cases e : i = j
    · subst e; rw [hz] at hx; obtain rfl := Option.some.inj hx; exact h1
    · have := h.srt j i x _ (by omega) hx hz
      omega
theorem sane_of {l : List Mem} (hok : ∀ m ∈ l, m.ok) (h : soundE l = 0) : Sane (sumP l) l := by
  obtain ⟨hf, hb⟩ := sound_fine h
  refine ⟨sumP_nonneg fun m hm => (hok m hm).2.1.1, hf.tot, hf.pos, hf.few, hok, fun m hm => ?_, hb, fun i j x y hij hx hy => hf.srt j i x y hij hx hy⟩
  obtain ⟨i, hi, e⟩ := List.mem_iff_getElem.1 hm
  exact (hf.at_ (by rw [List.getElem?_eq_getElem hi, e])).2.2.1
theorem onceL_at {T : Int} {l : List Mem} {i : Nat} {x : Mem} (h : (onceL T l)[i]? = some x) : ∃ m, l[i]? = some m ∧ x.a = m.a ∧ x.p = m.p ∧ (x = bumpM T m ∧ i ≠ chosen T l ∨ x = payM T (bumpM T m) ∧ i = chosen T l) := by
  unfold onceL at h
  have hlt : i < l.length := by have := (List.getElem?_eq_some_iff.1 h).1; simpa [bumpL] using this
  have hm : l[i]? = some l[i] := List.getElem?_eq_getElem hlt
  refine ⟨l[i], hm, ?_⟩
  by_cases e : i = chosen T l
  · rw [← e, List.getElem?_set_self (by rw [bumpL_length]; exact hlt), Option.some.injEq, bumpL_mAt hm] at h
    subst h; exact ⟨rfl, rfl, .inr ⟨rfl, e⟩⟩
  · rw [List.getElem?_set_ne (Ne.symm e), bumpL_at hm, Option.some.injEq] at h
    subst h; exact ⟨rfl, rfl, .inl ⟨rfl, e⟩⟩
theorem Sane.once {T : Int} {l : List Mem} (h : Sane T l) : Sane T (onceL T l) := by
  have hms : msK = 1152921504606846975 := rfl
  have h0 := h.t0
  have h1 := h.t1
  have key : ∀ x ∈ onceL T l, x.ok ∧ x.p ≤ msK ∧ -(7 * T) ≤ x.q ∧ x.q ≤ 7 * T := fun x hx => by
    obtain ⟨i, hi, e⟩ := List.mem_iff_getElem.1 hx
    obtain ⟨m, hm, ha, hp, hq⟩ := onceL_at (by rw [List.getElem?_eq_getElem hi, e])
    have hmm := List.mem_of_getElem? hm
    obtain ⟨o1, o2, o3⟩ := h.ok m hmm
    have hb := h.bd m hmm
    have hpw := h.pw m hmm
    have hqq : -(7 * T) ≤ x.q ∧ x.q ≤ 7 * T := by
      rcases hq with ⟨rfl, _⟩ | ⟨rfl, _⟩
      · simp only [bumpM]; split <;> omega
      · simp only [payM, bumpM]; split <;> split at * <;> omega
    refine ⟨⟨by rw [ha]; exact o1, by rw [hp]; exact o2, by omega, by omega⟩, by rw [hp]; exact hpw, hqq⟩
  refine ⟨h0, h1, by rw [onceL_length]; exact h.pos, by rw [onceL_length]; exact h.few, fun x hx => (key x hx).1, fun x hx => (key x hx).2.1, fun x hx => (key x hx).2.2, fun i j x y hij hx hy => ?_⟩
  obtain ⟨m, hm, ha, _⟩ := onceL_at hx
  obtain ⟨m', hm', ha', _⟩ := onceL_at hy
  rw [ha, ha']; exact h.srt i j m m' hij hm hm'
theorem Sane.turns {T : Int} {l : List Mem} (h : Sane T l) : ∀ k, Sane T (turnsL T k l)
  | 0 => h
  | k + 1 => (Sane.turns h k).once
theorem chosen_lt {T : Int} {l : List Mem} (h : 0 < l.length) : chosen T l < l.length := bestF_lt _ _ h
/-- What Turn and Proposer answer. -/
def turnE (l : List Mem) (n : Int) : Int := if soundE l ≠ 0 then soundE l else if n < 0 ∨ 65536 < n then 2 else 0
def turnM (l : List Mem) (n : Int) : List Mem := if turnE l n = 0 then turnsL (sumP l) n.toNat l else []
def propE (l : List Mem) (n : Int) : Int := if soundE l ≠ 0 then soundE l else if n < 0 ∨ 65535 < n then 2 else 0
def propA (l : List Mem) (n : Int) : Int := if propE l n = 0 then choA (sumP l) (turnsL (sumP l) n.toNat l) else 0
theorem turnE_bad {l : List Mem} {n : Int} (h : soundE l ≠ 0) : turnE l n = soundE l := by unfold turnE; rw [if_pos h]
theorem turnE_arg {l : List Mem} {n : Int} (h : soundE l = 0) (hn : n < 0 ∨ 65536 < n) : turnE l n = 2 := by unfold turnE; rw [if_neg (by rw [h]; simp), if_pos hn]
theorem turnE_fine {l : List Mem} {n : Int} (h : soundE l = 0) (hn : ¬ (n < 0 ∨ 65536 < n)) : turnE l n = 0 := by unfold turnE; rw [if_neg (by rw [h]; simp), if_neg hn]
theorem turnM_bad {l : List Mem} {n : Int} (h : turnE l n ≠ 0) : turnM l n = [] := by unfold turnM; rw [if_neg h]
theorem turnM_fine {l : List Mem} {n : Int} (h : turnE l n = 0) : turnM l n = turnsL (sumP l) n.toNat l := by unfold turnM; rw [if_pos h]
theorem propE_bad {l : List Mem} {n : Int} (h : soundE l ≠ 0) : propE l n = soundE l := by unfold propE; rw [if_pos h]
theorem propE_arg {l : List Mem} {n : Int} (h : soundE l = 0) (hn : n < 0 ∨ 65535 < n) : propE l n = 2 := by unfold propE; rw [if_neg (by rw [h]; simp), if_pos hn]
theorem propE_fine {l : List Mem} {n : Int} (h : soundE l = 0) (hn : ¬ (n < 0 ∨ 65535 < n)) : propE l n = 0 := by unfold propE; rw [if_neg (by rw [h]; simp), if_neg hn]
theorem rdo_mem {C : Cx} {F : Fx} {rs : List HP} {b i k n cap T : Nat} {l : List Mem} {m : Mem} {v : Value} (hh : Has rs (ownS T 3 (.slice (some ⟨b, 0, none⟩) n cap) n (memC l)) (ownS T 3 (.slice (some ⟨b, 0, none⟩) n cap) n (memC l)) rs) (hm : l[i]? = some m) (hv : m.cells[k]? = some v) : Rd C F rs ⟨b, 0 + i * 3 + k, none⟩ v := by
  rw [Nat.zero_add]; exact Rd.own hh (rows_at (mem_len l) hm k v hv)
theorem rdso_mem {C : Cx} {F : Fx} {rs : List HP} {b i n cap T : Nat} {l : List Mem} {m : Mem} (hh : Has rs (ownS T 3 (.slice (some ⟨b, 0, none⟩) n cap) n (memC l)) (ownS T 3 (.slice (some ⟨b, 0, none⟩) n cap) n (memC l)) rs) (hm : l[i]? = some m) : Rds C F rs ⟨b, 0 + i * 3, none⟩ m.cells :=
  Rds.sn (Sn.own hh rfl) fun k v hv => rows_at (mem_len l) hm k v hv
theorem memC_set {l : List Mem} {i : Nat} {m y : Mem} {v : Value} (hm : l[i]? = some m) (j : Nat) (hj : j < 3) (hy : y.cells = m.cells.set j v) : (memC l).set (0 + i * 3 + j) v = memC (l.set i y) := by
  rw [Nat.zero_add]; exact rows_set (mem_len l) hm hj hy
end Go.Proofs.Ytfhjhaogmdaepaa
