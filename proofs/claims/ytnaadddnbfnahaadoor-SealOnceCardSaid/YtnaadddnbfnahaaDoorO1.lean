/- SealOnce: what a script leaves. Printed by gen.py. -/
import Derived.Test.YtnaadddnbfnahaaDoorV3
set_option linter.unusedVariables false
set_option linter.unusedSimpArgs false
set_option maxRecDepth 100000
namespace Go.Proofs.YtnaadddnbfnahaaDoor
open Go Go.RowKit Go.Proofs
def ND : List Int → Prop
  | [] => True
  | a :: l => a ∉ l ∧ ND l
theorem ND_snoc {a : Int} : ∀ {l : List Int}, ND l → a ∉ l → ND (l ++ [a])
  | [], _, _ => ⟨by simp, trivial⟩
  | b :: l, h, ha => by
    refine ⟨?_, ND_snoc h.2 fun hm => ha (by simp [hm])⟩
    intro hm
    rcases List.mem_append.1 hm with hm | hm
    · exact h.1 hm
    · simp only [List.mem_singleton] at hm; exact ha (by simp [hm])
theorem ND_take : ∀ {l : List Int} (n : Nat), ND l → ND (l.take n)
  | [], n, _ => by simp [ND]
  | b :: l, 0, _ => trivial
  | b :: l, n + 1, h => ⟨fun hm => h.1 (List.mem_of_mem_take hm), ND_take n h.2⟩
def indS (a0 : Int) (e : List Int) : Nat := (e.map fun a => if a0 = a then 1 else 0).sum
theorem indS_zero {a0 : Int} : ∀ {e : List Int}, a0 ∉ e → indS a0 e = 0
  | [], _ => rfl
  | b :: e, h => by
    have h1 : a0 ≠ b := fun q => h (by rw [q]; exact List.mem_cons_self)
    have ih := indS_zero (e := e) fun q => h (List.mem_cons_of_mem _ q)
    unfold indS at ih ⊢
    rw [List.map_cons, List.sum_cons, if_neg h1, ih]
theorem indS_one {a0 : Int} : ∀ {e : List Int}, ND e → indS a0 e ≤ 1 ∧ (a0 ∈ e → indS a0 e = 1)
  | [], _ => ⟨by simp [indS], fun h => by cases h⟩
  | b :: e, h => by
    by_cases q : a0 = b
    · have hz := indS_zero (a0 := a0) (e := e) (by rw [q]; exact h.1)
      have e1 : indS a0 (b :: e) = 1 := by
        unfold indS at hz ⊢
        rw [List.map_cons, List.sum_cons, if_pos q, hz]
      exact ⟨by omega, fun _ => e1⟩
    · have ih := indS_one (a0 := a0) h.2
      have e1 : indS a0 (b :: e) = indS a0 e := by
        unfold indS
        rw [List.map_cons, List.sum_cons, if_neg q, Nat.zero_add]
      rw [e1]
      exact ⟨ih.1, fun hm => ih.2 (by rcases List.mem_cons.1 hm with hm | hm; exact absurd hm q; exact hm)⟩
def sumM (rc : List Rcd) (e : List Int) : Nat := (e.map fun a => (msgsOf rc a).length).sum
theorem sumM_cons (x : Rcd) (rc : List Rcd) : ∀ e : List Int, sumM (x :: rc) e = indS x.1 e + sumM rc e
  | [] => rfl
  | a :: e => by
    have ih := sumM_cons x rc e
    have h1 : (msgsOf (x :: rc) a).length = (if x.1 = a then 1 else 0) + (msgsOf rc a).length := by
      unfold msgsOf
      by_cases h : x.1 = a
      · simp [List.filter_cons, h]; omega
      · simp [List.filter_cons, h]
    unfold sumM indS at ih ⊢
    rw [List.map_cons, List.sum_cons, List.map_cons, List.sum_cons, List.map_cons, List.sum_cons, ih, h1]; omega
theorem sumM_le {e : List Int} (h : ND e) : ∀ rc : List Rcd, sumM rc e ≤ rc.length
  | [] => by
    have : ∀ e : List Int, sumM [] e = 0 := fun e => by
      induction e with
      | nil => rfl
      | cons a e ih => unfold sumM at ih ⊢; rw [List.map_cons, List.sum_cons, ih]; rfl
    rw [this]; exact Nat.zero_le _
  | x :: rc => by
    have := (indS_one (a0 := x.1) h).1
    have := sumM_le h rc
    rw [sumM_cons, List.length_cons]; omega
theorem sumM_eq {e : List Int} (h : ND e) : ∀ rc : List Rcd, (∀ x ∈ rc, x.1 ∈ e) → sumM rc e = rc.length
  | [], _ => by have := sumM_le h []; simpa using this
  | x :: rc, hm => by
    have h1 := (indS_one (a0 := x.1) h).2 (hm x (by simp))
    have h2 := sumM_eq h rc fun y hy => hm y (by simp [hy])
    rw [sumM_cons, List.length_cons, h1, h2]; omega
theorem sumM_next {rc : List Rcd} {e : List Int} {i : Nat} (h : i < e.length) : sumM rc (e.take (i + 1)) = sumM rc (e.take i) + (msgsOf rc (e[i])).length := by
  unfold sumM
  rw [List.take_add_one, List.getElem?_eq_getElem h, List.map_append, List.sum_append]
  rfl
/-- What holds of whatever a script leaves. -/
def Ps.good (s : Ps) : Prop := ND s.e0 ∧ ND s.e1 ∧ ∀ x ∈ s.bk, (x.1 = 0 → x.2.1 ∈ s.e0) ∧ (x.1 = 1 → x.2.1 ∈ s.e1)
theorem eAdd_ND {e : List Int} {a : Int} (h : ND e) : ND (eAdd e a) := by
  unfold eAdd
  split
  · exact h
  · rename_i hn; exact ND_snoc h fun hm => hn (.inr hm)
theorem eAdd_mem {e : List Int} {a b : Int} (h : b ∈ e) : b ∈ eAdd e a := by
  unfold eAdd; split
  · exact h
  · simp [h]
theorem signB_good {k : Int} (hk : k = 0 ∨ k = 1) {e e0 e1 : List Int} (he : (k = 0 → e = e0) ∧ (k = 1 → e = e1)) {at_ : Int} {m : List Int} {bk : List Wrt} (h : ∀ x ∈ bk, (x.1 = 0 → x.2.1 ∈ e0) ∧ (x.1 = 1 → x.2.1 ∈ e1)) : ∀ x ∈ signB k e at_ m bk, (x.1 = 0 → x.2.1 ∈ e0) ∧ (x.1 = 1 → x.2.1 ∈ e1) := by
  intro x hx
  unfold signB at hx
  split at hx
  · exact h x hx
  · split at hx
    · rename_i a ha
      unfold addB at hx
      split at hx
      · exact h x hx
      · rcases List.mem_append.1 hx with hx | hx
        · exact h x hx
        · simp only [List.mem_singleton] at hx; subst hx
          have hm := List.mem_of_getElem? ha
          exact ⟨fun q => by rw [← he.1 q]; exact hm, fun q => by rw [← he.2 q]; exact hm⟩
    · exact h x hx
theorem psStep_good {s : Ps} (h : s.good) (o : Opr) : (psStep s o).good := by
  obtain ⟨h1, h2, h3⟩ := h
  unfold psStep
  split
  · split
    · exact ⟨eAdd_ND h1, h2, fun x hx => ⟨fun q => eAdd_mem ((h3 x hx).1 q), (h3 x hx).2⟩⟩
    · exact ⟨h1, eAdd_ND h2, fun x hx => ⟨(h3 x hx).1, fun q => eAdd_mem ((h3 x hx).2 q)⟩⟩
  · split
    · split
      · exact ⟨h1, h2, signB_good (.inl rfl) ⟨fun _ => rfl, fun q => by cases q⟩ h3⟩
      · exact ⟨h1, h2, signB_good (.inr rfl) ⟨fun q => (by cases q), fun _ => rfl⟩ h3⟩
    · exact ⟨h1, h2, h3⟩
theorem foldl_good : ∀ (l : List Opr) (s : Ps), s.good → (l.foldl psStep s).good
  | [], _, h => h
  | o :: l, s, h => foldl_good l _ (psStep_good h o)
theorem psRun_good (l : List Opr) : (psRun l).good := foldl_good l _ ⟨trivial, trivial, fun _ h => by cases h⟩
theorem signB_more (k : Int) (e : List Int) (at_ : Int) (m : List Int) (bk : List Wrt) : ∃ t, signB k e at_ m bk = bk ++ t := by
  unfold signB
  split
  · exact ⟨[], by simp⟩
  · split
    · unfold addB; split
      · exact ⟨[], by simp⟩
      · exact ⟨_, rfl⟩
    · exact ⟨[], by simp⟩
theorem psStep_more (s : Ps) (o : Opr) : ∃ t, (psStep s o).bk = s.bk ++ t := by
  unfold psStep
  split
  · split <;> exact ⟨[], by simp⟩
  · split
    · split
      · exact signB_more _ _ _ _ _
      · exact signB_more _ _ _ _ _
    · exact ⟨[], by simp⟩
theorem foldl_more : ∀ (l : List Opr) (s : Ps), ∃ t, (l.foldl psStep s).bk = s.bk ++ t
  | [], _ => ⟨[], by simp⟩
  | o :: l, s => by
    obtain ⟨t, ht⟩ := foldl_more l (psStep s o)
    obtain ⟨u, hu⟩ := psStep_more s o
    exact ⟨u ++ t, by rw [List.foldl_cons, ht, hu, List.append_assoc]⟩
theorem psRun_more (l : List Opr) (k : Nat) : ∃ t, (psRun l).bk = (psRun (l.take k)).bk ++ t := by
  have h := foldl_more (l.drop k) (psRun (l.take k))
  unfold psRun at h ⊢
  rw [← List.foldl_append, List.take_append_drop] at h
  exact h
theorem rcOf_append (k : Int) (a b : List Wrt) : rcOf k (a ++ b) = rcOf k a ++ rcOf k b := by simp [rcOf]
theorem msgsOf_append (a b : List Rcd) (x : Int) : msgsOf (a ++ b) x = msgsOf a x ++ msgsOf b x := by simp [msgsOf]
/-- How many messages of an address stand among the first j records. -/
def atN (k a : Int) (bk : List Wrt) (j : Nat) : List (List Int) := msgsOf (rcOf k (bk.take j)) a
theorem sumM_nil (rc : List Rcd) : sumM rc [] = 0 := rfl
theorem atN_zero (k a : Int) (bk : List Wrt) : (atN k a bk 0).length = 0 := by simp [atN, rcOf, msgsOf]
theorem atN_full (k a : Int) (bk : List Wrt) : atN k a bk bk.length = msgsOf (rcOf k bk) a := by unfold atN; rw [List.take_length]
theorem atN_yes {k a : Int} {bk : List Wrt} {j : Nat} {x : Wrt} (hx : bk[j]? = some x) (h1 : x.1 = k) (h2 : x.2.1 = a) : atN k a bk (j + 1) = atN k a bk j ++ [x.2.2] ∧ (msgsOf (rcOf k bk) a)[(atN k a bk j).length]? = some x.2.2 := by
  have e1 : atN k a bk (j + 1) = atN k a bk j ++ [x.2.2] := by
    unfold atN
    rw [List.take_add_one, hx, rcOf_append, msgsOf_append]
    congr 1
    simp [rcOf, msgsOf, h1, h2]
  refine ⟨e1, ?_⟩
  have e2 : msgsOf (rcOf k bk) a = atN k a bk (j + 1) ++ msgsOf (rcOf k (bk.drop (j + 1))) a := by
    unfold atN
    rw [← msgsOf_append, ← rcOf_append, List.take_append_drop]
  rw [e2, e1, List.append_assoc, List.getElem?_append_right (Nat.le_refl _), Nat.sub_self]
  rfl
theorem atN_no {k a : Int} {bk : List Wrt} {j : Nat} {x : Wrt} (hx : bk[j]? = some x) (h : ¬ (x.1 = k ∧ x.2.1 = a)) : atN k a bk (j + 1) = atN k a bk j := by
  unfold atN
  rw [List.take_add_one, hx, rcOf_append, msgsOf_append]
  have : msgsOf (rcOf k (some x).toList) a = [] := by
    unfold rcOf msgsOf
    by_cases h1 : x.1 = k
    · have h2 : ¬ x.2.1 = a := fun q => h ⟨h1, q⟩
      simp [h1, h2]
    · simp [h1]
  rw [this, List.append_nil]
theorem atN_le (k a : Int) (bk : List Wrt) (j : Nat) : (atN k a bk j).length ≤ bk.length := by
  unfold atN
  have h1 := msgsOf_le (rcOf k (bk.take j)) a
  have h2 := rcOf_le k (bk.take j)
  have h3 : (bk.take j).length ≤ bk.length := by rw [List.length_take]; exact Nat.min_le_right _ _
  omega
theorem ItemsM.take {w : World} {base : Option Addr} {vs : List Value} {xss : List (List Int)} (h : ItemsM w base vs xss) (n : Nat) : ItemsM w base (vs.take n) (xss.take n) := by
  refine ⟨fun j v hv => ?_, by rw [List.length_take, List.length_take, h.2.1], fun i v x hv hx => ?_⟩
  · have hj : j < n := by have := (List.getElem?_eq_some_iff.1 hv).1; rw [List.length_take] at this; omega
    rw [List.getElem?_take, if_pos hj] at hv
    exact h.1 j v hv
  · have hj : i < n := by have := (List.getElem?_eq_some_iff.1 hv).1; rw [List.length_take] at this; omega
    rw [List.getElem?_take, if_pos hj] at hv hx
    exact h.2.2 i v x hv hx
theorem ScriptOK.take {w : World} {base : Option Addr} {l : List Opr} (h : ScriptOK w base l) (k : Nat) : ScriptOK w base (l.take k) := by
  refine ⟨fun j v hv => h.1 j v ?_, fun o ho => h.2 o (List.mem_of_mem_take ho)⟩
  have e : opsC l = opsC (l.take k) ++ opsC (l.drop k) := by
    unfold opsC; rw [← List.flatMap_append, List.take_append_drop]
  rw [e, List.getElem?_append_left (List.getElem?_eq_some_iff.1 hv).1]; exact hv
def sel2 {α : Type} (x y : α) (i : Nat) : α := if i = 0 then x else y
theorem onC0 {P0 P1 a b c d e f : Value} (i : Nat) (h : i < 2) : [P0, P1, a, b, c, d, e, f][0 + i * 1]? = some (sel2 P0 P1 i) := by
  match i, h with
  | 0, _ => rfl
  | 1, _ => rfl
theorem onC0' {P0 P1 a b c d e f : Value} (i : Nat) (h : i < 2) : [P0, P1, a, b, c, d, e, f][i]? = some (sel2 P0 P1 i) := by
  match i, h with
  | 0, _ => rfl
  | 1, _ => rfl
theorem onC4 {P0 P1 a b c d e f : Value} (i : Nat) (h : i < 2) : [a, b, c, d, P0, P1, e, f][4 + i * 1]? = some (sel2 P0 P1 i) := by
  match i, h with
  | 0, _ => rfl
  | 1, _ => rfl
theorem sel2_ptr (p q i : Nat) : sel2 (Value.pointer (some ⟨p, 0, none⟩)) (.pointer (some ⟨q, 0, none⟩)) i = .pointer (some ⟨sel2 p q i, 0, none⟩) := by
  unfold sel2; split <;> rfl
theorem two_at (i : Nat) (h : i < 2) : [0, 1][i]? = some i := by
  match i, h with
  | 0, _ => rfl
  | 1, _ => rfl
/-- One of two registries, who was entered there, and the registry of the shorter script. -/
def onF (p0 p1 : Nat) (sg0 sg1 : List (Int × Nat)) (A0 A1 : Value) (bw : List Wrt) (q0 q1 : Nat) (tg0 tg1 : List (Int × Nat)) (bv : List Wrt) (i : Nat) : HP :=
  bundle [REG (sel2 p0 p1 i) (sel2 sg0 sg1 i) (rcOf (i : Int) bw), ownS 23 1 (sel2 A0 A1 i) (sel2 sg0 sg1 i).length (ints .u64 (enOf (sel2 sg0 sg1 i))), REG (sel2 q0 q1 i) (sel2 tg0 tg1 i) (rcOf (i : Int) bv)]
end Go.Proofs.YtnaadddnbfnahaaDoor
