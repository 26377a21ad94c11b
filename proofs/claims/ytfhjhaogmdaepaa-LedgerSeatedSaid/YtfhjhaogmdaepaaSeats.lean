/- Plain: who sits in a council. -/
import Derived.Test.YtfhjhaogmdaepaaLed
import Derived.Test.YtfhjhaogmdaepaaCouncil
import Derived.Test.YtfhjhaogmdaepaaStab
set_option linter.unusedVariables false
set_option linter.unusedSimpArgs false
namespace Go.Proofs.Ytfhjhaogmdaepaa
open Go Go.RowKit Go.Sort
instance : Rec Mem := ⟨Mem.cells, 3, fun _ => rfl, Mem.cells_one⟩
instance : Inhabited Mem := ⟨⟨0, 0, 0⟩⟩
/-- May an account sit? -/
def sits (mb : Int) (x : Acc) : Bool := !x.jail && (decide (mb ≤ x.bond) && decide (1 ≤ x.bond))
def memA (x : Acc) : Mem := ⟨x.a, x.bond, 0⟩
/-- All who may sit. -/
def candM (mb : Int) (l : List Acc) : List Mem := (l.filter (sits mb)).map memA
/-- Who comes first: more power, then the lesser address. -/
def bt (x y : Mem) : Bool := decide (y.p < x.p) || (decide (x.p = y.p) && decide (x.a < y.a))
theorem bt_iff {x y : Mem} : bt x y = true ↔ y.p < x.p ∨ (x.p = y.p ∧ x.a < y.a) := by
  unfold bt; rw [Bool.or_eq_true, Bool.and_eq_true, decide_eq_true_eq, decide_eq_true_eq, decide_eq_true_eq]
theorem bt_asymm {x y : Mem} (h : bt x y = true) : ¬ bt y x = true := by rw [bt_iff] at h ⊢; omega
theorem bt_no {x y : Mem} : bt x y = false ↔ ¬ (y.p < x.p ∨ (x.p = y.p ∧ x.a < y.a)) := by rw [← bt_iff, Bool.not_eq_true]
theorem bt_total {x y : Mem} (h : bt y x = false) (ha : x.a ≠ y.a) : bt x y = true := by rw [bt_iff]; rw [bt_no] at h; omega
theorem swo_bt : SWO bt where
  irrefl x := by rw [bt_no]; omega
  trans x y z h1 h2 := by rw [bt_iff] at h1 h2 ⊢; omega
  ntrans x y z h1 h2 := by rw [bt_no] at h1 h2 ⊢; omega
def ltA (x y : Mem) : Bool := decide (x.a < y.a)
theorem swo_ltA : SWO ltA where
  irrefl x := by unfold ltA; rw [decide_eq_false_iff_not]; omega
  trans x y z h1 h2 := by unfold ltA at *; rw [decide_eq_true_eq] at *; omega
  ntrans x y z h1 h2 := by unfold ltA at *; rw [decide_eq_false_iff_not] at *; omega
def mostN (seats : Int) (n : Nat) : Nat := min (min seats.toNat 64) n
/-- R are those who sit. -/
structure SeatsOf (mb seats : Int) (l : List Acc) (R : List Mem) : Prop where
  up : R.Pairwise fun x y => x.a < y.a
  mem : ∀ x ∈ R, x ∈ candM mb l
  len : R.length = mostN seats (candM mb l).length
  best : ∀ x ∈ R, ∀ y ∈ candM mb l, y ∉ R → bt x y = true
theorem nodup_up {R : List Mem} (h : R.Pairwise fun x y => x.a < y.a) : R.Nodup := h.imp fun {x y} h e => by subst e; omega
theorem SeatsOf.sub {mb seats : Int} {l : List Acc} {R R' : List Mem} (h : SeatsOf mb seats l R) (h' : SeatsOf mb seats l R') : ∀ x ∈ R, x ∈ R' := fun x hx => by
  refine Classical.byContradiction fun hn => ?_
  have : ¬ R' ⊆ R := fun hs => by
    have hnd : (x :: R').Nodup := List.nodup_cons.2 ⟨hn, nodup_up h'.up⟩
    have := hnd.length_le_of_subset (l₂ := R) fun y hy => by
      rcases List.mem_cons.1 hy with rfl | hy
      · exact hx
      · exact hs hy
    rw [List.length_cons, h.len, h'.len] at this
    omega
  have : ∃ y, y ∈ R' ∧ y ∉ R := Classical.byContradiction fun hh => this fun y hy => Classical.byContradiction fun hq => hh ⟨y, hy, hq⟩
  obtain ⟨y, hy, hy'⟩ := this
  exact bt_asymm (h.best x hx y (h'.mem y hy) hy') (h'.best y hy x (h.mem x hx) hn)
/-- There is but one such list. -/
theorem SeatsOf.uniq {mb seats : Int} {l : List Acc} {R R' : List Mem} (h : SeatsOf mb seats l R) (h' : SeatsOf mb seats l R') : R = R' :=
  List.Perm.eq_of_pairwise (le := fun x y : Mem => x.a < y.a) (fun a b _ _ h1 h2 => by omega) h.up h'.up ((List.perm_ext_iff_of_nodup (nodup_up h.up) (nodup_up h'.up)).2 fun x => ⟨h.sub h' x, h'.sub h x⟩)
theorem cand_up {mb : Int} {l : List Acc} (h : AccFine l) : (candM mb l).Pairwise fun x y => x.a < y.a := by
  unfold candM
  rw [List.pairwise_map]
  refine List.Pairwise.filter _ ?_
  rw [List.pairwise_iff_getElem]
  intro i j hi hj hij
  have := h.mono i j hij hj
  rw [accAt_of (List.getElem?_eq_getElem hi), accAt_of (List.getElem?_eq_getElem hj)] at this
  exact this
/-- What two sorts and a cut leave. -/
theorem seats_of {mb seats : Int} {l : List Acc} {S R : List Mem} (hf : AccFine l) (hp : S.Perm (candM mb l)) (hs : ∀ (i j : Nat) (hij : i < j) (hj : j < S.length), bt S[j] (S[i]'(by omega)) = false)
    (hr : R.Perm (S.take (mostN seats S.length))) (hq : ∀ (i j : Nat) (hij : i < j) (hj : j < R.length), ltA R[j] (R[i]'(by omega)) = false) : SeatsOf mb seats l R := by
  have hcn : ((candM mb l).map Mem.a).Nodup := by
    have := cand_up (mb := mb) hf
    rw [List.nodup_iff_pairwise_ne, List.pairwise_map]
    exact this.imp fun {x y} h => by omega
  have hsn : (S.map Mem.a).Nodup := (hp.map Mem.a).symm.nodup hcn
  have hsne : ∀ (i j : Nat) (hij : i < j) (hj : j < S.length), (S[i]'(by omega)).a ≠ S[j].a := fun i j hij hj => by
    rw [List.nodup_iff_pairwise_ne, List.pairwise_map, List.pairwise_iff_getElem] at hsn
    exact hsn i j (by omega) hj hij
  have hsp : S.Pairwise fun x y => bt x y = true := by
    rw [List.pairwise_iff_getElem]
    exact fun i j hi hj hij => bt_total (hs i j hij hj) (hsne i j hij hj)
  have htn : ((S.take (mostN seats S.length)).map Mem.a).Nodup := by
    rw [List.map_take]; exact List.Pairwise.sublist (List.take_sublist _ _) hsn
  have hrn : (R.map Mem.a).Nodup := (hr.map Mem.a).symm.nodup htn
  have hup : R.Pairwise fun x y => x.a < y.a := by
    rw [List.nodup_iff_pairwise_ne, List.pairwise_map, List.pairwise_iff_getElem] at hrn
    rw [List.pairwise_iff_getElem]
    intro i j hi hj hij
    have h1 := hq i j hij hj
    have h2 := hrn i j hi hj hij
    unfold ltA at h1
    rw [decide_eq_false_iff_not] at h1
    omega
  refine ⟨hup, fun x hx => hp.subset (List.mem_of_mem_take (hr.subset hx)), ?_, fun x hx y hy hn => ?_⟩
  · rw [hr.length_eq, List.length_take, hp.length_eq]; unfold mostN; omega
  · have hyS := hp.symm.subset hy
    rw [← List.take_append_drop (mostN seats S.length) S] at hyS hsp
    have hyd : y ∈ S.drop (mostN seats S.length) := by
      rcases List.mem_append.1 hyS with h | h
      · exact absurd (hr.symm.subset h) hn
      · exact h
    exact (List.pairwise_append.1 hsp).2.2 x (hr.subset hx) y hyd
/-! ### The document's choice -/
def rbest (mb : Int) (l : List Acc) (T : List Nat) : Nat → Int
  | 0 => -1
  | k + 1 => if k ∉ T ∧ sits mb (accAt l k) = true ∧ (rbest mb l T k < 0 ∨ (accAt l (rbest mb l T k).toNat).bond < (accAt l k).bond) then (k : Int) else rbest mb l T k
structure BestS (mb : Int) (l : List Acc) (T : List Nat) (k b : Nat) : Prop where
  lt : b < k
  new : b ∉ T
  sit : sits mb (accAt l b) = true
  best : ∀ i, i < k → i ∉ T → sits mb (accAt l i) = true → (accAt l i).bond ≤ (accAt l b).bond ∧ ((accAt l i).bond = (accAt l b).bond → b ≤ i)
theorem rbest_spec (mb : Int) (l : List Acc) (T : List Nat) : ∀ k, (rbest mb l T k = -1 ∧ ∀ i, i < k → i ∉ T → sits mb (accAt l i) = false) ∨ ∃ b : Nat, rbest mb l T k = b ∧ BestS mb l T k b
  | 0 => .inl ⟨rfl, fun i h => by omega⟩
  | k + 1 => by
    rw [rbest]
    by_cases h1 : k ∈ T
    · rw [if_neg (fun h => h.1 h1)]
      rcases rbest_spec mb l T k with ⟨h, h2⟩ | ⟨b, h, h2⟩
      · refine .inl ⟨h, fun i hi hn => ?_⟩
        rcases Nat.lt_or_ge i k with h3 | h3
        · exact h2 i h3 hn
        · rw [show i = k by omega] at hn; exact absurd h1 hn
      · refine .inr ⟨b, h, by have := h2.lt; omega, h2.new, h2.sit, fun i hi hn hs => ?_⟩
        rcases Nat.lt_or_ge i k with h3 | h3
        · exact h2.best i h3 hn hs
        · rw [show i = k by omega] at hn; exact absurd h1 hn
    · cases hsit : sits mb (accAt l k) with
      | false =>
        rw [if_neg (fun h => by cases h.2.1)]
        rcases rbest_spec mb l T k with ⟨h, h2⟩ | ⟨b, h, h2⟩
        · refine .inl ⟨h, fun i hi hn => ?_⟩
          rcases Nat.lt_or_ge i k with h3 | h3
          · exact h2 i h3 hn
          · rw [show i = k by omega]; exact hsit
        · refine .inr ⟨b, h, by have := h2.lt; omega, h2.new, h2.sit, fun i hi hn hs => ?_⟩
          rcases Nat.lt_or_ge i k with h3 | h3
          · exact h2.best i h3 hn hs
          · rw [show i = k by omega, hsit] at hs; cases hs
      | true =>
        rcases rbest_spec mb l T k with ⟨h, h2⟩ | ⟨b, h, h2⟩
        · rw [if_pos ⟨h1, rfl, .inl (by omega)⟩]
          refine .inr ⟨k, rfl, by omega, h1, hsit, fun i hi hn hs => ?_⟩
          rcases Nat.lt_or_ge i k with h3 | h3
          · rw [h2 i h3 hn] at hs; cases hs
          · rw [show i = k by omega]; exact ⟨Int.le_refl _, fun _ => Nat.le_refl _⟩
        · by_cases hb : (accAt l b).bond < (accAt l k).bond
          · rw [if_pos ⟨h1, rfl, .inr (by rw [h]; exact hb)⟩]
            refine .inr ⟨k, rfl, by omega, h1, hsit, fun i hi hn hs => ?_⟩
            rcases Nat.lt_or_ge i k with h3 | h3
            · have := h2.best i h3 hn hs; omega
            · rw [show i = k by omega]; exact ⟨Int.le_refl _, fun _ => Nat.le_refl _⟩
          · rw [if_neg (fun hh => by rcases hh.2.2 with h5 | h5; · omega
                                     · rw [h] at h5; exact hb h5)]
            refine .inr ⟨b, h, by have := h2.lt; omega, h2.new, h2.sit, fun i hi hn hs => ?_⟩
            rcases Nat.lt_or_ge i k with h3 | h3
            · exact h2.best i h3 hn hs
            · have := h2.lt; rw [show i = k by omega]; omega
def roundT (mb : Int) (l : List Acc) (T : List Nat) : List Nat := if rbest mb l T l.length < 0 then T else T ++ [(rbest mb l T l.length).toNat]
def takeT (mb : Int) (l : List Acc) : Nat → List Nat
  | 0 => []
  | n + 1 => roundT mb l (takeT mb l n)
theorem takeT_stop {mb : Int} {l : List Acc} {n : Nat} (h : rbest mb l (takeT mb l n) l.length < 0) : ∀ k, takeT mb l (n + k) = takeT mb l n
  | 0 => rfl
  | k + 1 => by
    show roundT mb l (takeT mb l (n + k)) = _
    rw [takeT_stop h k, roundT, if_pos h]
structure TakeInv (mb : Int) (l : List Acc) (T : List Nat) : Prop where
  nodup : T.Nodup
  mem : ∀ i ∈ T, i < l.length ∧ sits mb (accAt l i) = true
  best : ∀ i ∈ T, ∀ j, j < l.length → j ∉ T → sits mb (accAt l j) = true → bt (memA (accAt l i)) (memA (accAt l j)) = true
theorem TakeInv.round {mb : Int} {l : List Acc} {T : List Nat} (hf : AccFine l) (h : TakeInv mb l T) : TakeInv mb l (roundT mb l T) := by
  unfold roundT
  rcases rbest_spec mb l T l.length with ⟨h1, h2⟩ | ⟨b, h1, h2⟩
  · rw [if_pos (by omega)]; exact h
  · rw [if_neg (by omega), h1]
    show TakeInv mb l (T ++ [b])
    refine ⟨?_, ?_, ?_⟩
    · rw [List.nodup_append]
      exact ⟨h.nodup, by simp, fun x hx y hy e => by rw [List.mem_singleton] at hy; subst hy; subst e; exact h2.new hx⟩
    · intro i hi
      rcases List.mem_append.1 hi with hi | hi
      · exact h.mem i hi
      · rw [List.mem_singleton] at hi; subst hi; exact ⟨h2.lt, h2.sit⟩
    · intro i hi j hj hn hs
      have hnT : j ∉ T := fun hh => hn (List.mem_append.2 (.inl hh))
      rcases List.mem_append.1 hi with hi | hi
      · exact h.best i hi j hj hnT hs
      · rw [List.mem_singleton] at hi; subst hi
        obtain ⟨h3, h4⟩ := h2.best j hj hnT hs
        have hne : j ≠ i := fun e => hn (List.mem_append.2 (.inr (by rw [e]; simp)))
        rw [bt_iff]
        show (accAt l j).bond < (accAt l i).bond ∨ ((accAt l i).bond = (accAt l j).bond ∧ (accAt l i).a < (accAt l j).a)
        by_cases h5 : (accAt l j).bond = (accAt l i).bond
        · have := hf.mono i j (by have := h4 h5; omega) hj; omega
        · omega
theorem takeT_inv {mb : Int} {l : List Acc} (hf : AccFine l) : ∀ n, TakeInv mb l (takeT mb l n)
  | 0 => by
    show TakeInv mb l []
    exact ⟨by simp, fun i h => absurd h (by simp), fun i h => absurd h (by simp)⟩
  | n + 1 => (takeT_inv hf n).round hf
theorem takeT_len {mb : Int} {l : List Acc} : ∀ n, (takeT mb l n).length ≤ n ∧ ((takeT mb l n).length = n ∨ ∀ i, i < l.length → i ∉ takeT mb l n → sits mb (accAt l i) = false)
  | 0 => ⟨Nat.le_refl _, .inl rfl⟩
  | n + 1 => by
    obtain ⟨h1, h2⟩ := takeT_len (mb := mb) (l := l) n
    show (roundT mb l (takeT mb l n)).length ≤ n + 1 ∧ ((roundT mb l (takeT mb l n)).length = n + 1 ∨ ∀ i, i < l.length → i ∉ roundT mb l (takeT mb l n) → sits mb (accAt l i) = false)
    unfold roundT
    rcases rbest_spec mb l (takeT mb l n) l.length with ⟨h3, h4⟩ | ⟨b, h3, h4⟩
    · rw [if_pos (by omega)]; exact ⟨by omega, .inr h4⟩
    · rw [if_neg (by omega), List.length_append, List.length_singleton]
      refine ⟨by omega, ?_⟩
      rcases h2 with h2 | h2
      · exact .inl (by omega)
      · have := h2 b h4.lt h4.new; rw [h4.sit] at this; cases this
def isIn' (T : List Nat) (i : Nat) : Bool := decide (i ∈ T)
/-- Whom the document seats. -/
def refSeats (mb seats : Int) (l : List Acc) : List Mem := ((List.range l.length).filter (isIn' (takeT mb l (min seats.toNat 64)))).map fun i => memA (accAt l i)
theorem range_acc (l : List Acc) : (List.range l.length).map (accAt l) = l := by
  refine List.ext_getElem? fun i => ?_
  rw [List.getElem?_map]
  rcases Nat.lt_or_ge i l.length with h | h
  · rw [List.getElem?_range h, accAt_get h]; rfl
  · rw [List.getElem?_eq_none (by simpa using h), List.getElem?_eq_none h]; rfl
theorem cand_range (mb : Int) (l : List Acc) : candM mb l = ((List.range l.length).filter (fun i => sits mb (accAt l i))).map fun i => memA (accAt l i) := by
  unfold candM
  conv => lhs; rw [← range_acc l]
  rw [List.filter_map, List.map_map]
  rfl
theorem refSeats_ok {mb seats : Int} {l : List Acc} (hf : AccFine l) : SeatsOf mb seats l (refSeats mb seats l) := by
  have hI := takeT_inv (mb := mb) hf (min seats.toNat 64)
  obtain ⟨hl1, hl2⟩ := takeT_len (mb := mb) (l := l) (min seats.toNat 64)
  unfold refSeats
  generalize takeT mb l (min seats.toNat 64) = T at hI hl1 hl2
  have hperm : T.Perm ((List.range l.length).filter (isIn' T)) := (List.perm_ext_iff_of_nodup hI.nodup (List.Pairwise.filter _ List.nodup_range)).2 fun i => by
    rw [List.mem_filter, List.mem_range]; unfold isIn'; rw [decide_eq_true_eq]
    exact ⟨fun h => ⟨(hI.mem i h).1, h⟩, fun h => h.2⟩
  have hcn : ((List.range l.length).filter (fun i => sits mb (accAt l i))).Nodup := List.Pairwise.filter _ List.nodup_range
  have hTc : T.length ≤ ((List.range l.length).filter (fun i => sits mb (accAt l i))).length := hI.nodup.length_le_of_subset fun i hi => by
    rw [List.mem_filter, List.mem_range]; exact hI.mem i hi
  refine ⟨?_, ?_, ?_, ?_⟩
  · rw [List.pairwise_map]
    refine List.Pairwise.imp_of_mem ?_ (List.Pairwise.filter _ List.pairwise_lt_range)
    intro i j _ hj hij
    exact hf.mono i j hij (by rw [List.mem_filter, List.mem_range] at hj; exact hj.1)
  · intro x hx
    rw [cand_range]
    rw [List.mem_map] at hx ⊢
    obtain ⟨i, hi, rfl⟩ := hx
    have := hI.mem i (hperm.symm.subset hi)
    exact ⟨i, by rw [List.mem_filter, List.mem_range]; exact this, rfl⟩
  · rw [List.length_map, ← hperm.length_eq, cand_range, List.length_map]
    unfold mostN
    rcases hl2 with h | h
    · omega
    · have : ((List.range l.length).filter (fun i => sits mb (accAt l i))).length ≤ T.length := hcn.length_le_of_subset fun i hi => by
        rw [List.mem_filter, List.mem_range] at hi
        refine Classical.byContradiction fun hn => ?_
        rw [h i hi.1 hn] at hi; cases hi.2
      omega
  · intro x hx y hy hn
    rw [cand_range, List.mem_map] at hy
    rw [List.mem_map] at hx
    obtain ⟨i, hi, rfl⟩ := hx
    obtain ⟨j, hj, rfl⟩ := hy
    rw [List.mem_filter, List.mem_range] at hj
    refine hI.best i (hperm.symm.subset hi) j hj.1 (fun hh => hn ?_) hj.2
    exact List.mem_map.2 ⟨j, hperm.subset hh, rfl⟩
end Go.Proofs.Ytfhjhaogmdaepaa
