/- How arguments of whatever plain type are read: combinators over the type's make. -/
import Derived.Test.YtfhjhaogmdaepaaEngM
import Derived.Test.YtfhjhaogmdaepaaRows
set_option linter.unusedVariables false
set_option linter.unusedSimpArgs false
namespace Go.Proofs.Ytfhjhaogmdaepaa
open Go Go.RowKit Go.ChangeShapes Go.WideShapes

theorem bulk_one {H : Type} (d : DataW H) : 1 ≤ Rows.uptoBulk d := by
  cases d with
  | lit l => cases l <;> simp [Rows.uptoBulk]
  | nil => simp [Rows.uptoBulk]
  | ptr d => simp [Rows.uptoBulk]
  | slice elems spare => simp [Rows.uptoBulk]
  | agg parts => simp [Rows.uptoBulk]
  | iface t d => simp [Rows.uptoBulk]
  | map entries => simp [Rows.uptoBulk]
  | held h => simp [Rows.uptoBulk]
/-- A slice: its base, its room, what its elements are. -/
structure Sl (α : Type) where
  b : Option Addr
  c : Nat
  xs : List α
def Sl.val {α : Type} (s : Sl α) : Value := .slice s.b s.xs.length s.c
/-- Cells of type t are read as an α. -/
def Reads (P : Program) (t : TypeId) {α : Type} (cells : α → List Value) (Hd : World → α → Prop) (bulk : α → Nat) (Small : α → Prop) : Prop :=
  ∀ (H : Type) (enc : TypeId × Value → H) (W : World) (hd : Bool) (fuel : Nat) (cs : List Value) (x : DataW H × List MemPlace), DataW.trod enc P W 0 (fun _ => true) hd fuel t cs = some x →
    ∃ a, cs = cells a ∧ Hd W a ∧ bulk a ≤ Rows.uptoBulk x.1 ∧ ((∀ m ∈ DataW.weights P t x.1, m ≤ reachBytes) → Small a)
theorem fits_of_wf {k : IntKind} {z : Int} (h : (Lit.int k z).wf = true) : fits k z := by
  cases k <;> simp [Lit.wf, IntKind.min, IntKind.max, IntKind.signed, IntKind.bits] at h <;> simp only [fits] <;> omega
section
variable {P : Program}
theorem Reads.int {t : TypeId} {k : IntKind} (ht : P.underlying t = some (.int k)) : Reads P t (fun z : Int => [.int k z]) (fun _ z => fits k z) (fun _ => 1) (fun _ => True) := fun H enc W hd fuel cs x h => by
  obtain ⟨z, e1, e2, e3⟩ := DataW.trod_int ht h
  exact ⟨z, e1, fits_of_wf e3, bulk_one _, fun _ => trivial⟩
theorem Reads.bool {t : TypeId} (ht : P.underlying t = some .bool) : Reads P t (fun z : Bool => [.bool z]) (fun _ z => True) (fun _ => 1) (fun _ => True) := fun H enc W hd fuel cs x h => by
  obtain ⟨z, e1, e2⟩ := DataW.trod_bool ht h
  exact ⟨z, e1, trivial, bulk_one _, fun _ => trivial⟩
theorem str_nums (s : ByteArray) : ∃ xs : List Int, IsB xs ∧ s = strOfNums xs ∧ xs.length = s.size := by
  refine ⟨s.data.toList.map fun c => (c.toNat : Int), fun x hx => ?_, ?_, by rw [List.length_map, Array.length_toList]; rfl⟩
  · obtain ⟨c, _, rfl⟩ := List.mem_map.1 hx
    have := c.toNat_lt; omega
  · apply ByteArray.ext
    apply Array.ext'
    rw [strOfNums_data, List.map_map]
    have : (fun n : Int => UInt8.ofNat n.toNat) ∘ (fun c : UInt8 => (c.toNat : Int)) = id := by funext c; simp
    rw [this, List.map_id]
theorem Reads.string {t : TypeId} (ht : P.underlying t = some .string) : Reads P t (fun z : List Int => [.string (strOfNums z)]) (fun _ z => IsB z ∧ z.length ≤ maxLen) (fun z => z.length + 1) (fun z => z.length ≤ reachBytes) := fun H enc W hd fuel cs x h => by
  obtain ⟨s, e1, e2, e3⟩ := DataW.trod_string ht h
  obtain ⟨xs, h1, h2, h3⟩ := str_nums s
  refine ⟨xs, by rw [e1, h2], ⟨h1, by omega⟩, ?_, fun hm => ?_⟩
  · rw [e2]
    simp only [Rows.uptoBulk]
    have : s.data.toList.length = s.size := by rw [Array.length_toList]; rfl
    omega
  · have := hm s.data.toList.length (by rw [e2]; simp [DataW.weights])
    have h4 : s.data.toList.length = s.size := by rw [Array.length_toList]; rfl
    omega
theorem list_choice' {α : Type} {Q : Nat → α → Prop} : ∀ n, (∀ i, i < n → ∃ p, Q i p) → ∃ l : List α, l.length = n ∧ ∀ i p, l[i]? = some p → Q i p
  | 0, _ => ⟨[], rfl, fun _ _ h => by cases h⟩
  | n + 1, h => by
    obtain ⟨l, hl, hp⟩ := list_choice' n fun i hi => h i (by omega)
    obtain ⟨p, hpp⟩ := h n (by omega)
    refine ⟨l ++ [p], by simp [hl], fun i q hq => ?_⟩
    by_cases hi : i < n
    · rw [List.getElem?_append_left (by omega)] at hq; exact hp i q hq
    · rw [List.getElem?_append_right (by omega)] at hq
      have : i = n := by
        have := (List.getElem?_eq_some_iff.1 hq).1
        simp at this; omega
      subst this
      simp [hl] at hq
      rw [← hq]; exact hpp
/-! ### Rows of things of one size -/
section
variable {α : Type} {g : α → List Value} {n : Nat} {xs : List α} (h : ∀ x ∈ xs, (g x).length = n)
include h
theorem rows_length : (xs.flatMap g).length = xs.length * n := by
  induction xs with
  | nil => simp
  | cons x xs ih => rw [List.flatMap_cons, List.length_append, h x (by simp), ih (fun y hy => h y (by simp [hy])), List.length_cons, Nat.add_mul]; omega
theorem rows_drop (p : Nat) : (xs.flatMap g).drop (p * n) = (xs.drop p).flatMap g := by
  induction xs generalizing p with
  | nil => simp
  | cons x xs ih =>
    cases p with
    | zero => simp
    | succ p =>
      have hx := h x (by simp)
      rw [List.flatMap_cons, Nat.add_mul, Nat.one_mul, Nat.add_comm, ← hx, List.drop_length_add_append, hx, ih (fun y hy => h y (by simp [hy])), List.drop_succ_cons]
theorem rows_take (p : Nat) : (xs.flatMap g).take (p * n) = (xs.take p).flatMap g := by
  induction xs generalizing p with
  | nil => simp
  | cons x xs ih =>
    cases p with
    | zero => simp
    | succ p =>
      have hx := h x (by simp)
      rw [List.flatMap_cons, Nat.add_mul, Nat.one_mul, Nat.add_comm, ← hx, List.take_length_add_append, hx, ih (fun y hy => h y (by simp [hy])), List.take_succ_cons, List.flatMap_cons]
theorem rows_at {i : Nat} {x : α} (hi : xs[i]? = some x) (j : Nat) (v : Value) (hj : (g x)[j]? = some v) : (xs.flatMap g)[i * n + j]? = some v := by
  rw [← List.getElem?_drop, rows_drop h]
  have : xs.drop i = x :: xs.drop (i + 1) := by
    have hlt := (List.getElem?_eq_some_iff.1 hi).1
    rw [List.drop_eq_getElem_cons hlt]
    rw [List.getElem?_eq_getElem hlt, Option.some.injEq] at hi
    rw [hi]
  rw [this, List.flatMap_cons, List.getElem?_append_left (List.getElem?_eq_some_iff.1 hj).1]
  exact hj
theorem rows_splice {i : Nat} {x : α} (hi : i < xs.length) (hx : (g x).length = n) : splice (xs.flatMap g) (i * n) (g x) = (xs.set i x).flatMap g := by
  unfold splice
  rw [hx, rows_take h, show i * n + n = (i + 1) * n by rw [Nat.add_mul, Nat.one_mul], rows_drop h, List.set_eq_take_append_cons_drop, if_pos hi, List.flatMap_append, List.flatMap_cons, List.append_assoc]
theorem rows_set {i j : Nat} {x y : α} {v : Value} (hi : xs[i]? = some x) (hj : j < n) (hy : g y = (g x).set j v) : (xs.flatMap g).set (i * n + j) v = (xs.set i y).flatMap g := by
  have hlt := (List.getElem?_eq_some_iff.1 hi).1
  have hx := h x (List.mem_of_getElem? hi)
  have hgy : (g y).length = n := by rw [hy, List.length_set]; exact hx
  rw [← rows_splice h hlt hgy]
  apply List.ext_getElem?
  intro k
  have hl := rows_length h
  have hmul : (i + 1) * n ≤ xs.length * n := Nat.mul_le_mul_right n hlt
  rw [Nat.add_mul, Nat.one_mul] at hmul
  unfold splice
  rw [List.getElem?_set]
  by_cases hk1 : k < i * n
  · rw [if_neg (by omega), List.append_assoc, List.getElem?_append_left (by rw [List.length_take]; omega), List.getElem?_take, if_pos hk1]
  · by_cases hk2 : k < i * n + n
    · rw [List.append_assoc, List.getElem?_append_right (by rw [List.length_take]; omega), List.length_take, Nat.min_eq_left (by omega), List.getElem?_append_left (by omega), hy, List.getElem?_set]
      by_cases e : i * n + j = k
      · rw [if_pos e, if_pos (by omega), if_pos (by omega), if_pos (by omega)]
      · rw [if_neg e, if_neg (by omega)]
        have h2 := rows_at h hi (k - i * n) _ (List.getElem?_eq_getElem (by omega))
        rw [show i * n + (k - i * n) = k by omega] at h2
        rw [h2, List.getElem?_eq_getElem]
    · rw [if_neg (by omega), List.getElem?_append_right (by rw [List.length_append, List.length_take]; omega), List.length_append, List.length_take, Nat.min_eq_left (by omega), List.getElem?_drop, hgy]
      congr 1; omega
end
theorem rows_snoc {α : Type} {g : α → List Value} (xs : List α) (x : α) : xs.flatMap g ++ g x = (xs ++ [x]).flatMap g := by simp
theorem rows_one {α : Type} {g : α → List Value} {xs : List α} (h : ∀ x ∈ xs, ∀ v ∈ g x, v.oneCell' = true) : ∀ v ∈ xs.flatMap g, v.oneCell' = true := fun v hv => by
  obtain ⟨x, hx, hv⟩ := List.mem_flatMap.1 hv
  exact h x hx v hv
section
variable {α : Type} {cells : α → List Value} {Hd : World → α → Prop} {bulk : α → Nat} {Small : α → Prop}
theorem bulkAll_le {H : Type} : ∀ (l : List α) (ys : List (DataW H)), ys.length = l.length → (∀ (i : Nat) (a : α) (y : DataW H), l[i]? = some a → ys[i]? = some y → bulk a ≤ Rows.uptoBulk y) → (l.map bulk).sum ≤ Rows.uptoBulkAll ys
  | [], _, _, _ => Nat.zero_le _
  | a :: l, [], h, _ => by cases h
  | a :: l, y :: ys, h, hh => by
    have h1 := hh 0 a y rfl rfl
    have h2 := bulkAll_le l ys (by simpa using h) fun i a y ha hy => hh (i + 1) a y ha hy
    simp only [List.map_cons, List.sum_cons, Rows.uptoBulkAll]; omega
theorem weights_mem_all {H : Type} {e : TypeId} : ∀ {ds : List (DataW H)} {d : DataW H}, d ∈ ds → ∀ m ∈ DataW.weights P e d, m ∈ DataW.weightsAll P e ds
  | d0 :: ds, d, hd, m, hm => by
    simp only [DataW.weightsAll, List.mem_append]
    rcases List.mem_cons.1 hd with rfl | hd
    · exact .inl hm
    · exact .inr (weights_mem_all hd m hm)
theorem Reads.slice {t e sz by_ : Nat} (ht : slB P t e sz by_ = true) (hc : P.cellsOf e = sz) (hb : P.bytesOf e = by_) (hsz : ∀ a, (cells a).length = sz ∨ True) (r : Reads P e cells Hd bulk Small) :
    Reads P t (fun s : Sl α => [.slice s.b s.xs.length s.c]) (fun W s => s.xs.length ≤ s.c ∧ s.c ≤ maxLen ∧ Row W s.b (s.xs.flatMap cells) ∧ (∀ x ∈ s.xs, Hd W x ∧ (cells x).length = sz)) (fun s => (s.xs.map bulk).sum + 1) (fun s => s.xs.length * by_ ≤ reachBytes ∧ ∀ x ∈ s.xs, Small x) := fun H enc W hd fuel cs x h => by
  rcases DataW.trod_slice (slB_spec ht).1 h with ⟨e1, e2⟩ | ⟨a, len, cap, elems, rest, n, _, e1, hx, _, hlc, hcm, hlen, hel, _, _⟩
  · exact ⟨⟨none, 0, []⟩, e1, ⟨Nat.le_refl _, Nat.zero_le _, Row.nil, fun _ h => by cases h⟩, bulk_one _, fun _ => ⟨by simp, fun _ h => by cases h⟩⟩
  · obtain ⟨l, hl, hp⟩ := list_choice' (Q := fun i (p : α) => ∃ y, elems[i]? = some y ∧ (cells p).length = sz ∧ (∀ (j : Nat) (v : Value), (cells p)[j]? = some v → W.cell? ((a.add (i * sz)).add j) = some v) ∧ Hd W p ∧ bulk p ≤ Rows.uptoBulk y.1 ∧ ((∀ m ∈ DataW.weights P e y.1, m ≤ reachBytes) → Small p)) len fun i hi => by
      have h1 := hel i hi
      rw [hc, List.getElem?_eq_getElem (by omega)] at h1
      obtain ⟨us, hus, htr⟩ := Option.bind_eq_some_iff.1 h1
      obtain ⟨_, hl1, hc1⟩ := World.cells?_some hus
      obtain ⟨p, q1, q2, q3, q4⟩ := r H enc W hd n us _ htr
      refine ⟨p, _, List.getElem?_eq_getElem (by omega), by rw [← q1]; exact hl1, fun j v hv => ?_, q2, q3, q4⟩
      rw [← q1] at hv
      have hj := (List.getElem?_eq_some_iff.1 hv).1
      have := hc1 j (by omega)
      rw [this, ← hv]
    have hx9 := hx
    have hlen2 : ∀ x ∈ l, (cells x).length = sz := fun x hx => by
      obtain ⟨i, hi, e⟩ := List.mem_iff_getElem.1 hx
      obtain ⟨y, _, h2, _⟩ := hp i x (by rw [List.getElem?_eq_getElem hi, e])
      exact h2
    refine ⟨⟨some a, cap, l⟩, by rw [e1]; show _ = [Value.slice (some a) l.length cap]; rw [hl], ⟨by show l.length ≤ cap; omega, hcm, fun j v hv => ⟨a, rfl, ?_⟩, fun x hx => ?_⟩, ?_, fun hm => ⟨?_, fun x hx => ?_⟩⟩
    · have hj := (List.getElem?_eq_some_iff.1 hv).1
      have hv : (l.flatMap cells)[j]? = some v := hv
      have hj : j < (l.flatMap cells).length := hj
      rw [rows_length hlen2] at hj
      have hs0 : 0 < sz := Nat.pos_of_ne_zero fun e => by subst e; simp at hj
      have hi : j / sz < l.length := by rw [Nat.div_lt_iff_lt_mul hs0]; exact hj
      obtain ⟨y, _, h2, h3, _⟩ := hp (j / sz) _ (List.getElem?_eq_getElem hi)
      have hm2 : j % sz < (cells l[j / sz]).length := by rw [h2]; exact Nat.mod_lt _ hs0
      have h4 := rows_at hlen2 (List.getElem?_eq_getElem hi) (j % sz) _ (List.getElem?_eq_getElem hm2)
      have e : j / sz * sz + j % sz = j := by rw [Nat.mul_comm]; exact Nat.div_add_mod j sz
      rw [e, hv] at h4
      have h5 := h3 (j % sz) _ (List.getElem?_eq_getElem hm2)
      have e5 : (a.add (j / sz * sz)).add (j % sz) = a.add j := by
        have : (a.add (j / sz * sz)).add (j % sz) = a.add (j / sz * sz + j % sz) := by
          unfold Addr.add
          by_cases h1 : j / sz * sz = 0 <;> by_cases h2 : j % sz = 0 <;> simp [h1, h2, Nat.add_assoc]
        rw [this, e]
      rw [e5] at h5
      rw [h5, h4]
    · obtain ⟨i, hi, e⟩ := List.mem_iff_getElem.1 hx
      obtain ⟨y, _, _, _, h4, _⟩ := hp i x (by rw [List.getElem?_eq_getElem hi, e])
      exact ⟨h4, hlen2 x hx⟩
    · rw [hx]
      simp only [Rows.uptoBulk]
      have := bulkAll_le (bulk := bulk) l (elems.map (·.1)) (by simp [hlen, hl]) fun i p y hpi hy => by
        obtain ⟨y2, h1, _, _, _, h5, _⟩ := hp i p hpi
        rw [List.getElem?_map, h1] at hy
        obtain rfl := Option.some.inj hy
        exact h5
      show (l.map bulk).sum + 1 ≤ _
      omega
    · have := hm ((elems.length + rest.length) * by_) (by rw [hx]; simp [DataW.weights, (slB_spec ht).1, hb])
      have h2 : l.length * by_ ≤ (elems.length + rest.length) * by_ := Nat.mul_le_mul_right _ (by omega)
      show l.length * by_ ≤ _
      omega
    · obtain ⟨i, hi, e⟩ := List.mem_iff_getElem.1 hx
      obtain ⟨y, h1, _, _, _, _, h6⟩ := hp i x (by rw [List.getElem?_eq_getElem hi, e])
      refine h6 fun m hm2 => hm m ?_
      rw [hx9]
      simp only [DataW.weights, (slB_spec ht).1, List.mem_cons, List.mem_append]
      exact .inr (.inl (weights_mem_all (List.mem_map.2 ⟨y, List.mem_of_getElem? h1, rfl⟩) m hm2))
theorem Reads.as {t : TypeId} {β : Type} {cells' : β → List Value} {Hd' : World → β → Prop} {bulk' : β → Nat} {Small' : β → Prop} (f : α → β) (r : Reads P t cells Hd bulk Small) (h1 : ∀ a, cells a = cells' (f a)) (h2 : ∀ W a, Hd W a → Hd' W (f a)) (h3 : ∀ a, bulk' (f a) ≤ bulk a) (h4 : ∀ a, Small a → Small' (f a)) : Reads P t cells' Hd' bulk' Small' := fun H enc W hd fuel cs x h => by
  obtain ⟨a, e1, e2, e3, e4⟩ := r H enc W hd fuel cs x h
  exact ⟨f a, by rw [e1, h1], h2 W a e2, Nat.le_trans (h3 a) e3, fun hm => h4 a (e4 hm)⟩
end
/-! ### Arrays of whole numbers -/
theorem Reads.ints {t e n : Nat} {k : IntKind} (ht : P.underlying t = some (.array n e)) (he : P.underlying e = some (.int k)) (hc : P.cellsOf e = 1) (hct : P.cellsOf t = n) : Reads P t (fun zs : List Int => Go.Proofs.Ytfhjhaogmdaepaa.ints k zs) (fun _ zs => zs.length = n ∧ ∀ z ∈ zs, fits k z) (fun _ => 1) (fun _ => True) := fun H enc W hd fuel cs x h => by
  obtain ⟨zs, e1, e2, e3, e4⟩ := open_intArr ht he hc hct h
  exact ⟨zs, e1, ⟨e2, fun z hz => fits_of_wf (e4 z hz)⟩, bulk_one _, fun _ => trivial⟩
/-! ### Structs -/
/-- A struct's fields: type, place, size. -/
def fsB (P : Program) (t : TypeId) (ds : List (Nat × Nat × Nat)) : Bool := match P.underlying t with
  | some (.struct fs) => fs.toList.map (fun f => (f.type, f.offset, P.cellsOf f.type)) == ds
  | _ => false
def ReadsF (P : Program) (ds : List (Nat × Nat × Nat)) (o tot : Nat) {α : Type} (cells : α → List Value) (Hd : World → α → Prop) (bulk : α → Nat) (Small : α → Prop) : Prop :=
  ∀ (H : Type) (enc : TypeId × Value → H) (W : World) (hd : Bool) (n : Nat) (cs : List Value) (xs : List (DataW H × List MemPlace)), cs.length = tot → xs.length = ds.length →
    (∀ (i : Nat) (d : Nat × Nat × Nat), ds[i]? = some d → DataW.trod enc P W 0 (fun _ => true) hd n d.1 ((cs.drop d.2.1).take d.2.2) = xs[i]?) →
    ∃ a, cs.drop o = cells a ∧ Hd W a ∧ bulk a ≤ Rows.uptoBulkAll (xs.map (·.1)) ∧ ((∀ m ∈ DataW.weightsEach P (ds.map (·.1)) (xs.map (·.1)), m ≤ reachBytes) → Small a)
theorem ReadsF.nil {tot : Nat} : ReadsF P [] tot tot (fun _ : Unit => []) (fun _ _ => True) (fun _ => 0) (fun _ => True) := fun H enc W hd n cs xs h1 h2 h3 =>
  ⟨(), List.drop_eq_nil_of_le (by omega), trivial, Nat.zero_le _, fun _ => trivial⟩
section
variable {α β : Type} {ca : α → List Value} {Ha : World → α → Prop} {ba : α → Nat} {Sa : α → Prop} {cb : β → List Value} {Hb : World → β → Prop} {bb : β → Nat} {Sb : β → Prop}
theorem ReadsF.cons {t o s tot : Nat} {ds : List (Nat × Nat × Nat)} (r : Reads P t ca Ha ba Sa) (rs : ReadsF P ds (o + s) tot cb Hb bb Sb) :
    ReadsF P ((t, o, s) :: ds) o tot (fun x : α × β => ca x.1 ++ cb x.2) (fun W x => (Ha W x.1 ∧ (ca x.1).length ≤ s) ∧ Hb W x.2) (fun x => ba x.1 + bb x.2) (fun x => Sa x.1 ∧ Sb x.2) := fun H enc W hd n cs xs h1 h2 h3 => by
  cases xs with
  | nil => cases h2
  | cons x xs =>
    have h0 := h3 0 _ rfl
    obtain ⟨a, e1, e2, e3, e4⟩ := r H enc W hd n _ x h0
    obtain ⟨b, f1, f2, f3, f4⟩ := rs H enc W hd n cs xs h1 (by simpa using h2) fun i d hd => h3 (i + 1) d hd
    refine ⟨(a, b), ?_, ⟨⟨e2, by rw [← e1, List.length_take]; exact Nat.min_le_left _ _⟩, f2⟩, ?_, fun hm => ⟨e4 fun m hm2 => hm m ?_, f4 fun m hm2 => hm m ?_⟩⟩
    · show cs.drop o = ca a ++ cb b
      have e1 : (cs.drop o).take s = ca a := e1
      rw [← e1, ← f1, ← List.drop_drop, List.take_append_drop]
    · simp only [List.map_cons, Rows.uptoBulkAll]; omega
    · simp only [List.map_cons, DataW.weightsEach, List.mem_append]; exact .inl hm2
    · simp only [List.map_cons, DataW.weightsEach, List.mem_append]; exact .inr hm2
theorem Reads.struct {t tot : Nat} {ds : List (Nat × Nat × Nat)} (ht : fsB P t ds = true) (hc : P.cellsOf t = tot) (rs : ReadsF P ds 0 tot ca Ha ba Sa) : Reads P t ca (fun W a => Ha W a ∧ (ca a).length = tot) (fun a => ba a + 1) Sa := fun H enc W hd fuel cs x h => by
  unfold fsB at ht
  split at ht
  · rename_i fs hfs
    have hds : fs.toList.map (fun f => (f.type, f.offset, P.cellsOf f.type)) = ds := by simpa using ht
    obtain ⟨xs, n, _, hx, hl, hxl, hel⟩ := DataW.trod_struct hfs h
    obtain ⟨a, e1, e2, e3, e4⟩ := rs H enc W hd n cs xs (by rw [hl, hc]) (by rw [← hds, List.length_map, hxl]; simp) fun i d hd2 => by
      rw [← hds, List.getElem?_map] at hd2
      obtain ⟨f, hf, rfl⟩ := Option.map_eq_some_iff.1 hd2
      exact hel i f (by simpa using hf)
    rw [List.drop_zero] at e1
    refine ⟨a, e1, ⟨e2, by rw [← e1, hl, hc]⟩, ?_, fun hm => e4 fun m hm2 => hm m ?_⟩
    · rw [hx]; simp only [Rows.uptoBulk]; omega
    · rw [hx]
      simp only [DataW.weights, hfs]
      have : fs.toList.map (·.type) = ds.map (·.1) := by rw [← hds, List.map_map]; rfl
      rw [this]; exact hm2
  · cases ht
end
/-! ### Arguments -/
section
variable {α : Type} {cells : α → List Value} {Hd : World → α → Prop} {bulk : α → Nat} {Small : α → Prop} {H : Type} {enc : TypeId × Value → H} {W : World} {hd : Bool} {base : Nat} {rr : Reach}
theorem Reads.arg {t : TypeId} {v : Value} {d : DataW H} {ps : List MemPlace} (r : Reads P t cells Hd bulk Small) (h : DataW.Trod enc P W 0 (fun _ => true) hd t v d ps) :
    ∃ a, v.cells.toList = cells a ∧ Hd W a ∧ bulk a ≤ Rows.uptoBulk d ∧ ∀ (ts : List TypeId) (ds : List (DataW H)) (j : Nat), (DataW.weightsEach P ts ds).all (· ≤ reachBytes) = true → ts[j]? = some t → ds[j]? = some d → Small a := by
  obtain ⟨fuel, hf⟩ := h
  obtain ⟨a, e1, e2, e3, e4⟩ := r H enc W hd fuel _ _ hf
  exact ⟨a, e1, e2, e3, fun ts ds j hall ht hd' => e4 fun m hm => of_decide_eq_true (List.all_eq_true.1 hall _ (DataW.weights_mem_each ht hd' m hm))⟩
theorem Reads.argSlice {t e : TypeId} {v : Value} {d : DataW H} {ps : List MemPlace} {Hs : World → Sl α → Prop} {bs : Sl α → Nat} {Ss : Sl α → Prop} (r : Reads P t (fun s : Sl α => [.slice s.b s.xs.length s.c]) Hs bs Ss) (ht : P.underlying t = some (.slice e)) (hv : Value.okWide P W rr base t v) (h : DataW.Trod enc P W 0 (fun _ => true) hd t v d ps) :
    ∃ s : Sl α, v = s.val ∧ Hs W s ∧ bs s ≤ Rows.uptoBulk d ∧ ∀ (ts : List TypeId) (ds : List (DataW H)) (j : Nat), (DataW.weightsEach P ts ds).all (· ≤ reachBytes) = true → ts[j]? = some t → ds[j]? = some d → Ss s := by
  obtain ⟨a0, n0, c0, rfl⟩ := okWide_slice ht hv
  obtain ⟨s, e1, e2⟩ := r.arg h
  have e1 : [Value.slice a0 n0 c0] = [Value.slice s.b s.xs.length s.c] := e1
  simp only [List.cons.injEq, and_true] at e1
  exact ⟨s, e1, e2⟩
theorem Reads.argStruct {t : TypeId} {fs : Array Field} {v : Value} {d : DataW H} {ps : List MemPlace} (r : Reads P t cells Hd bulk Small) (ht : P.underlying t = some (.struct fs)) (hv : Value.okWide P W rr base t v) (h : DataW.Trod enc P W 0 (fun _ => true) hd t v d ps) :
    ∃ a, v = .agg (cells a).toArray ∧ Hd W a ∧ bulk a ≤ Rows.uptoBulk d ∧ ∀ (ts : List TypeId) (ds : List (DataW H)) (j : Nat), (DataW.weightsEach P ts ds).all (· ≤ reachBytes) = true → ts[j]? = some t → ds[j]? = some d → Small a := by
  obtain ⟨arr, rfl, _⟩ := okWide_struct ht hv
  obtain ⟨a, e1, e2⟩ := r.arg h
  have e1 : arr.toList = cells a := e1
  exact ⟨a, by rw [← e1], e2⟩
end
end
end Go.Proofs.Ytfhjhaogmdaepaa
