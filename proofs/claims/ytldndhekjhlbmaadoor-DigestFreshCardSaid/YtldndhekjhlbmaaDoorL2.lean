/- How lists among the arguments are read. Printed by gen.py. -/
import Derived.Test.YtldndhekjhlbmaaDoorL1
import Derived.Test.YtldndhekjhlbmaaDoorD12
set_option linter.unusedVariables false
set_option linter.unusedSimpArgs false
set_option maxRecDepth 100000
namespace Go.Proofs.YtldndhekjhlbmaaDoor
open Go Go.RowKit Go.ChangeShapes Go.WideShapes Go.Proofs
theorem list_choice {α : Type} {P : Nat → α → Prop} : ∀ n, (∀ i, i < n → ∃ p, P i p) → ∃ l : List α, l.length = n ∧ ∀ i p, l[i]? = some p → P i p
  | 0, _ => ⟨[], rfl, fun _ _ h => by cases h⟩
  | n + 1, h => by
    obtain ⟨l, hl, hp⟩ := list_choice n fun i hi => h i (by omega)
    obtain ⟨p, hpp⟩ := h n (by omega)
    refine ⟨l ++ [p], by simp [hl], fun i q hq => ?_⟩
    by_cases hi : i < n
    · rw [List.getElem?_append_left (by omega)] at hq; exact hp i q hq
    · rw [List.getElem?_append_right (by omega)] at hq
      have : i = n := by
        have := (List.getElem?_eq_some_iff.1 hq).1
        simp at this; omega
      subst this
      simp [hl] at hq
      rw [← hq]; exact hpp
section
variable {H : Type} {enc : TypeId × Value → H} {W : World} {base : Nat} {hd : Bool}
theorem cells_26 : Tryd.prog.cellsOf 26 = 1 := by kernel_rfl
/-- One slice of bytes is read. -/
theorem bytes_of_trod {v : Value} {x : DataW H × List MemPlace} {fuel : Nat} (h : DataW.trod enc Tryd.prog W 0 (fun _ => true) hd fuel 26 [v] = some x) : ∃ zs, Bytes W v zs ∧ IsB zs := by
  rcases open_ints (slB_spec ty_sl_26).1 ty_int_5 cells_5 h with ⟨e, e2⟩ | ⟨a, len, cap, zs, e, _, hlc, hcm, hz, hx, hc, hw⟩
  · simp only [List.cons.injEq, and_true] at e
    subst e
    exact ⟨[], ⟨none, 0, rfl, Nat.le_refl _, Row.nil⟩, fun _ h => by cases h⟩
  · simp only [List.cons.injEq, and_true] at e
    subst e
    simp only [if_true] at hz
    have hl : (zs.take len).length = len := by rw [List.length_take]; omega
    refine ⟨zs.take len, ⟨some a, cap, by rw [hl], by omega, fun j v hv => ⟨a, rfl, ?_⟩⟩, fun x hx => wfB (hw x (List.mem_of_mem_take hx))⟩
    have hj : j < len := by have := (List.getElem?_eq_some_iff.1 hv).1; rw [ints_length, hl] at this; exact this
    rw [ints_at (by rw [hl]; exact hj), Option.some.injEq] at hv
    rw [hc j (by omega), ← hv]
    congr 2
    simp only [List.getD_eq_getElem?_getD, List.getElem?_take, if_pos hj]
/-- A slice of slices of bytes is read. -/
theorem open_items {r : Reach} {v : Value} {d : DataW H} {ps : List MemPlace} (hv : Value.okWide Tryd.prog W r base 36 v) (h : DataW.Trod enc Tryd.prog W 0 (fun _ => true) hd 36 v d ps) :
    ∃ (a : Option Addr) (c : Nat) (vs : List Value) (xss : List (List Int)), v = .slice a vs.length c ∧ vs.length ≤ c ∧ c ≤ maxLen ∧ vs.length = xss.length ∧ Items W a vs xss ∧ (∀ x ∈ xss, IsB x) ∧ (d = .nil ∧ vs = [] ∨ ∃ es ss, d = .slice es ss ∧ es.length = vs.length) := by
  obtain ⟨a0, n0, c0, rfl⟩ := okWide_slice (slB_spec ty_sl_36).1 hv
  obtain ⟨fuel, hf⟩ := h
  rcases DataW.trod_slice (slB_spec ty_sl_36).1 hf with ⟨e, e2⟩ | ⟨a, len, cap, elems, rest, n, _, e, hx, _, hlc, hcm, hlen, hel, _, _⟩
  · have e : [Value.slice a0 n0 c0] = [Value.slice none 0 0] := e
    simp only [List.cons.injEq, Value.slice.injEq, and_true] at e
    obtain ⟨rfl, rfl, rfl⟩ := e
    exact ⟨none, 0, [], [], rfl, Nat.le_refl _, Nat.zero_le _, rfl, ⟨Row.nil, BytesL.nil⟩, (fun x hx => by cases hx), .inl ⟨by simpa using congrArg Prod.fst e2, rfl⟩⟩
  · have e : [Value.slice a0 n0 c0] = [Value.slice (some a) len cap] := e
    simp only [List.cons.injEq, Value.slice.injEq, and_true] at e
    obtain ⟨rfl, rfl, rfl⟩ := e
    obtain ⟨l, hl, hp⟩ := list_choice (P := fun i (p : Value × List Int) => W.cell? (a.add i) = some p.1 ∧ Bytes W p.1 p.2 ∧ IsB p.2) n0 fun i hi => by
      have h1 := hel i hi
      rw [cells_26, Nat.mul_one, List.getElem?_eq_getElem (by omega)] at h1
      obtain ⟨cs, hcs, ht⟩ := Option.bind_eq_some_iff.1 h1
      obtain ⟨_, hl1, hc1⟩ := World.cells?_some hcs
      match cs, hl1 with
      | [c], _ =>
        obtain ⟨zs, hb, hz⟩ := bytes_of_trod ht
        have hc2 := hc1 0 (by decide)
        have e0 : (a.add i).add 0 = a.add i := by simp [Addr.add]
        rw [e0] at hc2
        exact ⟨(c, zs), hc2, hb, hz⟩
    refine ⟨some a, c0, l.map (·.1), l.map (·.2), by simp [hl], by simp [hl]; exact hlc, hcm, by simp, ⟨fun j v hv => ?_, by simp, fun i v x h1 h2 => ?_⟩, fun x hx => ?_, .inr ⟨_, _, congrArg Prod.fst hx, by simp [hlen, hl]⟩⟩
    · rw [List.getElem?_map] at hv
      obtain ⟨p, hp1, rfl⟩ := Option.map_eq_some_iff.1 hv
      exact ⟨a, rfl, (hp j p hp1).1⟩
    · rw [List.getElem?_map] at h1 h2
      obtain ⟨p, hp1, rfl⟩ := Option.map_eq_some_iff.1 h1
      rw [hp1] at h2
      simp only [Option.map_some, Option.some.injEq] at h2
      rw [← h2]
      exact (hp i p hp1).2.1
    · obtain ⟨p, hp1, rfl⟩ := List.mem_map.1 hx
      obtain ⟨i, hi, e⟩ := List.mem_iff_getElem.1 hp1
      exact (hp i p (by rw [List.getElem?_eq_getElem hi, e])).2.2
theorem size_items {ts : List TypeId} {ds : List (DataW H)} {j : Nat} {d : DataW H} {vs : List Value} (h : (DataW.weightsEach Tryd.prog ts ds).all (· ≤ reachBytes) = true) (ht : ts[j]? = some 36) (hd : ds[j]? = some d) (hx : d = .nil ∧ vs = [] ∨ ∃ es ss, d = .slice es ss ∧ es.length = vs.length) : vs.length ≤ 5864062014805 := by
  rcases hx with ⟨_, rfl⟩ | ⟨es, ss, rfl, e⟩
  · exact Nat.zero_le _
  · have := sized_slice h ht hd (slB_spec ty_sl_36).1
    rw [show Tryd.prog.bytesOf 26 = 24 by kernel_rfl, e] at this
    have hr : reachBytes = 140737488351232 := rfl
    omega
end
end Go.Proofs.YtldndhekjhlbmaaDoor
