/- Bulk of lists among the arguments. Printed by gen.py. -/
import Derived.Test.YtldndhekjhlbmaaDoorL2
set_option linter.unusedVariables false
set_option linter.unusedSimpArgs false
set_option maxRecDepth 100000
namespace Go.Proofs.YtldndhekjhlbmaaDoor
open Go Go.RowKit Go.ChangeShapes Go.WideShapes Go.Proofs
section
variable {H : Type} {enc : TypeId × Value → H} {W : World} {base : Nat} {hd : Bool}
theorem bulk_one (d : DataW H) : 1 ≤ Rows.uptoBulk d := by
  cases d with
  | lit l => cases l <;> simp [Rows.uptoBulk]
  | nil => simp [Rows.uptoBulk]
  | ptr d => simp [Rows.uptoBulk]
  | slice elems spare => simp [Rows.uptoBulk]
  | agg parts => simp [Rows.uptoBulk]
  | iface t d => simp [Rows.uptoBulk]
  | map entries => simp [Rows.uptoBulk]
  | held h => simp [Rows.uptoBulk]
theorem bulk_part {d : DataW H} {l : List (DataW H)} (h : d ∈ l) : Rows.uptoBulk d ≤ Rows.uptoBulkAll l := by
  induction l with
  | nil => cases h
  | cons x r ih =>
    simp only [Rows.uptoBulkAll]
    cases List.mem_cons.1 h with
    | inl e => subst e; omega
    | inr e => have := ih e; omega
theorem bulk_len (l : List (DataW H)) : l.length ≤ Rows.uptoBulkAll l := by
  induction l with
  | nil => simp [Rows.uptoBulkAll]
  | cons x r ih => have := bulk_one x; simp only [Rows.uptoBulkAll, List.length_cons]; omega
/-- One slice of bytes is read. -/
theorem bytes_of_trodB {v : Value} {x : DataW H × List MemPlace} {fuel : Nat} (h : DataW.trod enc Tryd.prog W 0 (fun _ => true) hd fuel 26 [v] = some x) : ∃ zs, Bytes W v zs ∧ IsB zs ∧ zs.length ≤ Rows.uptoBulk x.1 := by
  rcases open_ints (slB_spec ty_sl_26).1 ty_int_5 cells_5 h with ⟨e, e2⟩ | ⟨a, len, cap, zs, e, _, hlc, hcm, hz, hx, hc, hw⟩
  · simp only [List.cons.injEq, and_true] at e
    subst e
    exact ⟨[], ⟨none, 0, rfl, Nat.le_refl _, Row.nil⟩, (fun _ h => by cases h), Nat.zero_le _⟩
  · simp only [List.cons.injEq, and_true] at e
    subst e
    simp only [if_true] at hz
    have hl : (zs.take len).length = len := by rw [List.length_take]; omega
    refine ⟨zs.take len, ⟨some a, cap, by rw [hl], by omega, fun j v hv => ⟨a, rfl, ?_⟩⟩, (fun x hx => wfB (hw x (List.mem_of_mem_take hx))), ?_⟩
    · have hj : j < len := by have := (List.getElem?_eq_some_iff.1 hv).1; rw [ints_length, hl] at this; exact this
      rw [ints_at (by rw [hl]; exact hj), Option.some.injEq] at hv
      rw [hc j (by omega), ← hv]
      congr 2
      simp only [List.getD_eq_getElem?_getD, List.getElem?_take, if_pos hj]
    · rw [hx]
      simp only [Rows.uptoBulk]
      have := bulk_len (lits (H := H) .u8 (zs.take len))
      have e9 : (lits (H := H) .u8 (zs.take len)).length = (zs.take len).length := by unfold lits; rw [List.length_map]
      omega
/-- A slice of slices of bytes is read. -/
theorem open_itemsB {r : Reach} {v : Value} {d : DataW H} {ps : List MemPlace} (hv : Value.okWide Tryd.prog W r base 36 v) (h : DataW.Trod enc Tryd.prog W 0 (fun _ => true) hd 36 v d ps) :
    ∃ (a : Option Addr) (c : Nat) (vs : List Value) (xss : List (List Int)), v = .slice a vs.length c ∧ vs.length ≤ c ∧ c ≤ maxLen ∧ vs.length = xss.length ∧ Items W a vs xss ∧ (∀ x ∈ xss, IsB x) ∧ vs.length ≤ Rows.uptoBulk d ∧ (∀ x ∈ xss, x.length ≤ Rows.uptoBulk d) := by
  obtain ⟨a0, n0, c0, rfl⟩ := okWide_slice (slB_spec ty_sl_36).1 hv
  obtain ⟨fuel, hf⟩ := h
  rcases DataW.trod_slice (slB_spec ty_sl_36).1 hf with ⟨e, e2⟩ | ⟨a, len, cap, elems, rest, n, _, e, hx, _, hlc, hcm, hlen, hel, _, _⟩
  · have e : [Value.slice a0 n0 c0] = [Value.slice none 0 0] := e
    simp only [List.cons.injEq, Value.slice.injEq, and_true] at e
    obtain ⟨rfl, rfl, rfl⟩ := e
    exact ⟨none, 0, [], [], rfl, Nat.le_refl _, Nat.zero_le _, rfl, ⟨Row.nil, BytesL.nil⟩, (fun x hx => by cases hx), Nat.zero_le _, (fun x hx => by cases hx)⟩
  · have e : [Value.slice a0 n0 c0] = [Value.slice (some a) len cap] := e
    simp only [List.cons.injEq, Value.slice.injEq, and_true] at e
    obtain ⟨rfl, rfl, rfl⟩ := e
    have hd : d = .slice (elems.map (·.1)) _ := congrArg Prod.fst hx
    have hbk : ∀ y ∈ elems, Rows.uptoBulk y.1 ≤ Rows.uptoBulk d := fun y hy => by
      rw [hd]
      simp only [Rows.uptoBulk]
      have := bulk_part (List.mem_map.2 ⟨y, hy, rfl⟩ : y.1 ∈ elems.map (·.1))
      omega
    obtain ⟨l, hl, hp⟩ := list_choice (P := fun i (p : Value × List Int) => W.cell? (a.add i) = some p.1 ∧ Bytes W p.1 p.2 ∧ IsB p.2 ∧ p.2.length ≤ Rows.uptoBulk d) n0 fun i hi => by
      have h1 := hel i hi
      rw [cells_26, Nat.mul_one, List.getElem?_eq_getElem (by omega)] at h1
      obtain ⟨cs, hcs, ht⟩ := Option.bind_eq_some_iff.1 h1
      obtain ⟨_, hl1, hc1⟩ := World.cells?_some hcs
      match cs, hl1 with
      | [c], _ =>
        obtain ⟨zs, hb, hz, hzb⟩ := bytes_of_trodB ht
        have hc2 := hc1 0 (by decide)
        have e0 : (a.add i).add 0 = a.add i := by simp [Addr.add]
        rw [e0] at hc2
        exact ⟨(c, zs), hc2, hb, hz, Nat.le_trans hzb (hbk _ (List.getElem_mem _))⟩
    refine ⟨some a, c0, l.map (·.1), l.map (·.2), by simp [hl], by simp [hl]; exact hlc, hcm, by simp, ⟨fun j v hv => ?_, by simp, fun i v x h1 h2 => ?_⟩, fun x hx => ?_, ?_, fun x hx => ?_⟩
    · rw [List.getElem?_map] at hv
      obtain ⟨p, hp1, rfl⟩ := Option.map_eq_some_iff.1 hv
      exact ⟨a, rfl, (hp j p hp1).1⟩
    · rw [List.getElem?_map] at h1 h2
      obtain ⟨p, hp1, rfl⟩ := Option.map_eq_some_iff.1 h1
      rw [hp1] at h2
      simp only [Option.map_some, Option.some.injEq] at h2
      rw [← h2]
      exact (hp i p hp1).2.1
    · obtain ⟨p, hp1, rfl⟩ := List.mem_map.1 hx
      obtain ⟨i, hi, e⟩ := List.mem_iff_getElem.1 hp1
      exact (hp i p (by rw [List.getElem?_eq_getElem hi, e])).2.2.1
    · rw [hd]
      simp only [Rows.uptoBulk, List.length_map]
      have := bulk_len (elems.map (·.1))
      rw [List.length_map] at this
      omega
    · obtain ⟨p, hp1, rfl⟩ := List.mem_map.1 hx
      obtain ⟨i, hi, e⟩ := List.mem_iff_getElem.1 hp1
      exact (hp i p (by rw [List.getElem?_eq_getElem hi, e])).2.2.2
end
end Go.Proofs.YtldndhekjhlbmaaDoor
