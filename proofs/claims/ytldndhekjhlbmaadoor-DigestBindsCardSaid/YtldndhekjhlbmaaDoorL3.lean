/- How digests and proofs among the arguments are read. Printed by gen.py. -/
import Derived.Test.YtldndhekjhlbmaaDoorL2
import Derived.Test.YtldndhekjhlbmaaDoorEngI
set_option linter.unusedVariables false
set_option linter.unusedSimpArgs false
set_option maxRecDepth 100000
namespace Go.Proofs.YtldndhekjhlbmaaDoor
open Go Go.RowKit Go.ChangeShapes Go.WideShapes Go.Proofs
section
variable {H : Type} {enc : TypeId × Value → H} {W : World} {base : Nat} {hd : Bool}
/-- A row of digests is read. -/
theorem hashes_of_trod {v : Value} {x : DataW H × List MemPlace} {fuel : Nat} (h : DataW.trod enc Tryd.prog W 0 (fun _ => true) hd fuel 55 [v] = some x) : ∃ (a : Option Addr) (c : Nat) (hs : List (List Int)), v = .slice a hs.length c ∧ hs.length ≤ c ∧ Row W a (flat .u8 hs) ∧ (∀ x ∈ hs, x.length = 32) ∧ (∀ x ∈ hs, IsB x) ∧ (x.1 = .nil ∧ hs = [] ∨ ∃ es ss, x.1 = .slice es ss ∧ es.length = hs.length) := by
  rcases DataW.trod_slice (slB_spec ty_sl_55).1 h with ⟨e, e2⟩ | ⟨a, len, cap, elems, rest, n, _, e, hx, _, hlc, hcm, hlen, hel, _, _⟩
  · simp only [List.cons.injEq, and_true] at e
    subst e
    exact ⟨none, 0, [], rfl, Nat.le_refl _, Row.nil, (fun _ h => by cases h), (fun _ h => by cases h), .inl ⟨by rw [e2], rfl⟩⟩
  · simp only [List.cons.injEq, and_true] at e
    subst e
    obtain ⟨l, hl, hp⟩ := list_choice (P := fun i (p : List Int) => p.length = 32 ∧ IsB p ∧ ∀ j v, (ints .u8 p)[j]? = some v → W.cell? (a.add (i * 32 + j)) = some v) len fun i hi => by
      have h1 := hel i hi
      rw [cells_23, List.getElem?_eq_getElem (by omega)] at h1
      obtain ⟨cs, hcs, ht⟩ := Option.bind_eq_some_iff.1 h1
      obtain ⟨_, hl1, hc1⟩ := World.cells?_some hcs
      obtain ⟨zs, e1, e2, _, e4⟩ := open_intArr ty_un_23 ty_int_5 cells_5 cells_23 ht
      refine ⟨zs, e2, fun x hx => wfB (e4 x hx), fun j v hv => ?_⟩
      have hj : j < 32 := by have := (List.getElem?_eq_some_iff.1 hv).1; rw [ints_length, e2] at this; exact this
      have := hc1 j hj
      rw [e1, hv] at this
      rw [← this]
      congr 1
      unfold Addr.add
      by_cases h1 : i * 32 = 0 <;> by_cases h2 : j = 0 <;> simp [h1, h2, Nat.add_assoc] <;> omega
    have hll : ∀ x ∈ l, x.length = 32 := fun x hx => by
      obtain ⟨i, hi, e⟩ := List.mem_iff_getElem.1 hx
      exact (hp i x (by rw [List.getElem?_eq_getElem hi, e])).1
    refine ⟨some a, cap, l, by rw [hl], by omega, fun j v hv => ⟨a, rfl, ?_⟩, hll, fun x hx => ?_, .inr ⟨_, _, by rw [hx], by simp [hlen, hl]⟩⟩
    · have hjl := (List.getElem?_eq_some_iff.1 hv).1
      rw [flat_length hll] at hjl
      have hi : j / 32 < l.length := by omega
      have h2 := hp (j / 32) l[j / 32] (List.getElem?_eq_getElem hi)
      have h3 := flat_at (k := .u8) hll (List.getElem?_eq_getElem hi) (j % 32) (v := v)
      have e : j / 32 * 32 + j % 32 = j := by omega
      have hlt : j % 32 < (ints .u8 l[j / 32]).length := by rw [ints_length, h2.1]; omega
      have h4 := flat_at (k := .u8) hll (List.getElem?_eq_getElem hi) (j % 32) _ (List.getElem?_eq_getElem hlt)
      rw [e, hv] at h4
      have h5 := h2.2.2 (j % 32) _ (List.getElem?_eq_getElem hlt)
      rw [e] at h5
      rw [h5, h4]
    · obtain ⟨i, hi, e⟩ := List.mem_iff_getElem.1 hx
      exact (hp i x (by rw [List.getElem?_eq_getElem hi, e])).2.1
theorem cells_3 : Tryd.prog.cellsOf 3 = 1 := by kernel_rfl
theorem cells_55 : Tryd.prog.cellsOf 55 = 1 := by kernel_rfl
theorem cells_57 : Tryd.prog.cellsOf 57 = 3 := by kernel_rfl
theorem fld_spec {P : Program} {s f off ft : Nat} (h : fldB P s f = some (off, ft)) : ∃ fs fd, P.underlying s = some (.struct fs) ∧ fs[f]? = some fd ∧ fd.offset = off ∧ fd.type = ft := by
  unfold fldB at h
  split at h
  · rename_i fs hu
    split at h
    · rename_i fd hfd
      simp only [Option.some.injEq, Prod.mk.injEq] at h
      exact ⟨fs, fd, hu, hfd, h.1, h.2⟩
    · cases h
  · cases h
/-- A proof is read. -/
theorem open_proof {r : Reach} {v : Value} {d : DataW H} {ps : List MemPlace} (hv : Value.okWide Tryd.prog W r base 57 v) (h : DataW.Trod enc Tryd.prog W 0 (fun _ => true) hd 57 v d ps) :
    ∃ (total index : Int) (a : Option Addr) (c : Nat) (hs : List (List Int)), v = .agg [.int .i64 total, .int .i64 index, .slice a hs.length c].toArray ∧ hs.length ≤ c ∧ Row W a (flat .u8 hs) ∧ (∀ x ∈ hs, x.length = 32) ∧ (∀ x ∈ hs, IsB x) ∧
      ∀ (ts : List TypeId) (ds : List (DataW H)) (j : Nat), (DataW.weightsEach Tryd.prog ts ds).all (· ≤ reachBytes) = true → ts[j]? = some 57 → ds[j]? = some d → 32 * hs.length ≤ 140737488351232 := by
  obtain ⟨fs, f0, hu, hf0, o0, t0⟩ := fld_spec ty_fld_57_0
  obtain ⟨fs1, f1, hu1, hf1, o1, t1⟩ := fld_spec ty_fld_57_1
  obtain ⟨fs2, f2, hu2, hf2, o2, t2⟩ := fld_spec ty_fld_57_2
  rw [hu] at hu1 hu2
  simp only [Option.some.injEq, TypeDesc.struct.injEq] at hu1 hu2
  subst hu1; subst hu2
  obtain ⟨arr, rfl, hsz⟩ := okWide_struct hu hv
  obtain ⟨fuel, hf⟩ := h
  obtain ⟨xs, n, _, hx, hl, hxl, hel⟩ := DataW.trod_struct hu hf
  have hsize : 2 < fs.size := (Array.getElem?_eq_some_iff.1 hf2).1
  have h0 := hel 0 f0 hf0
  have h1 := hel 1 f1 hf1
  have h2 := hel 2 f2 hf2
  rw [o0, t0, cells_3, List.getElem?_eq_getElem (by omega)] at h0
  rw [o1, t1, cells_3, List.getElem?_eq_getElem (by omega)] at h1
  rw [o2, t2, cells_55, List.getElem?_eq_getElem (by omega)] at h2
  have hl3 : arr.toList.length = 3 := by rw [← cells_57]; exact hl
  obtain ⟨l⟩ := arr
  match l, hl3 with
  | [x0, x1, x2], _ =>
    obtain ⟨z0, e0, _, _⟩ := DataW.trod_int ty_int_3 (show DataW.trod enc Tryd.prog W 0 (fun _ => true) hd n 3 [x0] = some xs[0] from h0)
    obtain ⟨z1, e1, _, _⟩ := DataW.trod_int ty_int_3 (show DataW.trod enc Tryd.prog W 0 (fun _ => true) hd n 3 [x1] = some xs[1] from h1)
    obtain ⟨a, c, hs, e2, hc, hr, hl32, hb, hw⟩ := hashes_of_trod (show DataW.trod enc Tryd.prog W 0 (fun _ => true) hd n 55 [x2] = some xs[2] from h2)
    simp only [List.cons.injEq, and_true] at e0 e1
    subst e0; subst e1; subst e2
    refine ⟨z0, z1, a, c, hs, rfl, hc, hr, hl32, hb, fun ts ds j hall ht hd' => ?_⟩
    rcases hw with ⟨_, rfl⟩ | ⟨es, ss, he, hlen⟩
    · simp
    · have hmem : (es.length + ss.length) * Tryd.prog.bytesOf 23 ∈ DataW.weights Tryd.prog 57 d := by
        rw [show d = .agg (xs.map (·.1)) from congrArg Prod.fst hx]
        simp only [DataW.weights, hu]
        refine DataW.weights_mem_each (j := 2) (t := 55) (d := xs[2].1) ?_ ?_ _ ?_
        · rw [List.getElem?_map]
          have : fs.toList[2]? = some f2 := by simpa using hf2
          rw [this, ← t2]; rfl
        · rw [List.getElem?_map, List.getElem?_eq_getElem (by omega)]; rfl
        · rw [he]; simp [DataW.weights, (slB_spec ty_sl_55).1]
      have := List.all_eq_true.1 hall _ (DataW.weights_mem_each ht hd' _ hmem)
      rw [show Tryd.prog.bytesOf 23 = 32 by kernel_rfl] at this
      have hr : reachBytes = 140737488351232 := rfl
      have := of_decide_eq_true this
      omega
end
end Go.Proofs.YtldndhekjhlbmaaDoor
