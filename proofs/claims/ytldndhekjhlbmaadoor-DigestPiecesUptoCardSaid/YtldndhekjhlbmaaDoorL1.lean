/- What the listed variables hold, and how the arguments are read. Printed by gen.py. -/
import Derived.Test.YtldndhekjhlbmaaDoorEngH
import Derived.Test.YtldndhekjhlbmaaDoorD2
set_option linter.unusedVariables false
set_option linter.unusedSimpArgs false
set_option maxRecDepth 100000
namespace Go.Proofs.YtldndhekjhlbmaaDoor
open Go Go.RowKit Go.ChangeShapes Go.WideShapes Go.Proofs
theorem ownNone : ownKnob Tryd.prog.godebug = none := by kernel_rfl
noncomputable def laid3 : List (String × DataW Unit) := [("assent/assentref02.adds", Rows.laid_assent_assentref02_adds), ("assent/digest.adds", Rows.laid_assent_digest_adds), ("assent/digest.begin", Rows.laid_assent_digest_begin)]
theorem laid3_door (os : Os) (args : Array Value) : laidMetH Tryd.prog laid3 ((World.doorLaid Tryd.prog 400 os).forCall (fun _ _ => 0) ⟨#[], args, []⟩).memory :=
  laidMetH_of_parts3 (fuel := 8) (laidMet_of_run' 8 (by kernel_rfl) (by kernel_rfl)) (by kernel_rfl) (by kernel_rfl)
theorem gRef : Tryd.prog.globalNamed "assent/assentref02.adds" = some 1 := by kernel_rfl
theorem gAdds : Tryd.prog.globalNamed "assent/digest.adds" = some 2 := by kernel_rfl
theorem gBegin : Tryd.prog.globalNamed "assent/digest.begin" = some 0 := by kernel_rfl
theorem tRef : (Tryd.prog.globals[1]?).map (·.type) = some 95 := by kernel_rfl
theorem tAdds : (Tryd.prog.globals[2]?).map (·.type) = some 95 := by kernel_rfl
theorem tBegin : (Tryd.prog.globals[0]?).map (·.type) = some 43 := by kernel_rfl
theorem cells_42 : Tryd.prog.cellsOf 42 = 1 := by kernel_rfl
theorem cells_95 : Tryd.prog.cellsOf 95 = 64 := by kernel_rfl
theorem cells_43 : Tryd.prog.cellsOf 43 = 8 := by kernel_rfl
theorem arr_of_laid {H : Type} {enc : TypeId × Value → H} {W : World} {base : Nat} {sp : Nat → Bool} {hd : Bool} {t n fuel : Nat} {cs : Array Value} {zs : List Int} {ps : List MemPlace} (ht : Tryd.prog.underlying t = some (.array n 42)) (hc : Tryd.prog.cellsOf t = n)
    (h : DataW.trod enc Tryd.prog W base sp hd fuel t cs.toList = some (.agg (lits .u32 zs), ps)) : cs = (ints .u32 zs).toArray := by
  obtain ⟨ys, h1, _, h3, _⟩ := open_intArr ht ty_int_42 cells_42 hc h
  simp only [Prod.mk.injEq, DataW.agg.injEq] at h3
  rw [lits_inj h3.1, ← h1]
theorem glob_of {W : World} {i : Nat} {o : Obj} (h : W.heap[i]? = some o) : (W.heap[i]?).getD default = o := by rw [h]; rfl
/-- What the condition gives: the world's first blocks are the program's tables. -/
theorem globs_of_laid {W : World} (h : laidMetH Tryd.prog laid3 W) : ∃ gl, GlobsR gl ∧ (cx gl).ok W := by
  rw [MakeChecks.laidMetH_plain _ _ _ (by kernel_rfl)] at h
  obtain ⟨ps, ⟨g0, t0, cs0, f0, p0, q0, hg0, ht0, hv0, hd0, ⟨g1, t1, cs1, f1, p1, q1, hg1, ht1, hv1, hd1, ⟨g2, t2, cs2, f2, p2, q2, hg2, ht2, hv2, hd2, _, _⟩, _⟩, _⟩, _, _⟩ := h
  obtain rfl := Option.some.inj (gRef.symm.trans hg0)
  obtain rfl := Option.some.inj (gAdds.symm.trans hg1)
  obtain rfl := Option.some.inj (gBegin.symm.trans hg2)
  obtain rfl := Option.some.inj (tRef.symm.trans ht0)
  obtain rfl := Option.some.inj (tAdds.symm.trans ht1)
  obtain rfl := Option.some.inj (tBegin.symm.trans ht2)
  obtain rfl := arr_of_laid (zs := addsK) ty_un_95 cells_95 hd0
  obtain rfl := arr_of_laid (zs := addsK) ty_un_95 cells_95 hd1
  obtain rfl := arr_of_laid (zs := beginK) ty_un_43 cells_43 hd2
  obtain ⟨T0, r0, e0⟩ := var_heap gRef hv0
  obtain ⟨T1, r1, e1⟩ := var_heap gAdds hv1
  obtain ⟨T2, r2, e2⟩ := var_heap gBegin hv2
  refine ⟨fun i => (W.heap[i]?).getD default, ⟨⟨⟨T2, r2, glob_of e2⟩, ⟨T1, r1, glob_of e1⟩⟩, ⟨T0, r0, glob_of e0⟩⟩, fun i hi => ?_⟩
  have hi : i < 3 := hi
  match i, hi with
  | 0, _ => show W.heap[0]? = some ((W.heap[0]?).getD default); rw [e2]; rfl
  | 1, _ => show W.heap[1]? = some ((W.heap[1]?).getD default); rw [e0]; rfl
  | 2, _ => show W.heap[2]? = some ((W.heap[2]?).getD default); rw [e1]; rfl
noncomputable def laid2 : List (String × DataW Unit) := [("assent/digest.adds", Rows.laid_assent_digest_adds), ("assent/digest.begin", Rows.laid_assent_digest_begin)]
theorem laid2_door (os : Os) (args : Array Value) : laidMetH Tryd.prog laid2 ((World.doorLaid Tryd.prog 400 os).forCall (fun _ _ => 0) ⟨#[], args, []⟩).memory :=
  laidMetH_of_parts3 (fuel := 8) (laidMet_of_run' 8 (by kernel_rfl) (by kernel_rfl)) (by kernel_rfl) (by kernel_rfl)
theorem globs2_of_laid {W : World} (h : laidMetH Tryd.prog laid2 W) : ∃ gl, Globs gl ∧ (cx gl).ok W := by
  rw [MakeChecks.laidMetH_plain _ _ _ (by kernel_rfl)] at h
  obtain ⟨ps, ⟨g1, t1, cs1, f1, p1, q1, hg1, ht1, hv1, hd1, ⟨g2, t2, cs2, f2, p2, q2, hg2, ht2, hv2, hd2, _, _⟩, _⟩, _, _⟩ := h
  obtain rfl := Option.some.inj (gAdds.symm.trans hg1)
  obtain rfl := Option.some.inj (gBegin.symm.trans hg2)
  obtain rfl := Option.some.inj (tAdds.symm.trans ht1)
  obtain rfl := Option.some.inj (tBegin.symm.trans ht2)
  obtain rfl := arr_of_laid (zs := addsK) ty_un_95 cells_95 hd1
  obtain rfl := arr_of_laid (zs := beginK) ty_un_43 cells_43 hd2
  obtain ⟨T1, r1, e1⟩ := var_heap gAdds hv1
  obtain ⟨T2, r2, e2⟩ := var_heap gBegin hv2
  refine ⟨fun i => (W.heap[i]?).getD default, ⟨⟨T2, r2, glob_of e2⟩, ⟨T1, r1, glob_of e1⟩⟩, fun i hi => ?_⟩
  have hi : i < 3 := hi
  have hs := lt_of_some (w := W) e1
  show W.heap[i]? = some ((W.heap[i]?).getD default)
  rw [Array.getElem?_eq_getElem (by omega)]; rfl
section
variable {H : Type} {enc : TypeId × Value → H} {W : World} {base : Nat} {sp : Nat → Bool} {hd : Bool}
theorem cells_5 : Tryd.prog.cellsOf 5 = 1 := by kernel_rfl
theorem cells_23 : Tryd.prog.cellsOf 23 = 32 := by kernel_rfl
theorem wfB {z : Int} (h : (Lit.int .u8 z).wf = true) : 0 ≤ z ∧ z ≤ 255 := by
  simp [Lit.wf, IntKind.min, IntKind.max, IntKind.signed, IntKind.bits] at h; omega
/-- A digest is read. -/
theorem open_hash {r : Reach} {v : Value} {d : DataW H} {ps : List MemPlace} (hv : Value.okWide Tryd.prog W r base 23 v) (h : DataW.Trod enc Tryd.prog W 0 sp hd 23 v d ps) : ∃ zs : List Int, v = .agg (ints .u8 zs).toArray ∧ zs.length = 32 ∧ IsB zs := by
  simp only [Value.okWide, ty_un_23] at hv
  obtain ⟨cs, rfl, _, _⟩ := hv
  obtain ⟨fuel, hf⟩ := h
  obtain ⟨zs, h1, h2, _, h4⟩ := open_intArr ty_un_23 ty_int_5 cells_5 cells_23 hf
  have e : cs.toList = ints .u8 zs := h1
  exact ⟨zs, by rw [← e], h2, fun x hx => wfB (h4 x hx)⟩
/-- A slice of bytes is read. -/
theorem open_bytes {r : Reach} {v : Value} {d : DataW H} {ps : List MemPlace} (hv : Value.okWide Tryd.prog W r base 26 v) (h : DataW.Trod enc Tryd.prog W 0 (fun _ => true) hd 26 v d ps) : ∃ (a : Option Addr) (c : Nat) (zs : List Int), v = .slice a zs.length c ∧ zs.length ≤ c ∧ c ≤ maxLen ∧ IsB zs ∧ Row W a (ints .u8 zs) ∧ (d = .nil ∧ zs = [] ∨ ∃ es ss, d = .slice es ss ∧ es.length = zs.length) := by
  obtain ⟨a0, n0, c0, rfl⟩ := okWide_slice (slB_spec ty_sl_26).1 hv
  obtain ⟨fuel, hf⟩ := h
  rcases open_ints (slB_spec ty_sl_26).1 ty_int_5 cells_5 hf with ⟨e, e2⟩ | ⟨a, len, cap, zs, e, _, hlc, hcm, hz, hx, hc, hw⟩
  · have e : [Value.slice a0 n0 c0] = [Value.slice none 0 0] := e
    simp only [List.cons.injEq, Value.slice.injEq, and_true] at e
    obtain ⟨rfl, rfl, rfl⟩ := e
    exact ⟨none, 0, [], rfl, Nat.le_refl _, Nat.zero_le _, (fun x hx => by cases hx), Row.nil, .inl ⟨by simpa using congrArg Prod.fst e2, rfl⟩⟩
  · have e : [Value.slice a0 n0 c0] = [Value.slice (some a) len cap] := e
    simp only [List.cons.injEq, Value.slice.injEq, and_true] at e
    obtain ⟨rfl, rfl, rfl⟩ := e
    simp only [if_true] at hz
    have hl : (zs.take n0).length = n0 := by rw [List.length_take]; omega
    refine ⟨some a, c0, zs.take n0, by rw [hl], by omega, hcm, fun x hx => wfB (hw x (List.mem_of_mem_take hx)), fun j v hv => ⟨a, rfl, ?_⟩, .inr ⟨_, _, congrArg Prod.fst hx, by unfold lits; rw [List.length_map]⟩⟩
    have hj : j < n0 := by have := (List.getElem?_eq_some_iff.1 hv).1; rw [ints_length, hl] at this; exact this
    rw [ints_at (by rw [hl]; exact hj), Option.some.injEq] at hv
    rw [hc j (by omega), ← hv]
    congr 2
    simp only [List.getD_eq_getElem?_getD, List.getElem?_take, if_pos hj]
/-- Its length is one that a machine can hold. -/
theorem size_bytes {ts : List TypeId} {ds : List (DataW H)} {j : Nat} {d : DataW H} {zs : List Int} (h : (DataW.weightsEach Tryd.prog ts ds).all (· ≤ reachBytes) = true) (ht : ts[j]? = some 26) (hd : ds[j]? = some d) (hx : d = .nil ∧ zs = [] ∨ ∃ es ss, d = .slice es ss ∧ es.length = zs.length) : zs.length ≤ 140737488351232 := by
  rcases hx with ⟨_, rfl⟩ | ⟨es, ss, rfl, e⟩
  · exact Nat.zero_le _
  · have := sized_slice h ht hd (slB_spec ty_sl_26).1
    rw [show Tryd.prog.bytesOf 5 = 1 by kernel_rfl, e] at this
    have hr : reachBytes = 140737488351232 := rfl
    omega
end
end Go.Proofs.YtldndhekjhlbmaaDoor
