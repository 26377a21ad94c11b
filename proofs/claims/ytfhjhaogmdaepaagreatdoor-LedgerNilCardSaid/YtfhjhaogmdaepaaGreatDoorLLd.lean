/- What the listed variables hold. Printed by gen.py. -/
import Derived.Test.YtfhjhaogmdaepaaGreatDoorEngH
import Derived.Test.YtfhjhaogmdaepaaGreatDoorD2
import Derived.Test.YtfhjhaogmdaepaaGreatDoorRead
set_option linter.unusedVariables false
set_option linter.unusedSimpArgs false
set_option maxRecDepth 100000
namespace Go.Proofs.YtfhjhaogmdaepaaGreatDoor
open Go Go.RowKit Go.ChangeShapes Go.WideShapes Go.Proofs
theorem ownNone : ownKnob Tryz.prog.godebug = none := by kernel_rfl
noncomputable def laid3 : List (String × DataW Unit) := [("assent/assentref02.adds", Rows.laid_assent_assentref02_adds), ("assent/digest.adds", Rows.laid_assent_digest_adds), ("assent/digest.begin", Rows.laid_assent_digest_begin)]
theorem laid3_door (os : Os) (args : Array Value) : laidMetH Tryz.prog laid3 ((World.doorLaid Tryz.prog 400 os).forCall (fun _ _ => 0) ⟨#[], args, []⟩).memory :=
  laidMetH_of_parts3 (fuel := 8) (laidMet_of_run' 8 (by kernel_rfl) (by kernel_rfl)) (by kernel_rfl) (by kernel_rfl)
theorem gRef : Tryz.prog.globalNamed "assent/assentref02.adds" = some 0 := by kernel_rfl
theorem gAdds : Tryz.prog.globalNamed "assent/digest.adds" = some 4 := by kernel_rfl
theorem gBegin : Tryz.prog.globalNamed "assent/digest.begin" = some 3 := by kernel_rfl
theorem tRef : (Tryz.prog.globals[0]?).map (·.type) = some 208 := by kernel_rfl
theorem tAdds : (Tryz.prog.globals[4]?).map (·.type) = some 208 := by kernel_rfl
theorem tBegin : (Tryz.prog.globals[3]?).map (·.type) = some 131 := by kernel_rfl
theorem cells_108 : Tryz.prog.cellsOf 108 = 1 := by kernel_rfl
theorem cells_208 : Tryz.prog.cellsOf 208 = 64 := by kernel_rfl
theorem cells_131 : Tryz.prog.cellsOf 131 = 8 := by kernel_rfl
theorem arr_of_laid {H : Type} {enc : TypeId × Value → H} {W : World} {base : Nat} {sp : Nat → Bool} {hd : Bool} {t n fuel : Nat} {cs : Array Value} {zs : List Int} {ps : List MemPlace} (ht : Tryz.prog.underlying t = some (.array n 108)) (hc : Tryz.prog.cellsOf t = n)
    (h : DataW.trod enc Tryz.prog W base sp hd fuel t cs.toList = some (.agg (lits .u32 zs), ps)) : cs = (ints .u32 zs).toArray := by
  obtain ⟨ys, h1, _, h3, _⟩ := open_intArr ht ty_int_108 cells_108 hc h
  simp only [Prod.mk.injEq, DataW.agg.injEq] at h3
  rw [lits_inj h3.1, ← h1]
theorem glob_of {W : World} {i : Nat} {o : Obj} (h : W.heap[i]? = some o) : (W.heap[i]?).getD default = o := by rw [h]; rfl
/-- What the condition gives: the world's first blocks are the program's tables. -/
theorem globs_of_laid {W : World} (h : laidMetH Tryz.prog laid3 W) : ∃ gl, GlobsR gl ∧ (cx gl).ok W := by
  rw [MakeChecks.laidMetH_plain _ _ _ (by kernel_rfl)] at h
  obtain ⟨ps, ⟨g0, t0, cs0, f0, p0, q0, hg0, ht0, hv0, hd0, ⟨g1, t1, cs1, f1, p1, q1, hg1, ht1, hv1, hd1, ⟨g2, t2, cs2, f2, p2, q2, hg2, ht2, hv2, hd2, _, _⟩, _⟩, _⟩, _, _⟩ := h
  obtain rfl := Option.some.inj (gRef.symm.trans hg0)
  obtain rfl := Option.some.inj (gAdds.symm.trans hg1)
  obtain rfl := Option.some.inj (gBegin.symm.trans hg2)
  obtain rfl := Option.some.inj (tRef.symm.trans ht0)
  obtain rfl := Option.some.inj (tAdds.symm.trans ht1)
  obtain rfl := Option.some.inj (tBegin.symm.trans ht2)
  obtain rfl := arr_of_laid (zs := addsK) ty_un_208 cells_208 hd0
  obtain rfl := arr_of_laid (zs := addsK) ty_un_208 cells_208 hd1
  obtain rfl := arr_of_laid (zs := beginK) ty_un_131 cells_131 hd2
  obtain ⟨T0, r0, e0⟩ := var_heap gRef hv0
  obtain ⟨T1, r1, e1⟩ := var_heap gAdds hv1
  obtain ⟨T2, r2, e2⟩ := var_heap gBegin hv2
  refine ⟨fun i => (W.heap[i]?).getD default, ⟨⟨⟨T2, r2, glob_of e2⟩, ⟨T1, r1, glob_of e1⟩⟩, ⟨T0, r0, glob_of e0⟩⟩, fun i hi => ?_⟩
  have hi : i < 5 := hi
  have hs := lt_of_some (w := W) e1
  show W.heap[i]? = some ((W.heap[i]?).getD default)
  rw [Array.getElem?_eq_getElem (by omega)]; rfl
noncomputable def laid2 : List (String × DataW Unit) := [("assent/digest.adds", Rows.laid_assent_digest_adds), ("assent/digest.begin", Rows.laid_assent_digest_begin)]
theorem laid2_door (os : Os) (args : Array Value) : laidMetH Tryz.prog laid2 ((World.doorLaid Tryz.prog 400 os).forCall (fun _ _ => 0) ⟨#[], args, []⟩).memory :=
  laidMetH_of_parts3 (fuel := 8) (laidMet_of_run' 8 (by kernel_rfl) (by kernel_rfl)) (by kernel_rfl) (by kernel_rfl)
theorem globs2_of_laid {W : World} (h : laidMetH Tryz.prog laid2 W) : ∃ gl, Globs gl ∧ (cx gl).ok W := by
  rw [MakeChecks.laidMetH_plain _ _ _ (by kernel_rfl)] at h
  obtain ⟨ps, ⟨g1, t1, cs1, f1, p1, q1, hg1, ht1, hv1, hd1, ⟨g2, t2, cs2, f2, p2, q2, hg2, ht2, hv2, hd2, _, _⟩, _⟩, _, _⟩ := h
  obtain rfl := Option.some.inj (gAdds.symm.trans hg1)
  obtain rfl := Option.some.inj (gBegin.symm.trans hg2)
  obtain rfl := Option.some.inj (tAdds.symm.trans ht1)
  obtain rfl := Option.some.inj (tBegin.symm.trans ht2)
  obtain rfl := arr_of_laid (zs := addsK) ty_un_208 cells_208 hd1
  obtain rfl := arr_of_laid (zs := beginK) ty_un_131 cells_131 hd2
  obtain ⟨T1, r1, e1⟩ := var_heap gAdds hv1
  obtain ⟨T2, r2, e2⟩ := var_heap gBegin hv2
  refine ⟨fun i => (W.heap[i]?).getD default, ⟨⟨T2, r2, glob_of e2⟩, ⟨T1, r1, glob_of e1⟩⟩, fun i hi => ?_⟩
  have hi : i < 5 := hi
  have hs := lt_of_some (w := W) e1
  show W.heap[i]? = some ((W.heap[i]?).getD default)
  rw [Array.getElem?_eq_getElem (by omega)]; rfl
end Go.Proofs.YtfhjhaogmdaepaaGreatDoor
