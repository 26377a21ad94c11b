/- What the listed variables hold, and how arguments are read. Printed by gen.py. -/
import Derived.Test.YtnaadddnbfnahaaDoorEngH
import Derived.Test.YtnaadddnbfnahaaDoorD2
import Derived.Test.YtnaadddnbfnahaaDoorS7
import Derived.Test.YtnaadddnbfnahaaDoorRead
set_option linter.unusedVariables false
set_option linter.unusedSimpArgs false
set_option maxRecDepth 100000
namespace Go.Proofs.YtnaadddnbfnahaaDoor
open Go Go.RowKit Go.ChangeShapes Go.WideShapes Go.Proofs
theorem ownNone : ownKnob Tryd.prog.godebug = none := by kernel_rfl
noncomputable def laid3 : List (String × DataW Unit) := [("assent/assentref02.adds", Rows.laid_assent_assentref02_adds), ("assent/digest.adds", Rows.laid_assent_digest_adds), ("assent/digest.begin", Rows.laid_assent_digest_begin)]
theorem gRef : Tryd.prog.globalNamed "assent/assentref02.adds" = some 0 := by kernel_rfl
theorem gAdds : Tryd.prog.globalNamed "assent/digest.adds" = some 2 := by kernel_rfl
theorem gBegin : Tryd.prog.globalNamed "assent/digest.begin" = some 1 := by kernel_rfl
theorem tRef : (Tryd.prog.globals[0]?).map (·.type) = some 144 := by kernel_rfl
theorem tAdds : (Tryd.prog.globals[2]?).map (·.type) = some 144 := by kernel_rfl
theorem tBegin : (Tryd.prog.globals[1]?).map (·.type) = some 121 := by kernel_rfl
theorem cells_88 : Tryd.prog.cellsOf 88 = 1 := by kernel_rfl
theorem cells_144 : Tryd.prog.cellsOf 144 = 64 := by kernel_rfl
theorem cells_121 : Tryd.prog.cellsOf 121 = 8 := by kernel_rfl
theorem arr_of_laid {H : Type} {enc : TypeId × Value → H} {W : World} {base : Nat} {sp : Nat → Bool} {hd : Bool} {t n fuel : Nat} {cs : Array Value} {zs : List Int} {ps : List MemPlace} (ht : Tryd.prog.underlying t = some (.array n 88)) (hc : Tryd.prog.cellsOf t = n)
    (h : DataW.trod enc Tryd.prog W base sp hd fuel t cs.toList = some (.agg (lits .u32 zs), ps)) : cs = (ints .u32 zs).toArray := by
  obtain ⟨ys, h1, _, h3, _⟩ := open_intArr ht ty_int_88 cells_88 hc h
  simp only [Prod.mk.injEq, DataW.agg.injEq] at h3
  rw [lits_inj h3.1, ← h1]
theorem glob_of {W : World} {i : Nat} {o : Obj} (h : W.heap[i]? = some o) : (W.heap[i]?).getD default = o := by rw [h]; rfl
/-- What the condition gives: the world's first blocks are the program's tables. -/
theorem globs_of_laid {W : World} (h : laidMetH Tryd.prog laid3 W) : ∃ gl, GlobsR gl ∧ (cx gl).ok W := by
  rw [MakeChecks.laidMetH_plain _ _ _ (by kernel_rfl)] at h
  obtain ⟨ps, ⟨g0, t0, cs0, f0, p0, q0, hg0, ht0, hv0, hd0, ⟨g1, t1, cs1, f1, p1, q1, hg1, ht1, hv1, hd1, ⟨g2, t2, cs2, f2, p2, q2, hg2, ht2, hv2, hd2, _, _⟩, _⟩, _⟩, _, _⟩ := h
  obtain rfl := Option.some.inj (gRef.symm.trans hg0)
  obtain rfl := Option.some.inj (gAdds.symm.trans hg1)
  obtain rfl := Option.some.inj (gBegin.symm.trans hg2)
  obtain rfl := Option.some.inj (tRef.symm.trans ht0)
  obtain rfl := Option.some.inj (tAdds.symm.trans ht1)
  obtain rfl := Option.some.inj (tBegin.symm.trans ht2)
  obtain rfl := arr_of_laid (zs := addsK) ty_un_144 cells_144 hd0
  obtain rfl := arr_of_laid (zs := addsK) ty_un_144 cells_144 hd1
  obtain rfl := arr_of_laid (zs := beginK) ty_un_121 cells_121 hd2
  obtain ⟨T0, r0, e0⟩ := var_heap gRef hv0
  obtain ⟨T1, r1, e1⟩ := var_heap gAdds hv1
  obtain ⟨T2, r2, e2⟩ := var_heap gBegin hv2
  refine ⟨fun i => (W.heap[i]?).getD default, ⟨⟨⟨T2, r2, glob_of e2⟩, ⟨T1, r1, glob_of e1⟩⟩, ⟨T0, r0, glob_of e0⟩⟩, fun i hi => ?_⟩
  have hi : i < 3 := hi
  match i, hi with
  | 0, _ => show W.heap[0]? = some ((W.heap[0]?).getD default); rw [e0]; rfl
  | 1, _ => show W.heap[1]? = some ((W.heap[1]?).getD default); rw [e2]; rfl
  | 2, _ => show W.heap[2]? = some ((W.heap[2]?).getD default); rw [e1]; rfl
theorem cells_u8 : Tryd.prog.cellsOf 5 = 1 := by kernel_rfl
theorem bytes_u8 : Tryd.prog.bytesOf 5 = 1 := by kernel_rfl
theorem cells_seal : Tryd.prog.cellsOf 33 = 16 := by kernel_rfl
theorem flatM_one (k : IntKind) (xs : List Int) : xs.flatMap (fun z => [Value.int k z]) = ints k xs := by
  induction xs with
  | nil => rfl
  | cons x xs ih => rw [List.flatMap_cons, ih]; rfl
theorem sum_ones {α : Type} (xs : List α) : (xs.map fun _ => 1).sum = xs.length := by induction xs with
  | nil => rfl
  | cons x xs ih => rw [List.map_cons, List.sum_cons, ih, List.length_cons]; omega
def rd_bytes := PLift.up (Reads.as (cells' := fun s : Sl Int => [s.val]) (Hd' := fun W s => s.xs.length ≤ s.c ∧ Row W s.b (ints .u8 s.xs) ∧ IsB s.xs) (bulk' := fun s => s.xs.length + 1) (Small' := fun s => s.xs.length ≤ 140737488351232) (fun s : Sl Int => s) (Reads.slice ty_sl_24 cells_u8 bytes_u8 (fun _ => .inr trivial) (Reads.int ty_int_5)) (fun s => rfl) (fun W s h => by
  obtain ⟨h1, _, h2, h3⟩ := h
  rw [flatM_one] at h2
  refine ⟨h1, h2, fun x hx => ?_⟩
  have := (h3 x hx).1
  simp only [fits] at this; omega) (fun s => by rw [sum_ones]; exact Nat.le_refl _) (fun s h => by have := h.1; simp only [reachBytes] at this; omega))
def rd_seal := PLift.up (Reads.ints (k := .u8) ty_un_33 ty_int_5 cells_u8 cells_seal)
def rd_addr := PLift.up (Reads.int ty_int_23)
structure Stg where
  a : Int
  b : Int
  m : Sl Int
  sl : List Int
def Stg.cells (s : Stg) : List Value := [.int .u64 s.a, .int .u64 s.b, s.m.val] ++ ints .u8 s.sl
end Go.Proofs.YtnaadddnbfnahaaDoor
