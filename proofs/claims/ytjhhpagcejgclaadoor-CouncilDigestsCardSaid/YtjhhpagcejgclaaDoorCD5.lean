/- What the listed variables hold, and how councils are read. Printed by gen.py. -/
import Derived.Test.YtjhhpagcejgclaaDoorEngH
import Derived.Test.YtjhhpagcejgclaaDoorD2
import Derived.Test.YtjhhpagcejgclaaDoorCD4
import Derived.Test.YtjhhpagcejgclaaDoorRead
set_option linter.unusedVariables false
set_option linter.unusedSimpArgs false
set_option maxRecDepth 100000
namespace Go.Proofs.YtjhhpagcejgclaaDoor
open Go Go.RowKit Go.ChangeShapes Go.WideShapes Go.Proofs
theorem ownNone : ownKnob Tryd.prog.godebug = none := by kernel_rfl
noncomputable def laid3 : List (String × DataW Unit) := [("assent/assentref02.adds", Rows.laid_assent_assentref02_adds), ("assent/digest.adds", Rows.laid_assent_digest_adds), ("assent/digest.begin", Rows.laid_assent_digest_begin)]
theorem laid3_door (os : Os) (args : Array Value) : laidMetH Tryd.prog laid3 ((World.doorLaid Tryd.prog 400 os).forCall (fun _ _ => 0) ⟨#[], args, []⟩).memory :=
  laidMetH_of_parts3 (fuel := 8) (laidMet_of_run' 8 (by kernel_rfl) (by kernel_rfl)) (by kernel_rfl) (by kernel_rfl)
theorem gRef : Tryd.prog.globalNamed "assent/assentref02.adds" = some 0 := by kernel_rfl
theorem gAdds : Tryd.prog.globalNamed "assent/digest.adds" = some 2 := by kernel_rfl
theorem gBegin : Tryd.prog.globalNamed "assent/digest.begin" = some 1 := by kernel_rfl
theorem tRef : (Tryd.prog.globals[0]?).map (·.type) = some 102 := by kernel_rfl
theorem tAdds : (Tryd.prog.globals[2]?).map (·.type) = some 102 := by kernel_rfl
theorem tBegin : (Tryd.prog.globals[1]?).map (·.type) = some 89 := by kernel_rfl
theorem cells_88 : Tryd.prog.cellsOf 88 = 1 := by kernel_rfl
theorem cells_102 : Tryd.prog.cellsOf 102 = 64 := by kernel_rfl
theorem cells_89 : Tryd.prog.cellsOf 89 = 8 := by kernel_rfl
theorem arr_of_laid {H : Type} {enc : TypeId × Value → H} {W : World} {base : Nat} {sp : Nat → Bool} {hd : Bool} {t n fuel : Nat} {cs : Array Value} {zs : List Int} {ps : List MemPlace} (ht : Tryd.prog.underlying t = some (.array n 88)) (hc : Tryd.prog.cellsOf t = n)
    (h : DataW.trod enc Tryd.prog W base sp hd fuel t cs.toList = some (.agg (lits .u32 zs), ps)) : cs = (ints .u32 zs).toArray := by
  obtain ⟨ys, h1, _, h3, _⟩ := open_intArr ht ty_int_88 cells_88 hc h
  simp only [Prod.mk.injEq, DataW.agg.injEq] at h3
  rw [lits_inj h3.1, ← h1]
theorem glob_of {W : World} {i : Nat} {o : Obj} (h : W.heap[i]? = some o) : (W.heap[i]?).getD default = o := by rw [h]; rfl
/-- What the condition gives: the world's first blocks are the program's tables. -/
theorem globs_of_laid {W : World} (h : laidMetH Tryd.prog laid3 W) : ∃ gl, GlobsR gl ∧ (cx gl).ok W := by
  rw [MakeChecks.laidMetH_plain _ _ _ (by kernel_rfl)] at h
  obtain ⟨ps, ⟨g0, t0, cs0, f0, p0, q0, hg0, ht0, hv0, hd0, ⟨g1, t1, cs1, f1, p1, q1, hg1, ht1, hv1, hd1, ⟨g2, t2, cs2, f2, p2, q2, hg2, ht2, hv2, hd2, _, _⟩, _⟩, _⟩, _, _⟩ := h
  obtain rfl := Option.some.inj (gRef.symm.trans hg0)
  obtain rfl := Option.some.inj (gAdds.symm.trans hg1)
  obtain rfl := Option.some.inj (gBegin.symm.trans hg2)
  obtain rfl := Option.some.inj (tRef.symm.trans ht0)
  obtain rfl := Option.some.inj (tAdds.symm.trans ht1)
  obtain rfl := Option.some.inj (tBegin.symm.trans ht2)
  obtain rfl := arr_of_laid (zs := addsK) ty_un_102 cells_102 hd0
  obtain rfl := arr_of_laid (zs := addsK) ty_un_102 cells_102 hd1
  obtain rfl := arr_of_laid (zs := beginK) ty_un_89 cells_89 hd2
  obtain ⟨T0, r0, e0⟩ := var_heap gRef hv0
  obtain ⟨T1, r1, e1⟩ := var_heap gAdds hv1
  obtain ⟨T2, r2, e2⟩ := var_heap gBegin hv2
  refine ⟨fun i => (W.heap[i]?).getD default, ⟨⟨⟨T2, r2, glob_of e2⟩, ⟨T1, r1, glob_of e1⟩⟩, ⟨T0, r0, glob_of e0⟩⟩, fun i hi => ?_⟩
  have hi : i < 3 := hi
  match i, hi with
  | 0, _ => show W.heap[0]? = some ((W.heap[0]?).getD default); rw [e0]; rfl
  | 1, _ => show W.heap[1]? = some ((W.heap[1]?).getD default); rw [e2]; rfl
  | 2, _ => show W.heap[2]? = some ((W.heap[2]?).getD default); rw [e1]; rfl
theorem cells_me : Tryd.prog.cellsOf 37 = 3 := by kernel_rfl
theorem bytes_me : Tryd.prog.bytesOf 37 = 24 := by kernel_rfl
theorem cells_co : Tryd.prog.cellsOf 24 = 1 := by kernel_rfl
theorem fs_me : fsB Tryd.prog 37 [(35, 0, 1), (34, 1, 1), (2, 2, 1)] = true := by kernel_rfl
theorem fs_co : fsB Tryd.prog 24 [(22, 0, 1)] = true := by kernel_rfl
def memOf (a : Int × Int × Int × Unit) : Mem := ⟨a.1, a.2.1, a.2.2.1⟩
def rd_member := PLift.up (Reads.as (cells' := Mem.cells) (Hd' := fun _ m => m.ok) (bulk' := fun _ => 1) (Small' := fun _ => True) memOf (Reads.struct fs_me cells_me (ReadsF.cons (Reads.int ty_int_35) (ReadsF.cons (Reads.int ty_int_34) (ReadsF.cons (Reads.int ty_int_2) ReadsF.nil)))) (fun _ => rfl) (fun W a h => by
  obtain ⟨⟨⟨h1, _⟩, ⟨h2, _⟩, ⟨h3, _⟩, _⟩, _⟩ := h
  simp only [fits] at h1 h2 h3
  refine ⟨?_, ?_, h3⟩
  · show 0 ≤ a.1 ∧ a.1 ≤ 18446744073709551615; omega
  · show 0 ≤ a.2.1 ∧ a.2.1 ≤ 18446744073709551615; omega) (fun _ => by omega) (fun _ _ => trivial))
def rd_list := PLift.up (Reads.slice ty_sl_22 cells_me bytes_me (fun _ => .inr trivial) rd_member.down)
def rd_council := PLift.up (Reads.as (cells' := fun s : Sl Mem => [s.val]) (Hd' := fun W s => s.xs.length ≤ s.c ∧ Row W s.b (memC s.xs) ∧ ∀ m ∈ s.xs, m.ok) (bulk' := fun _ => 1) (Small' := fun s => s.xs.length * 24 ≤ reachBytes) (fun a : Sl Mem × Unit => a.1) (Reads.struct fs_co cells_co (ReadsF.cons rd_list.down ReadsF.nil)) (fun _ => rfl) (fun W a h => by
  obtain ⟨⟨⟨⟨h1, _, h2, h3⟩, _⟩, _⟩, _⟩ := h
  exact ⟨h1, h2, fun m hm => (h3 m hm).1⟩) (fun _ => by omega) (fun _ h => h.1.1))
theorem sn_left {C : Cx} {F : Fx} {rs : List HP} {T n c : Nat} {base : Option Addr} {l k : List Mem} (m : Has rs (ownS T 3 (.slice base n c) n (memC (l ++ k))) (ownS T 3 (.slice base n c) n (memC (l ++ k))) rs) : Sn C F rs base (memC l) := by
  have h : Sn C F rs base (memC (l ++ k)) := Sn.own m rfl
  rw [memC_append] at h; exact h.left
theorem newM_len {l : List Mem} (h : l.length ≤ 5864062014700) : (newM l).length ≤ 5864062014700 := by unfold newM; split; rw [newL_length]; exact h; exact Nat.zero_le _
theorem newM_ok {l : List Mem} (h : ∀ m ∈ l, m.ok) : ∀ m ∈ newM l, m.ok := by unfold newM; split; exact newL_ok h; intro m hm; cases hm
theorem le_of_small {n : Nat} (h : n * 24 ≤ reachBytes) : n ≤ 5864062014700 := by simp only [reachBytes] at h; omega
end Go.Proofs.YtjhhpagcejgclaaDoor
