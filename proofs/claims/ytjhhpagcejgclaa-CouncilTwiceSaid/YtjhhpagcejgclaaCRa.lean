/- How acts are read. Printed by gen.py. -/
import Derived.Test.YtjhhpagcejgclaaCM1
set_option linter.unusedVariables false
set_option linter.unusedSimpArgs false
set_option maxRecDepth 100000
namespace Go.Proofs.Ytjhhpagcejgclaa
open Go Go.RowKit Go.ChangeShapes Go.WideShapes Go.Proofs
theorem cells_act : Try.prog.cellsOf 79 = 2 := by kernel_rfl
theorem bytes_act : Try.prog.bytesOf 79 = 32 := by kernel_rfl
theorem fs_act : fsB Try.prog 79 [(3, 0, 1), (22, 1, 1)] = true := by kernel_rfl
def acOf (x : Int × Sl Mem × Unit) : Ac := ⟨x.1, x.2.1.b, x.2.1.c, x.2.1.xs⟩
def rd_act := PLift.up (Reads.as (cells' := Ac.cells) (Hd' := fun W a => Row W a.b (memC a.l) ∧ a.l.length ≤ a.c ∧ (∀ m ∈ a.l, m.ok) ∧ -9223372036854775808 ≤ a.n ∧ a.n ≤ 9223372036854775807) (bulk' := fun _ => 1) (Small' := fun a => a.l.length * 24 ≤ reachBytes) acOf (Reads.struct fs_act cells_act (ReadsF.cons (Reads.int ty_int_3) (ReadsF.cons rd_list.down ReadsF.nil))) (fun _ => rfl) (fun W a h => by
  obtain ⟨⟨⟨h1, _⟩, ⟨⟨h2, _, h3, h4⟩, _⟩, _⟩, _⟩ := h
  simp only [fits] at h1
  exact ⟨h3, h2, fun m hm => (h4 m hm).1, h1.1, h1.2⟩) (fun _ => by omega) (fun _ h => h.2.1.1))
def rd_acts := PLift.up (Reads.slice ty_sl_52 cells_act bytes_act (fun _ => .inr trivial) rd_act.down)
theorem ac_small {n : Nat} (h : n * 32 ≤ reachBytes) : n ≤ 9223372036854775806 := by simp only [reachBytes] at h; omega
end Go.Proofs.Ytjhhpagcejgclaa
