/- How scripts of calls are read. Printed by gen.py. -/
import Derived.Test.YtnaadddnbfnahaaDoorU6
import Derived.Test.YtnaadddnbfnahaaDoorSRd
set_option linter.unusedVariables false
set_option linter.unusedSimpArgs false
set_option maxRecDepth 100000
namespace Go.Proofs.YtnaadddnbfnahaaDoor
open Go Go.RowKit Go.ChangeShapes Go.WideShapes Go.Proofs
theorem cells_op : Tryd.prog.cellsOf 72 = 23 := by kernel_rfl
theorem bytes_op : Tryd.prog.bytesOf 72 = 88 := by kernel_rfl
theorem fs_op : fsB Tryd.prog 72 [(3, 0, 1), (3, 1, 1), (3, 2, 1), (23, 3, 1), (24, 4, 1), (33, 5, 16), (3, 21, 1), (4, 22, 1)] = true := by kernel_rfl
theorem rd_op : Reads Tryd.prog 72 Opr.cells OprOK (fun _ => 1) (fun o => o.m.xs.length ≤ 140737488351232) :=
  Reads.as (fun a : Int × Int × Int × Int × Sl Int × List Int × Int × Bool × Unit => (⟨a.1, a.2.1, a.2.2.1, a.2.2.2.1, a.2.2.2.2.1, a.2.2.2.2.2.1, a.2.2.2.2.2.2.1, a.2.2.2.2.2.2.2.1⟩ : Opr))
    (Reads.struct fs_op cells_op (ReadsF.cons (Reads.int ty_int_3) (ReadsF.cons (Reads.int ty_int_3) (ReadsF.cons (Reads.int ty_int_3) (ReadsF.cons rd_addr.down (ReadsF.cons rd_bytes.down (ReadsF.cons rd_seal.down (ReadsF.cons (Reads.int ty_int_3) (ReadsF.cons (Reads.bool ty_bool_4) ReadsF.nil)))))))))
    (fun a => by simp [Opr.cells, opC, Sl.val]) (fun W a h => by
      obtain ⟨⟨_, _, _, _, ⟨⟨h1, h2, h3⟩, _⟩, ⟨⟨h4, _⟩, _⟩, _⟩, _⟩ := h
      exact ⟨h2, h3, h4⟩) (fun _ => by omega) (fun _ h => h.2.2.2.2.1)
def rd_script := PLift.up (Reads.slice ty_sl_39 cells_op bytes_op (fun _ => .inr trivial) rd_op)
end Go.Proofs.YtnaadddnbfnahaaDoor
