/- How a script over hashers is read. Printed by gen.py. -/
import Derived.Test.YtldndhekjhlbmaaDoorD29
import Derived.Test.YtldndhekjhlbmaaDoorRead
import Derived.Test.YtldndhekjhlbmaaDoorL1
set_option linter.unusedVariables false
set_option linter.unusedSimpArgs false
set_option maxRecDepth 100000
namespace Go.Proofs.YtldndhekjhlbmaaDoor
open Go Go.RowKit Go.ChangeShapes Go.WideShapes Go.Proofs
theorem cells_r26 : Tryd.prog.cellsOf 26 = 1 := by kernel_rfl
theorem cells_r5 : Tryd.prog.cellsOf 5 = 1 := by kernel_rfl
theorem bytes_r5 : Tryd.prog.bytesOf 5 = 1 := by kernel_rfl
theorem cells_r38 : Tryd.prog.cellsOf 38 = 3 := by kernel_rfl
theorem bytes_r38 : Tryd.prog.bytesOf 38 = 40 := by kernel_rfl
theorem fs_38 : fsB Tryd.prog 38 [(3, 0, 1), (3, 1, 1), (26, 2, 1)] = true := by kernel_rfl
def rd_bytes := PLift.up (Reads.slice ty_sl_26 cells_r5 bytes_r5 (fun _ => .inr trivial) (Reads.int ty_int_5))
def rd_step := PLift.up (Reads.struct fs_38 cells_r38 (ReadsF.cons (Reads.int ty_int_3) (ReadsF.cons (Reads.int ty_int_3) (ReadsF.cons rd_bytes.down ReadsF.nil))))
def rd_script := PLift.up (Reads.slice ty_sl_31 cells_r38 bytes_r38 (fun _ => .inr trivial) rd_step.down)
def stpOf (a : Int × Int × Sl Int × Unit) : Stp := ⟨a.1, a.2.1, a.2.2.1.b, a.2.2.1.c, a.2.2.1.xs⟩
theorem sum_ones {α : Type} (l : List α) : (l.map fun _ => 1).sum = l.length := by induction l with | nil => rfl | cons x l ih => simp [ih]; omega
theorem ints_flat (k : IntKind) (xs : List Int) : xs.flatMap (fun z => [Value.int k z]) = ints k xs := by induction xs with | nil => rfl | cons x xs ih => simp [List.flatMap_cons, ih, ints]
theorem given_le_bulk (l : List (Int × Int × Sl Int × Unit)) (f : (Int × Int × Sl Int × Unit) → Nat) (h : ∀ a ∈ l, a.2.2.1.xs.length + 1 ≤ f a) : given (l.map stpOf) + l.length ≤ (l.map f).sum := by
  induction l with
  | nil => exact Nat.zero_le _
  | cons a l ih =>
    have h1 := h a (by simp)
    have h2 := ih fun b hb => h b (by simp [hb])
    have e : given ((a :: l).map stpOf) = a.2.2.1.xs.length + given (l.map stpOf) := rfl
    rw [e]
    simp only [List.map_cons, List.sum_cons, List.length_cons]; omega
end Go.Proofs.YtldndhekjhlbmaaDoor
