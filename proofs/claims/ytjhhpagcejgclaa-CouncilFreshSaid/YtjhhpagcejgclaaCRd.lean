/- How members and councils are read. Printed by gen.py. -/
import Derived.Test.YtjhhpagcejgclaaCAl
import Derived.Test.YtjhhpagcejgclaaRead
set_option linter.unusedVariables false
set_option linter.unusedSimpArgs false
set_option maxRecDepth 100000
namespace Go.Proofs.Ytjhhpagcejgclaa
open Go Go.RowKit Go.ChangeShapes Go.WideShapes Go.Proofs
theorem cells_me : Try.prog.cellsOf 48 = 3 := by kernel_rfl
theorem bytes_me : Try.prog.bytesOf 48 = 24 := by kernel_rfl
theorem cells_co : Try.prog.cellsOf 25 = 1 := by kernel_rfl
theorem fs_me : fsB Try.prog 48 [(39, 0, 1), (32, 1, 1), (2, 2, 1)] = true := by kernel_rfl
theorem fs_co : fsB Try.prog 25 [(22, 0, 1)] = true := by kernel_rfl
def memOf (a : Int × Int × Int × Unit) : Mem := ⟨a.1, a.2.1, a.2.2.1⟩
def rd_member := PLift.up (Reads.as (cells' := Mem.cells) (Hd' := fun _ m => m.ok) (bulk' := fun _ => 1) (Small' := fun _ => True) memOf (Reads.struct fs_me cells_me (ReadsF.cons (Reads.int ty_int_39) (ReadsF.cons (Reads.int ty_int_32) (ReadsF.cons (Reads.int ty_int_2) ReadsF.nil)))) (fun _ => rfl) (fun W a h => by
  obtain ⟨⟨⟨h1, _⟩, ⟨h2, _⟩, ⟨h3, _⟩, _⟩, _⟩ := h
  simp only [fits] at h1 h2 h3
  refine ⟨?_, ?_, h3⟩
  · show 0 ≤ a.1 ∧ a.1 ≤ 18446744073709551615; omega
  · show 0 ≤ a.2.1 ∧ a.2.1 ≤ 18446744073709551615; omega) (fun _ => by omega) (fun _ _ => trivial))
def rd_list := PLift.up (Reads.slice ty_sl_22 cells_me bytes_me (fun _ => .inr trivial) rd_member.down)
def rd_council := PLift.up (Reads.as (cells' := fun s : Sl Mem => [s.val]) (Hd' := fun W s => s.xs.length ≤ s.c ∧ Row W s.b (memC s.xs) ∧ ∀ m ∈ s.xs, m.ok) (bulk' := fun _ => 1) (Small' := fun s => s.xs.length * 24 ≤ reachBytes) (fun a : Sl Mem × Unit => a.1) (Reads.struct fs_co cells_co (ReadsF.cons rd_list.down ReadsF.nil)) (fun _ => rfl) (fun W a h => by
  obtain ⟨⟨⟨⟨h1, _, h2, h3⟩, _⟩, _⟩, _⟩ := h
  exact ⟨h1, h2, fun m hm => (h3 m hm).1⟩) (fun _ => by omega) (fun _ h => h.1.1))
theorem sn_left {C : Cx} {F : Fx} {rs : List HP} {T n c : Nat} {base : Option Addr} {l k : List Mem} (m : Has rs (ownS T 3 (.slice base n c) n (memC (l ++ k))) (ownS T 3 (.slice base n c) n (memC (l ++ k))) rs) : Sn C F rs base (memC l) := by
  have h : Sn C F rs base (memC (l ++ k)) := Sn.own m rfl
  rw [memC_append] at h; exact h.left
theorem newM_len {l : List Mem} (h : l.length ≤ 5864062014700) : (newM l).length ≤ 5864062014700 := by unfold newM; split; rw [newL_length]; exact h; exact Nat.zero_le _
theorem newM_ok {l : List Mem} (h : ∀ m ∈ l, m.ok) : ∀ m ∈ newM l, m.ok := by unfold newM; split; exact newL_ok h; intro m hm; cases hm
theorem le_of_small {n : Nat} (h : n * 24 ≤ reachBytes) : n ≤ 5864062014700 := by simp only [reachBytes] at h; omega
end Go.Proofs.Ytjhhpagcejgclaa
