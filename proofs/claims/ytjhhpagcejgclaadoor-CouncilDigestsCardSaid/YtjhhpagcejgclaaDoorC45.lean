/- Walks: the reference's small ones; roomy, same, kept. Printed by gen.py. -/
import Derived.Test.YtjhhpagcejgclaaDoorC3
import Derived.Test.YtjhhpagcejgclaaDoorTurn
set_option linter.unusedVariables false
set_option linter.unusedSimpArgs false
set_option maxRecDepth 100000
namespace Go.Proofs.YtjhhpagcejgclaaDoor
open Go Go.RowKit Go.Proofs
theorem once_chosen (T : Int) (l : List Mem) (h : 0 < l.length) : ∃ m, (onceL T l)[chosen T l]? = some m ∧ m.a = choA T l := by
  have hlt := chosen_lt (T := T) h
  refine ⟨payM T (mAt (bumpL T l) (chosen T l)), ?_, rfl⟩
  unfold onceL
  rw [List.getElem?_set_self (by rw [bumpL_length]; exact hlt)]
theorem soundT_zero {l : List Mem} (hok : ∀ m ∈ l, m.ok) : soundT l = 0 ↔ soundE l ≠ 0 := by
  constructor
  · intro h he
    unfold soundT at h; rw [if_pos he] at h
    have hf := (sound_fine he).1
    have hm0 : l[0]? = some (l[0]'hf.pos) := List.getElem?_eq_getElem hf.pos
    have h1 := (hf.at_ hm0).2.1
    have h2 := sumP_take (l := l) (fun m hm => (hok m hm).2.1.1) 1
    have h3 : sumP (l.take 1) = sumP (l.take 0) + _ := sumP_snoc hm0
    have h4 := (hok _ (List.getElem_mem hf.pos)).2.1.1
    have h5 : sumP (l.take 0) = 0 := rfl
    omega
  · intro h; unfold soundT; rw [if_neg h]
theorem share_of {k : Int} {l : List Mem} (he : soundE l = 0) : shareV k l = k * soundT l / 3 + 1 := by unfold shareV soundT; rw [if_pos he, if_pos he]
theorem se_me : seB Tryd.prog 37 3 = true := by kernel_rfl
theorem mem_neq (m n : Mem) [Decidable (m = n)] : decide (m ≠ n) = false ↔ m.cells = n.cells := by
  rw [decide_eq_false_iff_not, Classical.not_not]; exact ⟨fun h => by rw [h], Mem.cells_inj⟩
end Go.Proofs.YtjhhpagcejgclaaDoor
