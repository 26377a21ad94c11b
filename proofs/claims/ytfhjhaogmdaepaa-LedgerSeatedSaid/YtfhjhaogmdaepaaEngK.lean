/- The eleventh part of the program logic: piles of blocks, of a number that is not known beforehand. -/
import Derived.Test.YtfhjhaogmdaepaaEngJ
set_option linter.unusedVariables false
set_option linter.unusedSimpArgs false
namespace Go.Proofs.Ytfhjhaogmdaepaa
open Go Go.RowKit
/-- Blocks, each with its row of cells. -/
def pile (bs : List (Nat × List Value × Nat)) : HP := fun h => Sep (bs.map fun x => blk x.1 x.2.1 x.2.2) h
theorem Weak.newPile {rs : List HP} : Weak rs (pile [] :: rs) := fun h s => ⟨Heap.none.join h, ⟨Heap.none, h, rfl, s, Heap.disj_none h, rfl⟩, by rw [Heap.none_join]; exact Heap.Le.refl h⟩
theorem Weak.pileAdd {b T : Nat} {cs : List Value} {bs : List (Nat × List Value × Nat)} {rs : List HP} : Weak (blk b cs T :: pile bs :: rs) (pile (bs ++ [(b, cs, T)]) :: rs) := fun h s => by
  obtain ⟨x, y, hx, ⟨p, q, hp, hq, d1, rfl⟩, d2, rfl⟩ := s
  obtain ⟨d3, d4⟩ := Heap.disj_join.1 d2
  refine ⟨(p.join x).join q, ⟨p.join x, q, ?_, hq, Heap.join_disj.2 ⟨d1, d4⟩, rfl⟩, ?_⟩
  · show Sep ((bs ++ [(b, cs, T)]).map fun x => blk x.1 x.2.1 x.2.2) (p.join x)
    rw [List.map_append]
    exact Sep.append.2 ⟨p, x, hp, Sep.single.2 hx, d3.symm, rfl⟩
  · rw [Heap.join_comm d3.symm, Heap.join_assoc]; exact Heap.Le.refl _
section
variable {C : Cx} {F : Fx} {rs : List HP}
theorem Sn.ofPile {bs : List (Nat × List Value × Nat)} {i b T : Nat} {cs : List Value} (m : Has rs (pile bs) (pile bs) rs) (hi : bs[i]? = some (b, cs, T)) : Sn C F rs (some ⟨b, 0, none⟩) cs := fun w h hs mv j v hv => by
  obtain ⟨a, c, ha, dj, rfl, _⟩ := Sep.take m hs
  have hlt := (List.getElem?_eq_some_iff.1 hi).1
  have hsplit : bs = bs.take i ++ (b, cs, T) :: bs.drop (i + 1) := by
    rw [List.getElem?_eq_getElem hlt, Option.some.injEq] at hi
    rw [← hi, ← List.drop_eq_getElem_cons hlt, List.take_append_drop]
  have ha2 : Sep ((bs.take i).map (fun x => blk x.1 x.2.1 x.2.2) ++ blk b cs T :: (bs.drop (i + 1)).map (fun x => blk x.1 x.2.1 x.2.2)) a := by
    have h2 : Sep (bs.map fun x => blk x.1 x.2.1 x.2.2) a := ha
    rw [hsplit, List.map_append] at h2
    exact h2
  obtain ⟨a1, c1, ⟨fr, hf, rfl⟩, dj1, rfl, _⟩ := Sep.take (s := blk b cs T) Has.at_ ha2
  have hone : ((Heap.one b (.cells cs.toArray T fr)).join c1).join c b = some (.cells cs.toArray T fr) := Heap.le_join_left _ _ b _ (Heap.le_join_left _ _ b _ (Heap.one_same _ _))
  refine ⟨_, rfl, ?_, .inr (.inl (by rw [hone]; simp))⟩
  have := mv.sub b _ hone
  rw [add_zero_off]
  simp [World.cell?, this, hv]
end
end Go.Proofs.Ytfhjhaogmdaepaa
