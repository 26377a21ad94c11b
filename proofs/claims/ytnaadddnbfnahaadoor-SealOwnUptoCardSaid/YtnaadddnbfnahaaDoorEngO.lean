/- The fifteenth part of the program logic: locks (calls that run here and now and write one cell). -/
import Derived.Test.YtnaadddnbfnahaaDoorEngN
import Derived.Laws.LoneSync
import Derived.MapKept
set_option linter.unusedVariables false
set_option linter.unusedSimpArgs false
namespace Go.Proofs.YtnaadddnbfnahaaDoor
open Go Go.RowKit
theorem put_setCell {w : World} {g j T : Nat} {cur : List Value} {fr : Nat × Nat} {v : Value} (hg : w.heap[g]? = some (.cells cur.toArray T fr)) : PutRel w g (.cells (cur.set j v).toArray T fr) (w.setCell ⟨g, j, none⟩ v) := by
  refine ⟨rfl, rfl, rfl, World.size_setCell _ _ _, ?_, fun i hi => heap_setCell_other _ _ _ _ hi⟩
  simp only [World.setCell]
  rw [Array.getElem?_modify, if_pos rfl, hg]
  simp
section
variable {C : Cx} {F : Fx} {l : Env} {rs rs' : List HP} {K : Act → World → Prop} {o : Oper} {Q : Exit → Act → World → Prop} {d : Nat}
/-- A call that writes one cell and answers v, here and now. -/
theorem W_extSet {xs : List Operand} {ts : Array TypeId} {f : FuncId} {vs : List Value} {v u x : Value} {b j T : Nat} {cs : List Value}
    (ho : o.op = .call { callee := .value (.func f), args := xs.toArray, argTypes := ts }) (hd : o.dst = some d) (hn : Nat.blt d F.n = true) (hx : evL l xs = some vs) (hj : cs[j]? = some x)
    (he : ∀ w : World, w.cell? ⟨b, j, none⟩ = some x → w.frozen? ⟨b, j, none⟩ = false → (callFunc f vs.toArray).run C.P w = .ok (.value v) (w.setCell ⟨b, j, none⟩ u))
    (m : Has rs (blk b cs T) (blk b (cs.set j u) T) rs') (k : St C F ((d, v) :: l) rs' K) : OpW C F l rs o K Q := fun a w r n => by
  have m0 : Has rs (blk b cs T) (blk b cs T) rs := by obtain ⟨p, q, e, _⟩ := m; exact ⟨p, q, e, e⟩
  obtain ⟨fr, hg, hf⟩ := n.getBlk m0
  have hlt := (List.getElem?_eq_some_iff.1 hj).1
  have hc : w.cell? ⟨b, j, none⟩ = some x := by simp [World.cell?, hg, hj]
  have hz : w.frozen? ⟨b, j, none⟩ = false := by
    simp only [World.frozen?, hg]
    simp only [Bool.and_eq_false_iff, decide_eq_false_iff_not]
    omega
  unfold Oper.wp
  have : (execOp a.eval o).run C.P w = .ok (.value v) (w.setCell ⟨b, j, none⟩ u) := by
    unfold execOp
    have hg2 : a.eval (.func f) = .func (.func f) #[] #[] := rfl
    simp only [ho, resolve, hg2, Deferred.ofValue, invoke, Sem.run_bind, Sem.run_pure, Result.andThen_ok, List.map_toArray, r.evL hx]
    simpa using he w hc hz
  rw [this]
  show K (a.put o.dst v) _
  rw [hd]
  refine k _ _ (r.put hn v) (n.put m (by simp) fun fr' hg' _ => ?_)
  rw [hg] at hg'
  injection hg' with hg'
  injection hg' with _ _ e
  exact e ▸ put_setCell hg
/-! ### Maps -/
/-- A map of the call's own. -/
def mapH (b : Nat) (es : Array MapEntry) (clock : Nat) : HP := fun h => h = Heap.one b (.map es clock)
/-- What a lookup yields. -/
def lookV (ok : Bool) (res : Option (Nat × Value)) (z : Value) : Value :=
  let v := match res with | some (_, v) => v | none => z
  if ok then .tuple #[v, .bool res.isSome] else v
theorem put_map {w : World} {b clock : Nat} {es : Array MapEntry} {x : Obj} (hb : w.heap[b]? = some (.map es clock)) : PutRel w b x { w with heap := w.heap.setIfInBounds b x } := by
  have hlt := (Array.getElem?_eq_some_iff.1 hb).1
  exact ⟨rfl, rfl, rfl, by simp, by simp [Array.getElem?_setIfInBounds, hlt], fun i hi => by simp [Array.getElem?_setIfInBounds, Ne.symm hi]⟩
theorem Now.allocMap {w : World} (n : Now C F rs w) : Now C F (mapH w.heap.size #[] 0 :: rs) (w.alloc (.map #[] 0)) := by
  have hng := n.ng
  obtain ⟨h, s, m⟩ := n
  obtain ⟨dj, m2⟩ := m.alloc hng (.map #[] 0)
  exact ⟨_, ⟨_, h, rfl, s, dj, rfl⟩, m2⟩
theorem W_makeMap {t : Nat} (ho : o.op = .makeMap t none) (hd : o.dst = some d) (hn : Nat.blt d F.n = true) (k : ∀ b, St C F ((d, .map (some b)) :: l) (mapH b #[] 0 :: rs) K) : OpW C F l rs o K Q := fun a w r n => by
  unfold Oper.wp
  have : (execOp a.eval o).run C.P w = .ok (.value (.map (some w.heap.size))) (w.alloc (.map #[] 0)) := by
    simp [execOp, ho, Instr.makeMap]
  rw [this]
  show K (a.put o.dst _) _
  rw [hd]
  exact k _ _ _ (r.put hn _) n.allocMap
end
end Go.Proofs.YtnaadddnbfnahaaDoor
