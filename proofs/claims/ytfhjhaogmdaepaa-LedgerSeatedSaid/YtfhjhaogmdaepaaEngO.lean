/- The fifteenth part of the program logic: locks (calls that run here and now and write one cell). -/
import Derived.Test.YtfhjhaogmdaepaaEngN
import Derived.Laws.LoneSync
import Derived.MapKept
set_option linter.unusedVariables false
set_option linter.unusedSimpArgs false
namespace Go.Proofs.Ytfhjhaogmdaepaa
open Go Go.RowKit
theorem put_setCell {w : World} {g j T : Nat} {cur : List Value} {fr : Nat × Nat} {v : Value} (hg : w.heap[g]? = some (.cells cur.toArray T fr)) : PutRel w g (.cells (cur.set j v).toArray T fr) (w.setCell ⟨g, j, none⟩ v) := by
  refine ⟨rfl, rfl, rfl, rfl, World.size_setCell _ _ _, ?_, fun i hi => heap_setCell_other _ _ _ _ hi⟩
  simp only [World.setCell]
  rw [Array.getElem?_modify, if_pos rfl, hg]
  simp
section
variable {C : Cx} {F : Fx} {l : Env} {rs rs' : List HP} {K : Act → World → Prop} {o : Oper} {Q : Exit → Act → World → Prop} {d : Nat}
/-- A call that writes one cell and answers v, here and now. -/
theorem W_extSet {xs : List Operand} {ts : Array TypeId} {f : FuncId} {vs : List Value} {v u x : Value} {b j T : Nat} {cs : List Value}
    (ho : o.op = .call { callee := .value (.func f), args := xs.toArray, argTypes := ts }) (hd : o.dst = some d) (hn : Nat.blt d F.n = true) (hx : evL l xs = some vs) (hj : cs[j]? = some x)
    (he : ∀ w : World, w.cell? ⟨b, j, none⟩ = some x → w.frozen? ⟨b, j, none⟩ = false → (callFunc f vs.toArray).run C.P w = .ok (.value v) (w.setCell ⟨b, j, none⟩ u))
    (m : Has rs (blk b cs T) (blk b (cs.set j u) T) rs') (k : St C F ((d, v) :: l) rs' K) : OpW C F l rs o K Q := fun a w r n => by
  have m0 : Has rs (blk b cs T) (blk b cs T) rs := by obtain ⟨p, q, e, _⟩ := m; exact ⟨p, q, e, e⟩
  obtain ⟨fr, hg, hf⟩ := n.getBlk m0
  have hlt := (List.getElem?_eq_some_iff.1 hj).1
  have hc : w.cell? ⟨b, j, none⟩ = some x := by simp [World.cell?, hg, hj]
  have hz : w.frozen? ⟨b, j, none⟩ = false := by
    simp only [World.frozen?, hg]
    simp only [Bool.and_eq_false_iff, decide_eq_false_iff_not]
    omega
  unfold Oper.wp
  have : (execOp a.eval o).run C.P w = .ok (.value v) (w.setCell ⟨b, j, none⟩ u) := by
    unfold execOp
    have hg2 : a.eval (.func f) = .func (.func f) #[] #[] := rfl
    simp only [ho, resolve, hg2, Deferred.ofValue, invoke, Sem.run_bind, Sem.run_pure, Result.andThen_ok, List.map_toArray, r.evL hx]
    simpa using he w hc hz
  rw [this]
  show K (a.put o.dst v) _
  rw [hd]
  refine k _ _ (r.put hn v) (n.put m (by simp) fun fr' hg' _ => ?_)
  rw [hg] at hg'
  injection hg' with hg'
  injection hg' with _ _ e
  exact e ▸ put_setCell hg
/-! ### Maps -/
/-- A map of the call's own. -/
def mapH (b : Nat) (es : Array MapEntry) (clock : Nat) : HP := fun h => h = Heap.one b (.map es clock)
theorem Now.getMap {b clock : Nat} {es : Array MapEntry} {w : World} (n : Now C F rs w) (m : Has rs (mapH b es clock) (mapH b es clock) rs) : w.heap[b]? = some (.map es clock) := by
  obtain ⟨a, rfl, h⟩ := n.has m
  exact (h b _ (Heap.one_same _ _)).1
theorem Now.putMap {w w' : World} {b clock clock' : Nat} {es es' : Array MapEntry} (n : Now C F rs w) (m : Has rs (mapH b es clock) (mapH b es' clock') rs')
    (h : w.heap[b]? = some (.map es clock) → PutRel w b (.map es' clock') w') : Now C F rs' w' := by
  obtain ⟨k, s, mv⟩ := n
  obtain ⟨a, c, rfl, dj, rfl, back⟩ := Sep.take m s
  have hb := mv.sub b _ (Heap.le_join_left _ _ b _ (Heap.one_same _ _))
  have p := h hb
  obtain ⟨dj2, mv2⟩ := mv.put dj p.os p.tape p.output p.drawn p.size p.at_ p.other
  exact ⟨_, back _ rfl dj2, mv2⟩
/-- What a lookup yields. -/
def lookV (ok : Bool) (res : Option (Nat × Value)) (z : Value) : Value :=
  let v := match res with | some (_, v) => v | none => z
  if ok then .tuple #[v, .bool res.isSome] else v
theorem V_lookup {t kt e b clock : Nat} {x ix : Operand} {ok : Bool} {es : Array MapEntry} {key zv : Value} {res : Option (Nat × Value)} (ho : o.op = .lookup t x ix ok) (ht : C.P.underlying t = some (.map kt e)) (hx : ev l x = some (.map (some b))) (hi : ev l ix = some key)
    (m : Has rs (mapH b es clock) (mapH b es clock) rs) (hc : ∀ w : World, (Instr.checkKey es.isEmpty 10000 kt key).run C.P w = .ok () w) (hf : ∀ w : World, (Instr.findKey kt key es.toList).run C.P w = .ok res w) (hz : ∀ w : World, (zeroValue e).run C.P w = .ok zv w) : OpV C F l rs o (lookV ok res zv) := fun a w r n => by
  have hb := n.getMap m
  cases res with
  | none => cases ok <;> simp [execOp, ho, r.ev hx, r.ev hi, Instr.lookup, run_underlying ht, MapKept.run_getObj_map hb, hc, hf, hz, lookV, Result.andThen]
  | some p => obtain ⟨q, v⟩ := p; cases ok <;> simp [execOp, ho, r.ev hx, r.ev hi, Instr.lookup, run_underlying ht, MapKept.run_getObj_map hb, hc, hf, hz, lookV, Result.andThen]
theorem put_map {w : World} {b clock : Nat} {es : Array MapEntry} {x : Obj} (hb : w.heap[b]? = some (.map es clock)) : PutRel w b x { w with heap := w.heap.setIfInBounds b x } := by
  have hlt := (Array.getElem?_eq_some_iff.1 hb).1
  exact ⟨rfl, rfl, rfl, rfl, by simp, by simp [Array.getElem?_setIfInBounds, hlt], fun i hi => by simp [Array.getElem?_setIfInBounds, Ne.symm hi]⟩
/-- A new key is entered. -/
theorem W_mapNew {t kt e b clock : Nat} {x ix y : Operand} {es : Array MapEntry} {key v : Value} (ho : o.op = .mapUpdate t x ix y) (hd : o.dst = none) (ht : C.P.underlying t = some (.map kt e)) (hx : ev l x = some (.map (some b))) (hi : ev l ix = some key) (hy : ev l y = some v)
    (hc : ∀ w : World, (Instr.checkKey false 10000 kt key).run C.P w = .ok () w) (hf : ∀ w : World, (Instr.findKey kt key es.toList).run C.P w = .ok none w)
    (m : Has rs (mapH b es clock) (mapH b (es.push { key, val := v, born := clock }) (clock + 1)) rs') (k : St C F l rs' K) : OpW C F l rs o K Q := fun a w r n => by
  have m0 : Has rs (mapH b es clock) (mapH b es clock) rs := by obtain ⟨p, q, e, _⟩ := m; exact ⟨p, q, e, e⟩
  have hb := n.getMap m0
  unfold Oper.wp
  have : (execOp a.eval o).run C.P w = .ok .skip { w with heap := w.heap.setIfInBounds b (.map (es.push { key, val := v, born := clock }) (clock + 1)) } := by
    simp [execOp, ho, r.ev hx, r.ev hi, r.ev hy, Instr.mapUpdate, run_underlying ht, MapKept.run_getObj_map hb, hc, hf, MapKept.run_setObj_map _ hb, Result.andThen]
  rw [this]
  show K (a.put o.dst undef) _
  rw [hd]
  exact k a _ r (n.putMap m fun hb => put_map hb)
theorem Now.allocMap {w : World} (n : Now C F rs w) : Now C F (mapH w.heap.size #[] 0 :: rs) (w.alloc (.map #[] 0)) := by
  have hng := n.ng
  obtain ⟨h, s, m⟩ := n
  obtain ⟨dj, m2⟩ := m.alloc hng (.map #[] 0)
  exact ⟨_, ⟨_, h, rfl, s, dj, rfl⟩, m2⟩
theorem W_makeMap {t : Nat} (ho : o.op = .makeMap t none) (hd : o.dst = some d) (hn : Nat.blt d F.n = true) (k : ∀ b, St C F ((d, .map (some b)) :: l) (mapH b #[] 0 :: rs) K) : OpW C F l rs o K Q := fun a w r n => by
  unfold Oper.wp
  have : (execOp a.eval o).run C.P w = .ok (.value (.map (some w.heap.size))) (w.alloc (.map #[] 0)) := by
    simp [execOp, ho, Instr.makeMap]
  rw [this]
  show K (a.put o.dst _) _
  rw [hd]
  exact k _ _ _ (r.put hn _) n.allocMap
theorem V_lenMap {t kt e b clock : Nat} {x : Operand} {es : Array MapEntry} (ho : o.op = .call { callee := .builtin .len, args := #[x], argTypes := #[t] }) (ht : C.P.underlying t = some (.map kt e)) (hx : ev l x = some (.map (some b)))
    (m : Has rs (mapH b es clock) (mapH b es clock) rs) : OpV C F l rs o (.int .i64 (es.size : Int)) := fun a w r n => by
  have hb := n.getMap m
  simp [execOp, ho, resolve, invoke, builtin, r.ev hx, Builtin.len_, run_underlying ht, MapKept.run_getObj_map hb, goInt, Result.andThen]
end
end Go.Proofs.Ytfhjhaogmdaepaa
