/- The fourth part of the program logic: operations that make or write memory; regions whose order Go leaves open. -/
import Derived.Test.YtfhjhaogmdaepaaEngC
set_option linter.unusedVariables false
set_option linter.unusedSimpArgs false
namespace Go.Proofs.Ytfhjhaogmdaepaa
open Go Go.RowKit

/-! ### One block is written -/
/-- Block g holds u now; nothing else has changed. -/
structure PutRel (w : World) (g : Nat) (u : Obj) (w' : World) : Prop where
  os : w'.os = w.os
  tape : w'.tape = w.tape
  output : w'.output = w.output
  drawn : w'.drawn = w.drawn
  size : w'.heap.size = w.heap.size
  at_ : w'.heap[g]? = some u
  other : ∀ i, i ≠ g → w'.heap[i]? = w.heap[i]?

theorem run_store_blk {P : Program} {w : World} {g j T : Nat} {cur : List Value} {fr : Nat × Nat} {v : Value} (hg : w.heap[g]? = some (.cells cur.toArray T fr)) (hf : fr.1 = fr.2 ∨ cur.length ≤ fr.1) (hj : j < cur.length) (h1 : v.oneCell' = true) :
    ∃ w', (store ⟨g, j, none⟩ v).run P w = .ok () w' ∧ PutRel w g (.cells (cur.set j v).toArray T fr) w' := by
  have hc : w.cell? ⟨g, j, none⟩ = some cur[j] := by simp [World.cell?, hg, hj]
  have hz : w.frozen? ⟨g, j, none⟩ = false := by
    simp only [World.frozen?, hg]
    simp only [Bool.and_eq_false_iff, decide_eq_false_iff_not]
    omega
  refine ⟨w.setCell ⟨g, j, none⟩ v, ?_, rfl, rfl, rfl, rfl, World.size_setCell _ _ _, ?_, fun i hi => heap_setCell_other _ _ _ _ hi⟩
  · rw [run_store P w _ v _ h1, hc]
    simp [hz]
  · simp only [World.setCell]
    rw [Array.getElem?_modify, if_pos rfl, hg]
    simp

def splice (cur : List Value) (o : Nat) (vs : List Value) : List Value := cur.take o ++ vs ++ cur.drop (o + vs.length)
theorem splice_nil (cur : List Value) (o : Nat) : splice cur o [] = cur := by simp [splice]
theorem splice_cons (cur : List Value) (o : Nat) (v : Value) (vs : List Value) (h : o + vs.length + 1 ≤ cur.length) : splice (cur.set o v) (o + 1) vs = splice cur o (v :: vs) := by
  have := list_seg_step cur o v vs (by omega)
  unfold splice
  rw [this]
  simp [Nat.add_assoc, Nat.add_comm 1 vs.length]
theorem length_splice (cur : List Value) (o : Nat) (vs : List Value) (h : o + vs.length ≤ cur.length) : (splice cur o vs).length = cur.length := by simp [splice]; omega
theorem splice_all (cur vs : List Value) (h : vs.length = cur.length) : splice cur 0 vs = vs := by simp [splice, h]

theorem run_storeCells_blk {P : Program} {g o T : Nat} {fr : Nat × Nat} : ∀ (vs : List Value) (i : Nat) (cur : List Value) (w : World), w.heap[g]? = some (.cells cur.toArray T fr) → (fr.1 = fr.2 ∨ cur.length ≤ fr.1) →
    o + i + vs.length ≤ cur.length → (∀ v ∈ vs, v.oneCell' = true) → ∃ w', (storeCells ⟨g, o, none⟩ vs i).run P w = .ok () w' ∧ PutRel w g (.cells (splice cur (o + i) vs).toArray T fr) w'
  | [], i, cur, w, hg, _, _, _ => ⟨w, by simp [storeCells], rfl, rfl, rfl, rfl, rfl, by rw [splice_nil]; exact hg, fun _ _ => rfl⟩
  | v :: vs, i, cur, w, hg, hf, hl, h1 => by
    simp only [List.length_cons] at hl
    obtain ⟨w1, hr, p⟩ := run_store_blk (P := P) (j := o + i) hg hf (by omega) (h1 v (by simp))
    obtain ⟨w2, hr2, p2⟩ := run_storeCells_blk (P := P) (o := o) vs (i + 1) (cur.set (o + i) v) w1 p.at_ (by simpa using hf) (by simp; omega) (fun x hx => h1 x (by simp [hx]))
    refine ⟨w2, ?_, p2.os.trans p.os, p2.tape.trans p.tape, p2.output.trans p.output, p2.drawn.trans p.drawn, p2.size.trans p.size, ?_, fun k hk => (p2.other k hk).trans (p.other k hk)⟩
    · simp only [storeCells, Sem.run_bind, add_zero_off, hr, Result.andThen_ok, hr2]
    · rw [p2.at_, ← Nat.add_assoc, splice_cons cur (o + i) v vs (by omega)]

section
variable {C : Cx} {F : Fx} {l : Env} {rs rs' : List HP} {K : Act → World → Prop} {o : Oper} {Q : Exit → Act → World → Prop} {d : Nat}

theorem Now.ng {w : World} (n : Now C F rs w) : C.ng ≤ w.heap.size := by
  rcases Nat.eq_zero_or_pos C.ng with h | h
  · omega
  · have := lt_of_some (n.ok (C.ng - 1) (by omega)); omega
theorem Now.alloc {w : World} (n : Now C F rs w) (cs : List Value) (T : TypeId) : Now C F (blk w.heap.size cs T :: rs) (w.alloc (.cells cs.toArray T)) := by
  have hng := n.ng
  obtain ⟨h, s, m⟩ := n
  obtain ⟨dj, m2⟩ := m.alloc hng (.cells cs.toArray T)
  exact ⟨_, ⟨_, h, ⟨(0, 0), .inl rfl, rfl⟩, s, dj, rfl⟩, m2⟩
theorem Now.put {w w' : World} {b T : Nat} {cs cs' : List Value} (n : Now C F rs w) (m : Has rs (blk b cs T) (blk b cs' T) rs') (hlen : cs'.length = cs.length)
    (h : ∀ fr, w.heap[b]? = some (.cells cs.toArray T fr) → (fr.1 = fr.2 ∨ cs.length ≤ fr.1) → PutRel w b (.cells cs'.toArray T fr) w') : Now C F rs' w' := by
  obtain ⟨k, s, mv⟩ := n
  obtain ⟨a, c, ⟨fr, hf, rfl⟩, dj, rfl, back⟩ := Sep.take m s
  have hb := mv.sub b _ (Heap.le_join_left _ _ b _ (Heap.one_same _ _))
  have p := h fr hb hf
  obtain ⟨dj2, mv2⟩ := mv.put dj p.os p.tape p.output p.drawn p.size p.at_ p.other
  exact ⟨_, back _ ⟨fr, by rw [hlen]; exact hf, rfl⟩ dj2, mv2⟩

/-- var x T -/
theorem W_alloc {T : Nat} {cs : List Value} (ho : o.op = .alloc T) (hd : o.dst = some d) (hn : Nat.blt d F.n = true) (hz : zeB C.P T cs)
    (k : ∀ b, St C F ((d, .pointer (some ⟨b, 0, none⟩)) :: l) (blk b cs T :: rs) K) : OpW C F l rs o K Q := fun a w r n => by
  unfold zeB at hz
  obtain ⟨z, hz1, hz2⟩ := Option.map_eq_some_iff.1 hz
  obtain ⟨i, hi, hiz⟩ := Option.bind_eq_some_iff.1 hz1
  have hcs : z.cells = cs.toArray := by rw [← hz2]
  unfold Oper.wp
  have : (execOp a.eval o).run C.P w = .ok (.value (.pointer (some ⟨w.heap.size, 0, none⟩))) (w.alloc (.cells cs.toArray T)) := by
    simp [execOp, ho, Instr.alloc, zeroValue, typeInfo, hi, hiz, newVar, newRow, hcs]
  rw [this]
  show K (a.put o.dst _) _
  rw [hd]
  exact k _ _ _ (r.put hn _) (n.alloc cs T)
theorem W_box {T : Nat} {x : Operand} {v : Value} (cs : List Value) (ho : o.op = .box T x) (hd : o.dst = some d) (hn : Nat.blt d F.n = true) (hx : ev l x = some v) (hv : v.cells = cs.toArray)
    (k : ∀ b, St C F ((d, .pointer (some ⟨b, 0, none⟩)) :: l) (blk b cs T :: rs) K) : OpW C F l rs o K Q := fun a w r n => by
  unfold Oper.wp
  have : (execOp a.eval o).run C.P w = .ok (.value (.pointer (some ⟨w.heap.size, 0, none⟩))) (w.alloc (.cells cs.toArray T)) := by
    simp [execOp, ho, Instr.box, newVar, newRow, r.ev hx, hv]
  rw [this]
  show K (a.put o.dst _) _
  rw [hd]
  exact k _ _ _ (r.put hn _) (n.alloc cs T)

theorem W_store {t b j T : Nat} {x y : Operand} {v : Value} {cs : List Value} (ho : o.op = .store t x y) (hd : o.dst = none) (hx : ev l x = some (.pointer (some ⟨b, j, none⟩))) (hy : ev l y = some v) (ht : scB C.P t = true) (h1 : v.oneCell' = true)
    (m : Has rs (blk b cs T) (blk b (cs.set j v) T) rs') (hj : j < cs.length) (k : St C F l rs' K) : OpW C F l rs o K Q := fun a w r n => by
  have m0 : Has rs (blk b cs T) (blk b cs T) rs := by obtain ⟨p, q, e, _⟩ := m; exact ⟨p, q, e, e⟩
  obtain ⟨fr, hg, hf⟩ := n.getBlk m0
  obtain ⟨w', hr, p⟩ := run_store_blk (P := C.P) hg hf hj h1
  have hcells : v.cells = #[v] := by cases v <;> first | rfl | (simp [Value.oneCell'] at h1)
  unfold Oper.wp
  have : (execOp a.eval o).run C.P w = .ok .skip w' := by
    simp [execOp, ho, Instr.storeAt, Instr.sureAddr, r.ev hx, r.ev hy, storeVar, (run_isAgg_sc ht w).2, hcells, storeCells, hr, add_zero_off]
  rw [this]
  show K (a.put o.dst undef) w'
  rw [hd]
  refine k a w' r (n.put m (by simp) fun fr' hg' _ => ?_)
  rw [hg] at hg'
  injection hg' with hg'
  injection hg' with _ _ e
  exact e ▸ p
theorem W_storeAgg {t b j T n : Nat} {x y : Operand} {vs : List Value} {cs : List Value} (ho : o.op = .store t x y) (hd : o.dst = none) (hx : ev l x = some (.pointer (some ⟨b, j, none⟩))) (hy : ev l y = some (.agg vs.toArray)) (ht : agB C.P t n = true) (hl : vs.length = n)
    (h1 : ∀ v ∈ vs, v.oneCell' = true) (m : Has rs (blk b cs T) (blk b (splice cs j vs) T) rs') (hj : j + vs.length ≤ cs.length) (k : St C F l rs' K) : OpW C F l rs o K Q := fun a w r nw => by
  have m0 : Has rs (blk b cs T) (blk b cs T) rs := by obtain ⟨p, q, e, _⟩ := m; exact ⟨p, q, e, e⟩
  obtain ⟨fr, hg, hf⟩ := nw.getBlk m0
  obtain ⟨w', hr, p⟩ := run_storeCells_blk (P := C.P) (o := j) vs 0 cs w hg hf (by simpa using hj) h1
  subst hl
  unfold Oper.wp
  have : (execOp a.eval o).run C.P w = .ok .skip w' := by
    simp [execOp, ho, Instr.storeAt, Instr.sureAddr, r.ev hx, r.ev hy, storeVar, (run_isAgg_ag ht w).2, Value.cells, hr]
  rw [this]
  show K (a.put o.dst undef) w'
  rw [hd]
  refine k a w' r (nw.put m (length_splice _ _ _ hj) fun fr' hg' _ => ?_)
  rw [hg] at hg'
  injection hg' with hg'
  injection hg' with _ _ e
  exact e ▸ p
/-- The whole block is stored over. -/
theorem W_storeAll {t b T n : Nat} {x y : Operand} {vs : List Value} {cs : List Value} (ho : o.op = .store t x y) (hd : o.dst = none) (hx : ev l x = some (.pointer (some ⟨b, 0, none⟩))) (hy : ev l y = some (.agg vs.toArray)) (ht : agB C.P t n = true) (hl : vs.length = n)
    (h1 : ∀ v ∈ vs, v.oneCell' = true) (m : Has rs (blk b cs T) (blk b vs T) rs') (hj : vs.length = cs.length) (k : St C F l rs' K) : OpW C F l rs o K Q :=
  W_storeAgg ho hd hx hy ht hl h1 (by rw [splice_all cs vs hj]; exact m) (by omega) k

/-! ### Literals of slices -/
theorem fill_flat (sz : Nat) : ∀ (vs : List Value) (k : Nat) (done todo : List Value), done.length = k * sz → todo.length = vs.length * sz → (∀ v ∈ vs, v.cells.size = sz) →
    Instr.fill (fun i => some (i * sz, sz)) (done ++ todo).toArray ((List.range' k vs.length).zip vs) = some (done ++ vs.flatMap (·.cells.toList)).toArray
  | [], k, done, todo, _, ht, _ => by
    have : todo = [] := List.eq_nil_of_length_eq_zero (by simpa using ht)
    subst this
    simp [Instr.fill]
  | v :: vs, k, done, todo, hd, ht, hv => by
    have hsz := hv v (by simp)
    simp only [List.length_cons, Nat.add_mul, Nat.one_mul] at ht
    have hfold : ∀ (us : List Value) (j : Nat) (a b c : List Value), a.length = k * sz + j → b.length = us.length → 
        (us.zipIdx j).foldl (fun (cs : Array Value) (x : Value × Nat) => cs.setIfInBounds (k * sz + x.2) x.1) (a ++ b ++ c).toArray = (a ++ us ++ c).toArray := by
      intro us
      induction us with
      | nil => intro j a b c _ hb; have : b = [] := List.eq_nil_of_length_eq_zero hb; subst this; simp
      | cons u us ih =>
        intro j a b c ha hb
        cases b with
        | nil => simp at hb
        | cons b0 b =>
          simp only [List.zipIdx_cons, List.foldl_cons]
          have e : ((a ++ b0 :: b ++ c).toArray).setIfInBounds (k * sz + j) u = ((a ++ [u]) ++ b ++ c).toArray := by
            rw [← ha]
            simp [List.set_append]
          rw [e, ih (j + 1) (a ++ [u]) b c (by simp; omega) (by simpa using hb)]
          simp
    rw [List.length_cons, List.range'_succ]
    simp only [List.zip_cons_cons, Instr.fill]
    have h1 : ¬ (v.cells.size ≠ sz) := by simpa using hsz
    have h2 : ¬ (k * sz + v.cells.size > (done ++ todo).toArray.size) := by simp [hd, hsz]; omega
    simp only [h1, h2, decide_false, Bool.or_self, Bool.false_eq_true, if_false]
    have e2 : v.cells.zipIdx.foldl (fun (cs : Array Value) (x : Value × Nat) => cs.setIfInBounds (k * sz + x.2) x.1) (done ++ todo).toArray = ((done ++ v.cells.toList) ++ todo.drop sz).toArray := by
      have := hfold v.cells.toList 0 done (todo.take sz) (todo.drop sz) (by simpa using hd) (by simp; omega)
      rw [List.append_assoc, List.take_append_drop] at this
      rw [← this, ← Array.foldl_toList, Array.toList_zipIdx]
    have e3 : (v.cells.zipIdx.foldl (fun (cs : Array Value) (x : Value × Nat) => match x with | (c, j) => cs.setIfInBounds (k * sz + j) c) (done ++ todo).toArray) = ((done ++ v.cells.toList) ++ todo.drop sz).toArray := e2
    rw [e3, fill_flat sz vs (k + 1) (done ++ v.cells.toList) (todo.drop sz) (by simp [hd, hsz, Nat.add_mul]) (by simp; omega) (fun x hx => hv x (by simp [hx]))]
    simp

theorem fill_flatR (sz : Nat) (rest : List Value) : ∀ (vs : List Value) (k : Nat) (done todo : List Value), done.length = k * sz → todo.length = vs.length * sz → (∀ v ∈ vs, v.cells.size = sz) →
    Instr.fill (fun i => some (i * sz, sz)) (done ++ todo ++ rest).toArray ((List.range' k vs.length).zip vs) = some (done ++ vs.flatMap (·.cells.toList) ++ rest).toArray
  | [], k, done, todo, _, ht, _ => by
    have : todo = [] := List.eq_nil_of_length_eq_zero (by simpa using ht)
    subst this
    simp [Instr.fill]
  | v :: vs, k, done, todo, hd, ht, hv => by
    have hsz := hv v (by simp)
    simp only [List.length_cons, Nat.add_mul, Nat.one_mul] at ht
    have hfold : ∀ (us : List Value) (j : Nat) (a b c : List Value), a.length = k * sz + j → b.length = us.length → 
        (us.zipIdx j).foldl (fun (cs : Array Value) (x : Value × Nat) => cs.setIfInBounds (k * sz + x.2) x.1) (a ++ b ++ c).toArray = (a ++ us ++ c).toArray := by
      intro us
      induction us with
      | nil => intro j a b c _ hb; have : b = [] := List.eq_nil_of_length_eq_zero hb; subst this; simp
      | cons u us ih =>
        intro j a b c ha hb
        cases b with
        | nil => simp at hb
        | cons b0 b =>
          simp only [List.zipIdx_cons, List.foldl_cons]
          have e : ((a ++ b0 :: b ++ c).toArray).setIfInBounds (k * sz + j) u = ((a ++ [u]) ++ b ++ c).toArray := by
            rw [← ha]
            simp [List.set_append]
          rw [e, ih (j + 1) (a ++ [u]) b c (by simp; omega) (by simpa using hb)]
          simp
    rw [List.length_cons, List.range'_succ]
    simp only [List.zip_cons_cons, Instr.fill]
    have h1 : ¬ (v.cells.size ≠ sz) := by simpa using hsz
    have h2 : ¬ (k * sz + v.cells.size > (done ++ todo ++ rest).toArray.size) := by simp [hd, hsz]; omega
    simp only [h1, h2, decide_false, Bool.or_self, Bool.false_eq_true, if_false]
    have e2 : v.cells.zipIdx.foldl (fun (cs : Array Value) (x : Value × Nat) => cs.setIfInBounds (k * sz + x.2) x.1) (done ++ todo ++ rest).toArray = ((done ++ v.cells.toList) ++ todo.drop sz ++ rest).toArray := by
      have := hfold v.cells.toList 0 done (todo.take sz) (todo.drop sz ++ rest) (by simpa using hd) (by simp; omega)
      rw [show done ++ todo.take sz ++ (todo.drop sz ++ rest) = done ++ todo ++ rest by rw [List.append_assoc done, ← List.append_assoc (todo.take sz), List.take_append_drop, List.append_assoc], ← List.append_assoc] at this
      rw [← this, ← Array.foldl_toList, Array.toList_zipIdx]
    have e3 : (v.cells.zipIdx.foldl (fun (cs : Array Value) (x : Value × Nat) => match x with | (c, j) => cs.setIfInBounds (k * sz + j) c) (done ++ todo ++ rest).toArray) = ((done ++ v.cells.toList) ++ todo.drop sz ++ rest).toArray := e2
    rw [e3, fill_flatR sz rest vs (k + 1) (done ++ v.cells.toList) (todo.drop sz) (by simp [hd, hsz, Nat.add_mul]) (by simp; omega) (fun x hx => hv x (by simp [hx]))]
    simp

/-- []T literal: the parts stand for places 0, 1, .. -/
theorem W_lit {t e sz bytes len : Nat} {parts : Array (Nat × Operand)} {vs : List Value} {z : Value} (cs : List Value) (ho : o.op = .buildSlice t len parts) (hd : o.dst = some d) (hn : Nat.blt d F.n = true) (ht : slB C.P t e sz bytes = true)
    (hz : ((C.P.info? e).bind (·.zero)).map (·.cells.size) = some sz) (hx : evL l (parts.toList.map (·.2)) = some vs) (hi : parts.toList.map (·.1) = List.range' 0 vs.length) (hlen : vs.length = len) (hsmall : len * sz ≤ 16777216) (h0 : ¬ len * sz = 0)
    (hv : ∀ v ∈ vs, v.cells.size = sz) (hcs : vs.flatMap (·.cells.toList) = cs)
    (k : ∀ b, St C F ((d, .slice (some ⟨b, 0, none⟩) len len) :: l) (blk b cs e :: rs) K) : OpW C F l rs o K Q := fun a w r n => by
  obtain ⟨h1, ti, h2, h3, _⟩ := slB_spec ht
  obtain ⟨z, hz1, hz2⟩ := Option.map_eq_some_iff.1 hz
  obtain ⟨i, hi1, hiz⟩ := Option.bind_eq_some_iff.1 hz1
  rw [h2] at hi1
  obtain rfl := Option.some.inj hi1
  have hparts : (parts.map fun (p : Nat × Operand) => (p.1, a.eval p.2)).toList = (List.range' 0 vs.length).zip vs := by
    rw [Array.toList_map, ← hi, ← r.evL hx]
    simp [List.zip_map', Function.comp_def]
  unfold Oper.wp
  have : (execOp a.eval o).run C.P w = .ok (.value (.slice (some ⟨w.heap.size, 0, none⟩) len len)) (w.alloc (.cells cs.toArray e)) := by
    have hns : ¬ (16777216 < len * sz) := by omega
    have hf := fill_flat sz vs 0 [] ((List.range (len * sz)).map fun j => z.cells[j % z.cells.size]!) (by simp) (by simp [hlen]) hv
    simp only [List.nil_append, hcs] at hf
    have hparts' : (Array.map (fun x : Nat × Operand => match x with | (i, x) => (i, a.eval x)) parts).toList = (List.range' 0 vs.length).zip vs := hparts
    simp only [execOp, ho, Instr.buildSlice, Sem.run_bind, run_underlying h1, Result.andThen_ok, sizeOf, typeInfo, run_program, h2, Sem.run_pure, h3]
    rw [hparts']
    have hf' : Instr.fill (fun i => some (i * sz, sz)) (Array.map (fun j => z.cells[j % z.cells.size]!) (Array.range (len * sz))) ((List.range' 0 vs.length).zip vs) = some cs.toArray := by
      rw [← hf]; congr 1; apply Array.ext'; simp [Array.toList_map, Array.toList_range]
    simp [hns, h0, zeroValue, typeInfo, h2, hiz, hf', newRow]
  rw [this]
  show K (a.put o.dst _) _
  rw [hd]
  exact k _ _ _ (r.put hn _) (n.alloc cs e)

/-! ### Slices that the call itself makes and lets grow -/
/-- v is nil and cs empty, or v begins at the head of a block of its own, whose first cells are cs. -/
def ownS (T sz : Nat) (v : Value) (n : Nat) (cs : List Value) : HP := fun h => cs.length = n * sz ∧
  (((∃ b0, v = .slice b0 0 0) ∧ n = 0 ∧ h = Heap.none) ∨ ∃ b cap junk, v = .slice (some ⟨b, 0, none⟩) n cap ∧ n ≤ cap ∧ cap ≤ maxLen ∧ cap * sz ≤ (cs ++ junk).length ∧ blk b (cs ++ junk) T h)

theorem ownS.form {T sz n : Nat} {v : Value} {cs : List Value} {h : Heap} (x : ownS T sz v n cs h) : ∃ b cap, v = .slice b n cap ∧ n ≤ cap := by
  rcases x.2 with ⟨⟨b0, rfl⟩, rfl, _⟩ | ⟨b, cap, junk, rfl, hc, _⟩
  · exact ⟨b0, 0, rfl, Nat.le_refl _⟩
  · exact ⟨_, cap, rfl, hc⟩
/-- A slice without room. -/
theorem Weak.newNil0 {T sz : Nat} {b0 : Option Addr} {rs : List HP} : Weak rs (ownS T sz (.slice b0 0 0) 0 [] :: rs) := fun h s =>
  ⟨Heap.none.join h, ⟨Heap.none, h, ⟨by simp, .inl ⟨⟨b0, rfl⟩, rfl, rfl⟩⟩, s, Heap.disj_none h, rfl⟩, by rw [Heap.none_join]; exact Heap.Le.refl h⟩
theorem Weak.newNil {T sz : Nat} {rs : List HP} : Weak rs (ownS T sz (.slice none 0 0) 0 [] :: rs) := Weak.newNil0
/-- A literal or a made slice, from now on let grow. -/
theorem ownS.of_blk {T sz b n : Nat} {cs : List Value} (hl : cs.length = n * sz) (hn : n ≤ maxLen) : ∀ h, blk b cs T h → ownS T sz (.slice (some ⟨b, 0, none⟩) n n) n cs h := fun h x =>
  ⟨hl, .inr ⟨b, n, [], rfl, Nat.le_refl _, hn, by simpa using Nat.le_of_eq hl.symm, by simpa using x⟩⟩

/-- What is appended: how many elements, and their cells. -/
structure Src (C : Cx) (F : Fx) (rs : List HP) (sz : Nat) (x : Value) (m : Nat) (news : List Value) : Prop where
  len : Builtin.lenOf x = pure m
  cells : ∀ w, Now C F rs w → (Builtin.firstCells sz m x).run C.P w = .ok news.toArray w
  size : news.length = m * sz
  one : ∀ v ∈ news, v.oneCell' = true
theorem Src.slice {sz m c : Nat} {ad : Addr} {news : List Value} (h : Rds C F rs ad news) (hl : news.length = m * sz) (h1 : ∀ v ∈ news, v.oneCell' = true) : Src C F rs sz (.slice (some ad) m c) m news :=
  ⟨rfl, fun w n => run_firstCells_some w sz m ad m c news hl (h w n), hl, h1⟩
theorem Src.nil {sz c : Nat} : Src C F rs sz (.slice none 0 c) 0 [] := ⟨rfl, fun w n => by simp [Builtin.firstCells], by simp, fun _ h => by cases h⟩

def apB (P : Program) (e sz : Nat) : Bool := ((P.info? e).bind (·.zero)).any fun z => z.cells.size == sz
def srcB (P : Program) (t : Nat) : Bool := match P.underlying t with | some (.slice _) | some .string => true | _ => false

theorem length_zeroCells (z : Array Value) (n : Nat) : (Builtin.zeroCells z n).toList.length = n * z.size := by simp [Builtin.zeroCells]
theorem askRoom_any (P : Program) (w : World) (n : Nat) : (askRoom n).run P w = .ok () w := run_askRoom P w n

section
variable {P : Program} {w w' : World}
theorem srcB_spec {t' : Nat} (h : srcB P t' = true) : (∃ e, P.underlying t' = some (.slice e)) ∨ P.underlying t' = some .string := by
  unfold srcB at h
  split at h
  · rename_i e he; exact .inl ⟨e, he⟩
  · rename_i he; exact .inr he
  · cases h
/-- There is room. -/
theorem run_append_fit {t t' e sz n m cap ty : Nat} {base : Option Addr} {u : Value} {news : List Value} {ti : TypeInfo} (h1 : P.underlying t = some (.slice e)) (h2 : P.info? e = some ti) (h3 : ti.size = sz) (h4 : (∃ e, P.underlying t' = some (.slice e)) ∨ P.underlying t' = some .string)
    (hlen : Builtin.lenOf u = pure m) (hc : (Builtin.firstCells sz m u).run P w = .ok news.toArray w) (hroom : n + m ≤ cap)
    (hst : match base with | none => w' = w | some a => (storeCells (a.add (n * sz)) news).run P w = .ok () w') :
    (Builtin.append_ #[t, t'] ty #[.slice base n cap, u]).run P w = .ok (.slice base (n + m) cap) w' := by
  cases base with
  | none =>
    simp only at hst
    subst hst
    rcases h4 with ⟨e', h4⟩ | h4 <;> simp [Builtin.append_, run_underlying h1, run_underlying h4, sizeOf, typeInfo, h2, h3, hlen, hroom, hc]
  | some a =>
    simp only at hst
    rcases h4 with ⟨e', h4⟩ | h4 <;> simp [Builtin.append_, run_underlying h1, run_underlying h4, sizeOf, typeInfo, h2, h3, hlen, hroom, hc, hst]
/-- There is none: a new block. -/
theorem run_append_new {t t' e sz n m cap ty : Nat} {base : Option Addr} {u : Value} {olds news : List Value} {ti : TypeInfo} {z : Value} (h1 : P.underlying t = some (.slice e)) (h2 : P.info? e = some ti) (h3 : ti.size = sz) (hz : ti.zero = some z) (h4 : (∃ e, P.underlying t' = some (.slice e)) ∨ P.underlying t' = some .string)
    (hlen : Builtin.lenOf u = pure m) (hc : (Builtin.firstCells sz m u).run P w.drew = .ok news.toArray w.drew) (ho : (Builtin.firstCells sz n (.slice base n cap)).run P w.drew = .ok olds.toArray w.drew) (hroom : cap < n + m) (hb : (n + m) * ti.bytes ≤ 140737488355328) (hm : n + m ≤ maxLen) :
    (Builtin.append_ #[t, t'] ty #[.slice base n cap, u]).run P w = .ok (.slice (some ⟨w.heap.size, 0, none⟩) (n + m) (grownCap w (n + m) cap e))
      (w.drew.alloc (.cells (olds ++ news ++ (Builtin.zeroCells z.cells (grownCap w (n + m) cap e - (n + m))).toList).toArray e)) := by
  have hn : ¬ (n + m ≤ cap) := by omega
  have h63 : ¬ (9223372036854775807 < ((n : Int) + (m : Int))) := by simp only [maxLen] at hm; omega
  have h48 : ¬ (281474976710656 < Builtin.nextslicecap (n + m) cap * ti.bytes) := by
    have := growslice_fits hroom hb
    omega
  have hq : (Question.appendCap (n + m) cap e).forced = false := rfl
  rcases h4 with ⟨e', h4⟩ | h4 <;>
    (simp [Builtin.append_, run_underlying h1, run_underlying h4, sizeOf, typeInfo, zeroValue, h2, h3, hz, hlen, hn, h63, h48, hq, ho, hc, newRow, grownCap]; congr 2; apply Array.ext'; simp)
end

theorem run_firstCells_0 {P : Program} (sz : Nat) (b0 : Option Addr) (l c : Nat) (w : World) : (Builtin.firstCells sz 0 (.slice b0 l c)).run P w = .ok (([] : List Value).toArray) w := by
  cases b0 with
  | none => exact run_firstCells_none _ _ _ _ _
  | some a => exact run_firstCells_some w sz 0 a l c [] (by simp) (fun _ _ h => by cases h)
/-- append to a slice of the call's own. -/
theorem W_append {p q : List HP} {t t' e sz bytes n m : Nat} {x y : Operand} {v u : Value} {cs news : List Value} (ho : o.op = .call { callee := .builtin .append, args := #[x, y], argTypes := #[t, t'] }) (hd : o.dst = some d) (hn : Nat.blt d F.n = true)
    (ht : slB C.P t e sz bytes = true) (hap : apB C.P e sz = true) (ht' : srcB C.P t' = true) (hx : ev l x = some v) (hy : ev l y = some u) (hsz : Nat.blt 0 sz = true) (src : Src C F (p ++ ownS e sz v n cs :: q) sz u m news)
    (hb : (n + m) * bytes ≤ 140737488355328) (hm : n + m ≤ maxLen)
    (k : ∀ v', St C F ((d, v') :: l) (p ++ ownS e sz v' (n + m) (cs ++ news) :: q) K) : OpW C F l (p ++ ownS e sz v n cs :: q) o K Q := by
  intro a w r nw
  obtain ⟨h1, ti, h2, h3, h3b⟩ := slB_spec ht
  have h4 := srcB_spec ht'
  unfold apB at hap
  obtain ⟨z, hz0, hzs⟩ : ∃ z, ((C.P.info? e).bind (·.zero)) = some z ∧ z.cells.size = sz := by
    cases hh : (C.P.info? e).bind (·.zero) with
    | none => rw [hh] at hap; cases hap
    | some z => rw [hh] at hap; exact ⟨z, rfl, by simpa using hap⟩
  have hz : ti.zero = some z := by rw [h2] at hz0; exact hz0
  have hrun : ∀ v' w', (Builtin.append_ #[t, t'] o.type #[v, u]).run C.P w = .ok v' w' → (execOp a.eval o).run C.P w = .ok (.value v') w' := fun v' w' hh => by
    simp [execOp, ho, resolve, invoke, builtin, r.ev hx, r.ev hy, hh]
  have hgo : ∀ v' w', (Builtin.append_ #[t, t'] o.type #[v, u]).run C.P w = .ok v' w' → Now C F (p ++ ownS e sz v' (n + m) (cs ++ news) :: q) w' → o.wp C.P a w K Q := fun v' w' hh nn => by
    unfold Oper.wp
    rw [hrun v' w' hh]
    show K (a.put o.dst v') w'
    rw [hd]
    exact k v' _ _ (r.put hn v') nn
  have hdrew := nw.drew (w.drawn + 1) (Nat.le_succ _)
  have nw0 := nw
  obtain ⟨hp, hs, mv⟩ := nw
  obtain ⟨c0, d0, hc0, ⟨ha, hq0, own, hqq, d1, rfl⟩, d2, rfl⟩ := Sep.append.1 hs
  obtain ⟨d3, d4⟩ := Heap.disj_join.1 d2
  have dj : ha.Disj (c0.join hq0) := Heap.disj_join.2 ⟨d3.symm, d1⟩
  have ejoin : c0.join (ha.join hq0) = ha.join (c0.join hq0) := by rw [← Heap.join_assoc, ← Heap.join_assoc, Heap.join_comm d3]
  rw [ejoin] at mv
  have back : ∀ (s : HP) a', s a' → a'.Disj (c0.join hq0) → Sep (p ++ s :: q) (a'.join (c0.join hq0)) := fun s a' ha' da => by
    obtain ⟨d5, d6⟩ := Heap.disj_join.1 da
    refine Sep.append.2 ⟨c0, a'.join hq0, hc0, ⟨a', hq0, ha', hqq, d6, rfl⟩, Heap.disj_join.2 ⟨d5.symm, d4⟩, ?_⟩
    rw [← Heap.join_assoc, ← Heap.join_assoc, Heap.join_comm d5]
  have hlen : (cs ++ news).length = (n + m) * sz := by rw [List.length_append, own.1, src.size, Nat.add_mul]
  -- a new block
  have fresh : ∀ cap base, v = .slice base n cap → cap < n + m → (∀ w, Now C F (p ++ ownS e sz v n cs :: q) w → (Builtin.firstCells sz n (.slice base n cap)).run C.P w = .ok cs.toArray w) → o.wp C.P a w K Q := by
    intro cap base hv hroom hold
    have hr := run_append_new (P := C.P) (w := w) (ty := o.type) h1 h2 h3 hz h4 src.len (src.cells _ hdrew) (hold _ hdrew) hroom (by rw [h3b]; exact hb) hm
    rw [← hv] at hr
    refine hgo _ _ hr ?_
    have hge := grownCap_ge w (n + m) cap e
    have hcm := grownCap_le_maxLen w (n + m) cap e hm
    obtain ⟨h', s', m'⟩ := hdrew
    obtain ⟨a0, b0, own0, dj0, rfl, back⟩ := Sep.take (s := ownS e sz (.slice (some ⟨w.heap.size, 0, none⟩) (n + m) (grownCap w (n + m) cap e)) (n + m) (cs ++ news)) Has.at_ s'
    have m2 := m'.le (Heap.le_join_right dj0)
    obtain ⟨djn, m3⟩ := m2.alloc (by have := nw0.ng; exact this) (.cells (cs ++ news ++ (Builtin.zeroCells z.cells (grownCap w (n + m) cap e - (n + m))).toList).toArray e)
    refine ⟨_, back _ ⟨hlen, .inr ⟨w.heap.size, _, _, rfl, hge, hcm, ?_, ⟨(0, 0), .inl rfl, rfl⟩⟩⟩ djn, m3⟩
    rw [List.length_append, hlen, length_zeroCells, hzs, ← Nat.add_mul]
    exact Nat.mul_le_mul_right _ (by omega)
  rcases own.2 with ⟨⟨b0, rfl⟩, rfl, rfl⟩ | ⟨b, cap, junk, rfl, hnc, hcm, hcl, fr, hfr, rfl⟩
  · have hcs : cs = [] := List.eq_nil_of_length_eq_zero (by simpa using own.1)
    subst hcs
    by_cases hm0 : m = 0
    · subst hm0
      have hnews : news = [] := List.eq_nil_of_length_eq_zero (by simpa using src.size)
      subst hnews
      refine hgo (.slice b0 0 0) w (run_append_fit (w' := w) h1 h2 h3 h4 src.len (src.cells w nw0) (Nat.le_refl _) (by cases b0 <;> rfl)) nw0
    · exact fresh 0 b0 rfl (by omega) fun w' _ => run_firstCells_0 _ _ _ _ _
  · have hold : ∀ w', Now C F (p ++ ownS e sz (.slice (some ⟨b, 0, none⟩) n cap) n cs :: q) w' → (Builtin.firstCells sz n (.slice (some ⟨b, 0, none⟩) n cap)).run C.P w' = .ok cs.toArray w' := by
      intro w' ⟨h2', s2', m2'⟩
      obtain ⟨a1, b1, own1, dj1, rfl, _⟩ := Sep.take (s := ownS e sz (.slice (some ⟨b, 0, none⟩) n cap) n cs) Has.at_ s2'
      rcases own1.2 with ⟨hc1, _⟩ | ⟨b2, cap2, junk2, hv2, _, _, _, fr2, _, rfl⟩
      · obtain ⟨b1, hc1⟩ := hc1
        obtain ⟨_, rfl, _⟩ : _ ∧ n = 0 ∧ _ := by injection hc1 with e1 e2 e3; exact ⟨e1, e2, e3⟩
        have hcs : cs = [] := List.eq_nil_of_length_eq_zero (by simpa using own.1)
        subst hcs
        exact run_firstCells_0 _ _ _ _ _
      · simp only [Value.slice.injEq, Option.some.injEq, Addr.mk.injEq] at hv2
        obtain ⟨⟨rfl, _⟩, _, rfl⟩ := hv2
        have hblk := m2'.sub b _ (Heap.le_join_left _ _ b _ (Heap.one_same _ _))
        refine run_firstCells_some w' sz n _ n cap cs own.1 fun j u' hu' => ?_
        rw [add_zero_off, Nat.zero_add, cell_of_row w' b j _ _ _ hblk]
        have hj := (List.getElem?_eq_some_iff.1 hu').1
        rw [List.getElem?_toArray, List.getElem?_append_left hj]; exact hu'
    by_cases hroom : n + m ≤ cap
    · have hblk := mv.sub b _ (Heap.le_join_left _ _ b _ (Heap.one_same _ _))
      have hfit : 0 + n * sz + 0 + news.length ≤ (cs ++ junk).length := by
        rw [src.size]
        have := Nat.mul_le_mul_right sz hroom
        rw [Nat.add_mul] at this
        omega
      obtain ⟨w', hst, pr⟩ := run_storeCells_blk (P := C.P) (o := 0 + n * sz) news 0 (cs ++ junk) w hblk hfr hfit src.one
      refine hgo _ w' (run_append_fit (w' := w') h1 h2 h3 h4 src.len (src.cells w nw0) hroom (by show (storeCells ((⟨b, 0, none⟩ : Addr).add (n * sz)) news).run C.P w = _; rw [add_zero_off]; exact hst)) ?_
      obtain ⟨djn, m3⟩ := mv.put dj pr.os pr.tape pr.output pr.drawn pr.size pr.at_ pr.other
      have hsp : splice (cs ++ junk) (0 + n * sz + 0) news = (cs ++ news) ++ junk.drop news.length := by
        simp only [Nat.zero_add, Nat.add_zero, splice, ← own.1]
        simp [List.drop_append]
      rw [hsp] at m3 djn
      refine ⟨_, back _ _ ⟨hlen, .inr ⟨b, cap, junk.drop news.length, rfl, hroom, hcm, ?_, ⟨fr, ?_, rfl⟩⟩⟩ djn, m3⟩
      · rw [← hsp, length_splice _ _ _ hfit]; exact hcl
      · rw [← hsp, length_splice _ _ _ hfit]; exact hfr
    · exact fresh cap _ rfl (by omega) hold
end
end Go.Proofs.Ytfhjhaogmdaepaa
