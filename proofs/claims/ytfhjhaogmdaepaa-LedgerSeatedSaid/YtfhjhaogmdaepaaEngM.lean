/- The thirteenth part of the program logic: families of resources; slices that grow while what they grew from is still looked at. -/
import Derived.Test.YtfhjhaogmdaepaaEngL
set_option linter.unusedVariables false
set_option linter.unusedSimpArgs false
namespace Go.Proofs.Ytfhjhaogmdaepaa
open Go Go.RowKit
/-- Separate resources, one for each of a list. -/
def fam {α : Type} (f : α → HP) (xs : List α) : HP := fun h => Sep (xs.map f) h
section
variable {α : Type} {f : α → HP} {rs : List HP}
theorem Weak.famNil : Weak rs (fam f [] :: rs) := fun h s => ⟨Heap.none.join h, ⟨Heap.none, h, rfl, s, Heap.disj_none h, rfl⟩, by rw [Heap.none_join]; exact Heap.Le.refl h⟩
theorem Weak.famJoin {xs ys : List α} : Weak (fam f xs :: fam f ys :: rs) (fam f (xs ++ ys) :: rs) := fun h s => by
  obtain ⟨x, y, hx, ⟨p, q, hp, hq, d1, rfl⟩, d2, rfl⟩ := s
  obtain ⟨d3, d4⟩ := Heap.disj_join.1 d2
  refine ⟨(x.join p).join q, ⟨x.join p, q, ?_, hq, Heap.join_disj.2 ⟨d4, d1⟩, rfl⟩, by rw [Heap.join_assoc]; exact Heap.Le.refl _⟩
  show Sep ((xs ++ ys).map f) _
  rw [List.map_append]
  exact Sep.append.2 ⟨x, p, hx, hp, d3, rfl⟩
theorem Weak.famPart {xs ys : List α} : Weak (fam f (xs ++ ys) :: rs) (fam f xs :: fam f ys :: rs) := fun h s => by
  obtain ⟨a, q, ha, hq, d, rfl⟩ := s
  have ha : Sep ((xs ++ ys).map f) a := ha
  rw [List.map_append] at ha
  obtain ⟨x, y, hx, hy, d1, rfl⟩ := Sep.append.1 ha
  obtain ⟨d3, d4⟩ := Heap.join_disj.1 d
  exact ⟨x.join (y.join q), ⟨x, y.join q, hx, ⟨y, q, hy, hq, d4, rfl⟩, Heap.disj_join.2 ⟨d1, d3⟩, rfl⟩, by rw [Heap.join_assoc]; exact Heap.Le.refl _⟩
theorem Weak.famOne {x : α} : Weak (f x :: rs) (fam f [x] :: rs) := fun h ⟨a, b, ha, hb, d, e⟩ => ⟨h, ⟨a, b, Sep.single.2 ha, hb, d, e⟩, Heap.Le.refl _⟩
theorem Weak.famThe {x : α} : Weak (fam f [x] :: rs) (f x :: rs) := fun h ⟨a, b, ha, hb, d, e⟩ => ⟨h, ⟨a, b, Sep.single.1 ha, hb, d, e⟩, Heap.Le.refl _⟩
theorem Weak.swap {a b : HP} : Weak (a :: b :: rs) (b :: a :: rs) := Weak.pick (p := [a]) (Weak.refl _)
theorem Weak.famAdd {x : α} {xs : List α} : Weak (f x :: fam f xs :: rs) (fam f (xs ++ [x]) :: rs) := Weak.swap.trans ((Weak.keep Weak.famOne).trans Weak.famJoin)
theorem list_split {l : List α} {i : Nat} {x : α} (h : l[i]? = some x) : l = l.take i ++ ([x] ++ l.drop (i + 1)) := by
  have hlt := (List.getElem?_eq_some_iff.1 h).1
  rw [List.getElem?_eq_getElem hlt, Option.some.injEq] at h
  rw [List.singleton_append, ← h, ← List.drop_eq_getElem_cons hlt, List.take_append_drop]
/-- One is taken out .. -/
theorem Weak.famOpen {xs : List α} {i : Nat} {x : α} (h : xs[i]? = some x) : Weak (fam f xs :: rs) (f x :: fam f (xs.take i) :: fam f (xs.drop (i + 1)) :: rs) := by
  have h2 : Weak (fam f xs :: rs) (fam f (xs.take i ++ ([x] ++ xs.drop (i + 1))) :: rs) := by rw [← list_split h]; exact Weak.refl _
  exact h2.trans (Weak.famPart.trans ((Weak.keep (Weak.famPart.trans Weak.famThe)).trans Weak.swap))
/-- .. and put back, changed. -/
theorem Weak.famClose {xs : List α} {i : Nat} {y : α} (h : i < xs.length) : Weak (f y :: fam f (xs.take i) :: fam f (xs.drop (i + 1)) :: rs) (fam f (xs.set i y) :: rs) := by
  have e : xs.set i y = xs.take i ++ ([y] ++ xs.drop (i + 1)) := by rw [List.set_eq_take_append_cons_drop, if_pos h]; rfl
  rw [e]
  exact Weak.swap.trans ((Weak.keep (Weak.famOne.trans Weak.famJoin)).trans Weak.famJoin)
end
section
variable {C : Cx} {F : Fx} {l : Env} {rs rs' : List HP} {K : Act → World → Prop} {o : Oper} {Q : Exit → Act → World → Prop} {d : Nat}
theorem Sn.fam {α : Type} {f : α → HP} {xs : List α} {i : Nat} {x : α} {base : Option Addr} {cs : List Value} (m : Has rs (fam f xs) (fam f xs) rs) (hx : xs[i]? = some x) (s : ∀ rs, Has rs (f x) (f x) rs → Sn C F rs base cs) : Sn C F rs base cs := fun w h hs mv j v hv => by
  obtain ⟨a, c, ha, dj, rfl, _⟩ := Sep.take m hs
  have ha : Sep (xs.map f) a := ha
  rw [list_split hx, List.map_append, List.map_append] at ha
  obtain ⟨a1, a2, h1, h2, d1, rfl⟩ := Sep.append.1 ha
  obtain ⟨a3, a4, h3, h4, d2, rfl⟩ := Sep.append.1 h2
  have h3 := Sep.single.1 h3
  obtain ⟨d3, d4⟩ := Heap.join_disj.1 dj
  obtain ⟨d5, d6⟩ := Heap.join_disj.1 d4
  obtain ⟨d7, d8⟩ := Heap.disj_join.1 d1
  have e : (a1.join (a3.join a4)).join c = a3.join ((a1.join a4).join c) := by
    rw [← Heap.join_assoc, ← Heap.join_assoc a3, ← Heap.join_assoc a3, Heap.join_comm d7]
  have hs2 : Sep [f x, fun k => k = (a1.join a4).join c] ((a1.join (a3.join a4)).join c) := ⟨a3, _, h3, Sep.single.2 rfl, Heap.disj_join.2 ⟨Heap.disj_join.2 ⟨d7.symm, d2⟩, d5⟩, e⟩
  exact s _ Has.h0 w _ hs2 mv j v hv
/-- A slice u, of which n0 elements cs0 are still looked at, and v, which has grown from it: in one block, or apart. -/
def pair (T sz : Nat) (u : Value) (n0 : Nat) (cs0 : List Value) (v : Value) (n : Nat) (cs : List Value) : HP := fun h =>
  (ownS T sz v n cs h ∧ ∃ b c, u = .slice b n0 c ∧ v = .slice b n c ∧ cs0.length = n0 * sz ∧ n0 ≤ n ∧ ∃ ds, cs = cs0 ++ ds) ∨ Sep [ownS T sz u n0 cs0, ownS T sz v n cs, fun _ => True] h
theorem Weak.pairOf {T sz n : Nat} {v : Value} {cs : List Value} : Weak (ownS T sz v n cs :: rs) (pair T sz v n cs v n cs :: rs) := fun h ⟨a, b, ha, hb, d, e⟩ => ⟨h, ⟨a, b, .inl ⟨ha, by
  obtain ⟨b, c, e, _⟩ := ha.form
  exact ⟨b, c, e, e, ha.1, Nat.le_refl _, [], by simp⟩⟩, hb, d, e⟩, Heap.Le.refl _⟩
theorem Sn.pairNew {T sz n0 n c : Nat} {u v : Value} {base : Option Addr} {cs0 cs : List Value} (m : Has rs (pair T sz u n0 cs0 v n cs) (pair T sz u n0 cs0 v n cs) rs) (e : v = .slice base n c) : Sn C F rs base cs := fun w h hs mv j x hx => by
  obtain ⟨a, b, ha, dj, rfl, _⟩ := Sep.take m hs
  rcases ha with ⟨ha, _⟩ | ⟨a1, a2, h1, h2, d, rfl⟩
  · exact Sn.own (C := C) (F := F) (rs := [ownS T sz v n cs, fun k => k = b]) Has.h0 e w _ ⟨a, b, ha, Sep.single.2 rfl, dj, rfl⟩ mv j x hx
  · obtain ⟨a3, a4, h3, h4, d5, rfl⟩ := h2
    obtain ⟨d3, d4⟩ := Heap.join_disj.1 dj
    obtain ⟨d6, d7⟩ := Heap.join_disj.1 d4
    obtain ⟨d8, d9⟩ := Heap.disj_join.1 d
    exact Sn.own (C := C) (F := F) (rs := [ownS T sz v n cs, fun k => k = (a1.join a4).join b]) Has.h0 e w _ ⟨a3, _, h3, Sep.single.2 rfl, Heap.disj_join.2 ⟨Heap.disj_join.2 ⟨d8.symm, d5⟩, d6⟩, by rw [← Heap.join_assoc, ← Heap.join_assoc, ← Heap.join_assoc, Heap.join_comm d8]⟩ mv j x hx
theorem Sn.pairOld {T sz n0 n c : Nat} {u v : Value} {base : Option Addr} {cs0 cs : List Value} (m : Has rs (pair T sz u n0 cs0 v n cs) (pair T sz u n0 cs0 v n cs) rs) (e : u = .slice base n0 c) : Sn C F rs base cs0 := fun w h hs mv j x hx => by
  obtain ⟨a, b, ha, dj, rfl, _⟩ := Sep.take m hs
  rcases ha with ⟨ha, b1, c1, e1, e2, _, _, ds, e3⟩ | ⟨a1, a2, h1, h2, d, rfl⟩
  · rw [e] at e1
    simp only [Value.slice.injEq] at e1
    refine Sn.own (C := C) (F := F) (rs := [ownS T sz v n cs, fun k => k = b]) Has.h0 (base := base) (c := c1) (by rw [e2, e1.1]) w _ ⟨a, b, ha, Sep.single.2 rfl, dj, rfl⟩ mv j x ?_
    rw [e3, List.getElem?_append_left (List.getElem?_eq_some_iff.1 hx).1]; exact hx
  · obtain ⟨d3, d4⟩ := Heap.join_disj.1 dj
    exact Sn.own (C := C) (F := F) (rs := [ownS T sz u n0 cs0, fun k => k = a2.join b]) Has.h0 e w _ ⟨a1, _, h1, Sep.single.2 rfl, Heap.disj_join.2 ⟨d, d3⟩, by rw [Heap.join_assoc]⟩ mv j x hx
theorem Sep.takeAll {p q : List HP} {r : HP} {h : Heap} (x : Sep (p ++ r :: q) h) : ∃ a b, r a ∧ a.Disj b ∧ h = a.join b ∧ ∀ (s : HP) a', s a' → a'.Disj b → Sep (p ++ s :: q) (a'.join b) := by
  obtain ⟨c, d, hc, ⟨a, b, ha, hb, d1, rfl⟩, d2, rfl⟩ := Sep.append.1 x
  obtain ⟨d3, d4⟩ := Heap.disj_join.1 d2
  refine ⟨a, c.join b, ha, Heap.disj_join.2 ⟨d3.symm, d1⟩, ?_, ?_⟩
  · rw [← Heap.join_assoc, ← Heap.join_assoc, Heap.join_comm d3]
  · intro s a' ha' da
    obtain ⟨d5, d6⟩ := Heap.disj_join.1 da
    refine Sep.append.2 ⟨c, a'.join b, hc, ⟨a', b, ha', hb, d6, rfl⟩, Heap.disj_join.2 ⟨d5.symm, d4⟩, ?_⟩
    rw [← Heap.join_assoc, ← Heap.join_assoc, Heap.join_comm d5]
/-- append to a slice of which a part of a resource is the owner; what it leaves stays. -/
theorem W_appendG {p q : List HP} {R : HP} {R' : Value → HP} {t t' e sz bytes n m : Nat} {x y : Operand} {v u : Value} {cs news : List Value} (ho : o.op = .call { callee := .builtin .append, args := #[x, y], argTypes := #[t, t'] }) (hd : o.dst = some d) (hn : Nat.blt d F.n = true)
    (ht : slB C.P t e sz bytes = true) (hap : apB C.P e sz = true) (ht' : srcB C.P t' = true) (hx : ev l x = some v) (hy : ev l y = some u) (hsz : Nat.blt 0 sz = true) (src : Src C F (p ++ R :: q) sz u m news)
    (hR : ∀ h, R h → ∃ a b, a.Disj b ∧ h = a.join b ∧ ownS e sz v n cs a ∧ (∀ v' a', a'.Disj b → ownS e sz v' (n + m) (cs ++ news) a' → (∃ b c, v = .slice b n c ∧ v' = .slice b (n + m) c) → R' v' (a'.join b)) ∧ (∀ v' a', a'.Disj (a.join b) → ownS e sz v' (n + m) (cs ++ news) a' → R' v' (a'.join (a.join b))))
    (hb : (n + m) * bytes ≤ 140737488355328) (hm : n + m ≤ maxLen)
    (k : ∀ v', St C F ((d, v') :: l) (p ++ R' v' :: q) K) : OpW C F l (p ++ R :: q) o K Q := by
  intro a w r nw
  obtain ⟨h1, ti, h2, h3, h3b⟩ := slB_spec ht
  have h4 := srcB_spec ht'
  unfold apB at hap
  obtain ⟨z, hz0, hzs⟩ : ∃ z, ((C.P.info? e).bind (·.zero)) = some z ∧ z.cells.size = sz := by
    cases hh : (C.P.info? e).bind (·.zero) with
    | none => rw [hh] at hap; cases hap
    | some z => rw [hh] at hap; exact ⟨z, rfl, by simpa using hap⟩
  have hz : ti.zero = some z := by rw [h2] at hz0; exact hz0
  have hrun : ∀ v' w', (Builtin.append_ #[t, t'] o.type #[v, u]).run C.P w = .ok v' w' → (execOp a.eval o).run C.P w = .ok (.value v') w' := fun v' w' hh => by
    simp [execOp, ho, resolve, invoke, builtin, r.ev hx, r.ev hy, hh]
  have hgo : ∀ v' w', (Builtin.append_ #[t, t'] o.type #[v, u]).run C.P w = .ok v' w' → Now C F (p ++ R' v' :: q) w' → o.wp C.P a w K Q := fun v' w' hh nn => by
    unfold Oper.wp
    rw [hrun v' w' hh]
    show K (a.put o.dst v') w'
    rw [hd]
    exact k v' _ _ (r.put hn v') nn
  have hdrew := nw.drew (w.drawn + 1) (Nat.le_succ _)
  have nw0 := nw
  obtain ⟨hp, hs, mv⟩ := nw
  obtain ⟨hR0, cr, pR, dj, rfl, back⟩ := Sep.takeAll hs
  obtain ⟨av, bv, dab, rfl, own, kin, knew⟩ := hR _ pR
  obtain ⟨d1, d2⟩ := Heap.join_disj.1 dj
  have dj2 : av.Disj (bv.join cr) := Heap.disj_join.2 ⟨dab, d1⟩
  rw [Heap.join_assoc] at mv
  have backIn : ∀ v' a', a'.Disj (bv.join cr) → ownS e sz v' (n + m) (cs ++ news) a' → (∃ b c, v = .slice b n c ∧ v' = .slice b (n + m) c) → Sep (p ++ R' v' :: q) (a'.join (bv.join cr)) := fun v' a' da ow hb' => by
    obtain ⟨d5, d6⟩ := Heap.disj_join.1 da
    rw [← Heap.join_assoc]
    exact back _ _ (kin v' a' d5 ow hb') (Heap.join_disj.2 ⟨d6, d2⟩)
  have backNew : ∀ v' a', a'.Disj (av.join (bv.join cr)) → ownS e sz v' (n + m) (cs ++ news) a' → Sep (p ++ R' v' :: q) (a'.join (av.join (bv.join cr))) := fun v' a' da ow => by
    obtain ⟨d5, d6⟩ := Heap.disj_join.1 da
    obtain ⟨d7, d8⟩ := Heap.disj_join.1 d6
    have e1 : a'.join (av.join (bv.join cr)) = (a'.join (av.join bv)).join cr := by rw [Heap.join_assoc, Heap.join_assoc]
    rw [e1]
    exact back _ _ (knew v' a' (Heap.disj_join.2 ⟨d5, d7⟩) ow) (Heap.join_disj.2 ⟨d8, dj⟩)
  have hlen : (cs ++ news).length = (n + m) * sz := by rw [List.length_append, own.1, src.size, Nat.add_mul]
  have fresh : ∀ cap base, v = .slice base n cap → cap < n + m → (Builtin.firstCells sz n (.slice base n cap)).run C.P w.drew = .ok cs.toArray w.drew → o.wp C.P a w K Q := by
    intro cap base hv hroom hold
    have hr := run_append_new (P := C.P) (w := w) (ty := o.type) h1 h2 h3 hz h4 src.len (src.cells _ hdrew) hold hroom (by rw [h3b]; exact hb) hm
    rw [← hv] at hr
    refine hgo _ _ hr ?_
    have hge := grownCap_ge w (n + m) cap e
    have hcm := grownCap_le_maxLen w (n + m) cap e hm
    have m' := mv.drew (w.drawn + 1) (Nat.le_succ _)
    obtain ⟨djn, m3⟩ := m'.alloc (by have := nw0.ng; exact this) (.cells (cs ++ news ++ (Builtin.zeroCells z.cells (grownCap w (n + m) cap e - (n + m))).toList).toArray e)
    refine ⟨_, backNew (.slice (some ⟨w.heap.size, 0, none⟩) (n + m) (grownCap w (n + m) cap e)) _ djn ⟨hlen, .inr ⟨w.heap.size, _, _, rfl, hge, hcm, ?_, ⟨(0, 0), .inl rfl, rfl⟩⟩⟩, m3⟩
    rw [List.length_append, hlen, length_zeroCells, hzs, ← Nat.add_mul]
    exact Nat.mul_le_mul_right _ (by omega)
  rcases own.2 with ⟨⟨b0, rfl⟩, rfl, rfl⟩ | ⟨b, cap, junk, rfl, hnc, hcm, hcl, fr, hfr, rfl⟩
  · have hcs : cs = [] := List.eq_nil_of_length_eq_zero (by simpa using own.1)
    subst hcs
    by_cases hm0 : m = 0
    · subst hm0
      have hnews : news = [] := List.eq_nil_of_length_eq_zero (by simpa using src.size)
      subst hnews
      refine hgo (.slice b0 0 0) w (run_append_fit (w' := w) h1 h2 h3 h4 src.len (src.cells w nw0) (Nat.le_refl _) (by cases b0 <;> rfl)) ⟨_, backIn (.slice b0 0 0) Heap.none (Heap.disj_none _) ⟨by simp, .inl ⟨⟨b0, rfl⟩, rfl, rfl⟩⟩ ⟨b0, 0, rfl, rfl⟩, mv⟩
    · exact fresh 0 b0 rfl (by omega) (run_firstCells_0 _ _ _ _ _)
  · have hold : (Builtin.firstCells sz n (.slice (some ⟨b, 0, none⟩) n cap)).run C.P w.drew = .ok cs.toArray w.drew := by
      have hblk := mv.sub b _ (Heap.le_join_left _ _ b _ (Heap.one_same _ _))
      refine run_firstCells_some w.drew sz n _ n cap cs own.1 fun j u' hu' => ?_
      rw [add_zero_off, Nat.zero_add, cell_of_row w.drew b j _ _ _ hblk]
      have hj := (List.getElem?_eq_some_iff.1 hu').1
      rw [List.getElem?_toArray, List.getElem?_append_left hj]; exact hu'
    by_cases hroom : n + m ≤ cap
    · have hblk := mv.sub b _ (Heap.le_join_left _ _ b _ (Heap.one_same _ _))
      have hfit : 0 + n * sz + 0 + news.length ≤ (cs ++ junk).length := by
        rw [src.size]
        have := Nat.mul_le_mul_right sz hroom
        rw [Nat.add_mul] at this
        omega
      obtain ⟨w', hst, pr⟩ := run_storeCells_blk (P := C.P) (o := 0 + n * sz) news 0 (cs ++ junk) w hblk hfr hfit src.one
      refine hgo _ w' (run_append_fit (w' := w') h1 h2 h3 h4 src.len (src.cells w nw0) hroom (by show (storeCells ((⟨b, 0, none⟩ : Addr).add (n * sz)) news).run C.P w = _; rw [add_zero_off]; exact hst)) ?_
      obtain ⟨djn, m3⟩ := mv.put dj2 pr.os pr.tape pr.output pr.drawn pr.size pr.at_ pr.other
      have hsp : splice (cs ++ junk) (0 + n * sz + 0) news = (cs ++ news) ++ junk.drop news.length := by
        simp only [Nat.zero_add, Nat.add_zero, splice, ← own.1]
        simp [List.drop_append]
      rw [hsp] at m3 djn
      refine ⟨_, backIn (.slice (some ⟨b, 0, none⟩) (n + m) cap) _ djn ⟨hlen, .inr ⟨b, cap, junk.drop news.length, rfl, hroom, hcm, ?_, ⟨fr, ?_, rfl⟩⟩⟩ ⟨_, cap, rfl, rfl⟩, m3⟩
      · rw [← hsp, length_splice _ _ _ hfit]; exact hcl
      · rw [← hsp, length_splice _ _ _ hfit]; exact hfr
    · exact fresh cap _ rfl (by omega) hold
/-- append to what has grown. -/
theorem W_appendPair {p q : List HP} {t t' e sz bytes n0 n m : Nat} {x y : Operand} {u0 v u : Value} {cs0 cs news : List Value} (ho : o.op = .call { callee := .builtin .append, args := #[x, y], argTypes := #[t, t'] }) (hd : o.dst = some d) (hn : Nat.blt d F.n = true)
    (ht : slB C.P t e sz bytes = true) (hap : apB C.P e sz = true) (ht' : srcB C.P t' = true) (hx : ev l x = some v) (hy : ev l y = some u) (hsz : Nat.blt 0 sz = true) (src : Src C F (p ++ pair e sz u0 n0 cs0 v n cs :: q) sz u m news)
    (hb : (n + m) * bytes ≤ 140737488355328) (hm : n + m ≤ maxLen)
    (k : ∀ v', St C F ((d, v') :: l) (p ++ pair e sz u0 n0 cs0 v' (n + m) (cs ++ news) :: q) K) : OpW C F l (p ++ pair e sz u0 n0 cs0 v n cs :: q) o K Q :=
  W_appendG (R' := fun v' => pair e sz u0 n0 cs0 v' (n + m) (cs ++ news)) ho hd hn ht hap ht' hx hy hsz src (fun h hp => by
    rcases hp with ⟨ha, b1, c1, e1, e2, e6, e7, ds, e3⟩ | ⟨a1, a2, h1, ⟨a3, a4, h3, h4, d5, rfl⟩, d, rfl⟩
    · refine ⟨h, Heap.none, Heap.disj_none' h, (Heap.join_none' h).symm, ha, ?_, ?_⟩
      · rintro v' a' _ ow ⟨b2, c2, e4, e5⟩
        rw [Heap.join_none']
        rw [e2] at e4
        simp only [Value.slice.injEq] at e4
        exact .inl ⟨ow, b1, c1, e1, by rw [e5, e4.1, e4.2.2], e6, Nat.le_trans e7 (Nat.le_add_right _ _), ds ++ news, by rw [e3, List.append_assoc]⟩
      · rintro v' a' da ow
        rw [Heap.join_none'] at da ⊢
        refine .inr ⟨h, a', ?_, ⟨a', Heap.none, ow, Sep.single.2 trivial, Heap.disj_none' _, (Heap.join_none' _).symm⟩, da.symm, Heap.join_comm da⟩
        refine ⟨e6, ?_⟩
        rcases ha.2 with ⟨f1, f2, f3⟩ | ⟨b, cap, junk, f1, f2, f3, f4, f5⟩
        · rw [e2] at f1
          obtain ⟨b9, f1⟩ := f1
          simp only [Value.slice.injEq] at f1
          obtain ⟨rfl, _, rfl⟩ := f1
          obtain rfl : n0 = 0 := by omega
          exact .inl ⟨⟨_, e1⟩, rfl, f3⟩
        · rw [e2] at f1
          simp only [Value.slice.injEq] at f1
          obtain ⟨rfl, _, rfl⟩ := f1
          rw [e3, List.append_assoc] at f4 f5
          exact .inr ⟨b, c1, ds ++ junk, e1, by omega, f3, f4, f5⟩
    · obtain ⟨d8, d9⟩ := Heap.disj_join.1 d
      refine ⟨a3, a1.join a4, Heap.disj_join.2 ⟨d8.symm, d5⟩, by rw [← Heap.join_assoc, ← Heap.join_assoc, Heap.join_comm d8], h3, ?_, ?_⟩
      · rintro v' a' da ow _
        obtain ⟨d3, d4⟩ := Heap.disj_join.1 da
        exact .inr ⟨a1, a'.join a4, h1, ⟨a', a4, ow, Sep.single.2 trivial, d4, rfl⟩, Heap.disj_join.2 ⟨d3.symm, d9⟩, by rw [← Heap.join_assoc, ← Heap.join_assoc, Heap.join_comm d3]⟩
      · rintro v' a' da ow
        obtain ⟨d3, d4⟩ := Heap.disj_join.1 da
        obtain ⟨d10, d11⟩ := Heap.disj_join.1 d4
        refine .inr ⟨a1, a'.join (a3.join a4), h1, ⟨a', a3.join a4, ow, Sep.single.2 trivial, Heap.disj_join.2 ⟨d3, d11⟩, rfl⟩, Heap.disj_join.2 ⟨d10.symm, Heap.disj_join.2 ⟨d8, d9⟩⟩, ?_⟩
        rw [← Heap.join_assoc a3, Heap.join_comm d8.symm, Heap.join_assoc, ← Heap.join_assoc a', Heap.join_comm d10, Heap.join_assoc]) hb hm k
/-- A cell of an owned slice is written. -/
theorem W_storeOwn1 {t b c j T sz n : Nat} {x y : Operand} {v : Value} {cs : List Value} (ho : o.op = .store t x y) (hd : o.dst = none) (hx : ev l x = some (.pointer (some ⟨b, j, none⟩))) (hy : ev l y = some v) (ht : scB C.P t = true) (h1 : v.oneCell' = true)
    (m : Has rs (ownS T sz (.slice (some ⟨b, 0, none⟩) n c) n cs) (ownS T sz (.slice (some ⟨b, 0, none⟩) n c) n (cs.set j v)) rs') (hj : j < cs.length) (k : St C F l rs' K) : OpW C F l rs o K Q := fun a w r nw => by
  obtain ⟨h, s, mv⟩ := nw
  obtain ⟨xx, c', own, dj, rfl, back⟩ := Sep.take m s
  have hl := own.1
  rcases own.2 with ⟨_, hn0, _⟩ | ⟨b', cap, junk, e, hc, hm, hl2, fr, hf, rfl⟩
  · rw [hl, hn0, Nat.zero_mul] at hj; omega
  · simp only [Value.slice.injEq, Option.some.injEq, Addr.mk.injEq] at e
    obtain ⟨⟨rfl, _⟩, _, rfl⟩ := e
    have hblk := mv.sub b _ (Heap.le_join_left _ _ b _ (Heap.one_same _ _))
    obtain ⟨w', hr, p⟩ := run_store_blk (P := C.P) (j := j) hblk hf (by rw [List.length_append]; omega) h1
    have hcells : v.cells = #[v] := by cases v <;> first | rfl | (simp [Value.oneCell'] at h1)
    unfold Oper.wp
    have : (execOp a.eval o).run C.P w = .ok .skip w' := by
      simp [execOp, ho, Instr.storeAt, Instr.sureAddr, r.ev hx, r.ev hy, storeVar, (run_isAgg_sc ht w).2, hcells, storeCells, hr, add_zero_off]
    rw [this]
    show K (a.put o.dst undef) w'
    rw [hd]
    obtain ⟨djn, m3⟩ := mv.put dj p.os p.tape p.output p.drawn p.size p.at_ p.other
    have hsp : (cs ++ junk).set j v = cs.set j v ++ junk := List.set_append_left _ _ hj
    rw [hsp] at m3 djn
    refine k a w' r ⟨_, back _ ⟨by rw [List.length_set]; exact hl, .inr ⟨b, c, junk, rfl, hc, hm, ?_, ⟨fr, ?_, rfl⟩⟩⟩ djn, m3⟩
    · rw [List.length_append, List.length_set, ← List.length_append]; exact hl2
    · rw [List.length_append, List.length_set, ← List.length_append]; exact hf
/-- Cells of an owned slice are written, side by side. -/
theorem W_storeOwn {t b c j T sz n k2 : Nat} {x y : Operand} {vs cs : List Value} (ho : o.op = .store t x y) (hd : o.dst = none) (hx : ev l x = some (.pointer (some ⟨b, j, none⟩))) (hy : ev l y = some (.agg vs.toArray)) (ht : agB C.P t k2 = true) (hlv : vs.length = k2)
    (h1 : ∀ v ∈ vs, v.oneCell' = true) (m : Has rs (ownS T sz (.slice (some ⟨b, 0, none⟩) n c) n cs) (ownS T sz (.slice (some ⟨b, 0, none⟩) n c) n (splice cs j vs)) rs') (hj : j + vs.length ≤ cs.length) (k : St C F l rs' K) : OpW C F l rs o K Q := fun a w r nw => by
  obtain ⟨h, s, mv⟩ := nw
  obtain ⟨xx, c', own, dj, rfl, back⟩ := Sep.take m s
  have hl := own.1
  rcases own.2 with ⟨⟨b0, e⟩, hn0, rfl⟩ | ⟨b', cap, junk, e, hc, hm, hl2, fr, hf, rfl⟩
  · rw [hl, hn0, Nat.zero_mul] at hj
    have hv0 : vs = [] := List.eq_nil_of_length_eq_zero (by omega)
    subst hv0
    have hj0 : j = 0 := by simpa using hj
    subst hj0
    subst hlv
    unfold Oper.wp
    have : (execOp a.eval o).run C.P w = .ok .skip w := by
      simp [execOp, ho, Instr.storeAt, Instr.sureAddr, r.ev hx, r.ev hy, storeVar, (run_isAgg_ag ht w).2, Value.cells, storeCells]
    rw [this]
    show K (a.put o.dst undef) w
    rw [hd]
    exact k a w r ⟨_, back _ ⟨by rw [splice_nil]; exact hl, .inl ⟨⟨b0, e⟩, hn0, rfl⟩⟩ dj, mv⟩
  · simp only [Value.slice.injEq, Option.some.injEq, Addr.mk.injEq] at e
    obtain ⟨⟨rfl, _⟩, _, rfl⟩ := e
    have hblk := mv.sub b _ (Heap.le_join_left _ _ b _ (Heap.one_same _ _))
    obtain ⟨w', hr, p⟩ := run_storeCells_blk (P := C.P) (o := j) vs 0 (cs ++ junk) w hblk hf (by rw [List.length_append]; omega) h1
    subst hlv
    unfold Oper.wp
    have : (execOp a.eval o).run C.P w = .ok .skip w' := by
      simp [execOp, ho, Instr.storeAt, Instr.sureAddr, r.ev hx, r.ev hy, storeVar, (run_isAgg_ag ht w).2, Value.cells, hr]
    rw [this]
    show K (a.put o.dst undef) w'
    rw [hd]
    obtain ⟨djn, m3⟩ := mv.put dj p.os p.tape p.output p.drawn p.size p.at_ p.other
    have hsp : splice (cs ++ junk) (j + 0) vs = splice cs j vs ++ junk := splice_left cs junk vs j hj
    rw [hsp] at m3 djn
    have hls := length_splice cs j vs hj
    refine k a w' r ⟨_, back _ ⟨by rw [hls]; exact hl, .inr ⟨b, c, junk, rfl, hc, hm, ?_, ⟨fr, ?_, rfl⟩⟩⟩ djn, m3⟩
    · rw [List.length_append, hls, ← List.length_append]; exact hl2
    · rw [List.length_append, hls, ← List.length_append]; exact hf
end
theorem Sep.map {α β : Type} {f : α → HP} {g : β → HP} {c : α → β} : ∀ {xs : List α} {h : Heap}, (∀ x ∈ xs, ∀ h, f x h → g (c x) h) → Sep (xs.map f) h → Sep ((xs.map c).map g) h
  | [], _, _, s => s
  | x :: xs, _, hh, ⟨a, b, ha, hb, d, e⟩ => ⟨a, b, hh x (by simp) a ha, Sep.map (xs := xs) (fun y hy => hh y (by simp [hy])) hb, d, e⟩
theorem Weak.famMap {α β : Type} {f : α → HP} {g : β → HP} (c : α → β) {xs : List α} {rs : List HP} (hh : ∀ x ∈ xs, ∀ h, f x h → g (c x) h) : Weak (fam f xs :: rs) (fam g (xs.map c) :: rs) := fun h ⟨a, b, ha, hb, d, e⟩ => ⟨h, ⟨a, b, Sep.map hh ha, hb, d, e⟩, Heap.Le.refl _⟩
theorem pair_of_own {T sz n : Nat} {v : Value} {cs : List Value} {h : Heap} (ha : ownS T sz v n cs h) : pair T sz v n cs v n cs h := .inl ⟨ha, by
  obtain ⟨b, c, e, _⟩ := ha.form
  exact ⟨b, c, e, e, ha.1, Nat.le_refl _, [], by simp⟩⟩
theorem pair_forms {T sz n0 n : Nat} {u v : Value} {cs0 cs : List Value} {h : Heap} (hp : pair T sz u n0 cs0 v n cs h) : (∃ b c, u = .slice b n0 c ∧ n0 ≤ c ∧ (0 < n0 → ∃ b', b = some ⟨b', 0, none⟩)) ∧ (∃ b c, v = .slice b n c ∧ n ≤ c ∧ (0 < n → ∃ b', b = some ⟨b', 0, none⟩)) := by
  have own : ∀ {v : Value} {n : Nat} {cs : List Value} {h : Heap}, ownS T sz v n cs h → ∃ b c, v = .slice b n c ∧ n ≤ c ∧ (0 < n → ∃ b', b = some ⟨b', 0, none⟩) := fun ho => by
    rcases ho.2 with ⟨⟨b0, rfl⟩, rfl, _⟩ | ⟨b, cap, junk, rfl, hc, _⟩
    · exact ⟨b0, 0, rfl, Nat.le_refl _, fun h => absurd h (by omega)⟩
    · exact ⟨_, cap, rfl, hc, fun _ => ⟨b, rfl⟩⟩
  rcases hp with ⟨ha, b1, c1, e1, e2, e6, e7, ds, e3⟩ | ⟨a1, a2, h1, ⟨a3, a4, h3, h4, d5, rfl⟩, d, rfl⟩
  · obtain ⟨b, c, e, hc, hb⟩ := own ha
    refine ⟨⟨b1, c1, e1, ?_, fun hn => ?_⟩, ⟨b, c, e, hc, hb⟩⟩
    · rw [e2] at e; simp only [Value.slice.injEq] at e; omega
    · rw [e2] at e; simp only [Value.slice.injEq] at e
      rw [e.1]; exact hb (by omega)
  · exact ⟨own h1, own h3⟩
section
variable {C : Cx} {F : Fx} {l : Env} {rs rs' : List HP} {K : Act → World → Prop}
theorem St.hasFact {r : HP} {p : Prop} (m : Has rs r r rs) (hp : ∀ h, r h → p) (h : p → St C F l rs K) : St C F l rs K :=
  St.fact (fun w nw => by obtain ⟨a, ha, _⟩ := nw.has m; exact hp a ha) h
theorem St.famFact {α : Type} {f : α → HP} {xs : List α} {i : Nat} {x : α} {p : Prop} (m : Has rs (fam f xs) (fam f xs) rs) (hx : xs[i]? = some x) (hp : ∀ h, f x h → p) (h : p → St C F l rs K) : St C F l rs K :=
  St.hasFact m (fun h hh => by
    have hh : Sep (xs.map f) h := hh
    rw [list_split hx, List.map_append, List.map_append] at hh
    obtain ⟨a1, a2, h1, h2, _, _⟩ := Sep.append.1 hh
    obtain ⟨a3, a4, h3, h4, _, _⟩ := Sep.append.1 h2
    exact hp a3 (Sep.single.1 h3)) h
theorem rd_own1 {T sz n cap b i : Nat} {cs : List Value} {u : Value} (m : Has rs (ownS T sz (.slice (some ⟨b, 0, none⟩) n cap) n cs) (ownS T sz (.slice (some ⟨b, 0, none⟩) n cap) n cs) rs) (hu : cs[i]? = some u) : Rd C F rs ⟨b, 0 + i * 1, none⟩ u := by
  rw [Nat.zero_add, Nat.mul_one]; exact Rd.own m hu
theorem rd_blk1 {b T i : Nat} {cs : List Value} {v : Value} (m : Has rs (blk b cs T) (blk b cs T) rs) (hv : cs[i]? = some v) : Rd C F rs ⟨b, 0 + i * 1, none⟩ v := by
  rw [Nat.zero_add, Nat.mul_one]; exact Rd.blk m hv
end
/-- .. and put back as it was. -/
theorem Weak.famShut {α : Type} {f : α → HP} {rs : List HP} {xs : List α} {i : Nat} {x : α} (h : xs[i]? = some x) : Weak (f x :: fam f (xs.take i) :: fam f (xs.drop (i + 1)) :: rs) (fam f xs :: rs) := by
  have hlt := (List.getElem?_eq_some_iff.1 h).1
  have e : xs.set i x = xs := by
    rw [List.getElem?_eq_getElem hlt, Option.some.injEq] at h
    rw [← h]; exact List.set_getElem_self hlt
  have := Weak.famClose (f := f) (rs := rs) (y := x) hlt
  rwa [e] at this
theorem map_set_same {α β : Type} {l : List α} {i : Nat} {x y : α} {f : α → β} (h : l[i]? = some x) (e : f y = f x) : (l.set i y).map f = l.map f := by
  have hlt := (List.getElem?_eq_some_iff.1 h).1
  rw [List.map_set, e]
  have : (l.map f)[i]'(by simpa using hlt) = f x := by
    rw [List.getElem?_eq_getElem hlt, Option.some.injEq] at h
    simp [h]
  rw [← this]; exact List.set_getElem_self _
end Go.Proofs.Ytfhjhaogmdaepaa
