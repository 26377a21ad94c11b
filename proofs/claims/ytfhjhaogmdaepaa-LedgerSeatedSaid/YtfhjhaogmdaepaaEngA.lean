/- The first part of a small program logic over the model: heaplets, lists of separate resources, and what a call may change. -/
import Derived.Tactics
import Derived.KernelRfl
import Derived.Below
set_option linter.unusedVariables false
set_option linter.unusedSimpArgs false
namespace Go.Proofs.Ytfhjhaogmdaepaa
open Go Go.RowKit

/-! ### Heaplets -/
abbrev Heap := Nat → Option Obj
abbrev HP := Heap → Prop
def Heap.none : Heap := fun _ => .none
def Heap.one (b : Nat) (o : Obj) : Heap := fun i => if i = b then some o else .none
def Heap.join (h k : Heap) : Heap := fun i => match h i with | some o => some o | .none => k i
def Heap.Disj (h k : Heap) : Prop := ∀ i, h i = .none ∨ k i = .none
def Heap.Le (h k : Heap) : Prop := ∀ i o, h i = some o → k i = some o

theorem Heap.Disj.symm {h k : Heap} (d : h.Disj k) : k.Disj h := fun i => (d i).symm
theorem Heap.Le.refl (h : Heap) : h.Le h := fun _ _ x => x
theorem Heap.Le.trans {a b c : Heap} (x : a.Le b) (y : b.Le c) : a.Le c := fun i o h => y i o (x i o h)
theorem Heap.le_join_left (h k : Heap) : h.Le (h.join k) := fun i o x => by simp [Heap.join, x]
theorem Heap.le_join_right {h k : Heap} (d : h.Disj k) : k.Le (h.join k) := fun i o x => by
  rcases d i with e | e
  · simp [Heap.join, e, x]
  · rw [e] at x; cases x
theorem Heap.join_some {h k : Heap} {i : Nat} {o : Obj} (x : (h.join k) i = some o) : h i = some o ∨ k i = some o := by
  unfold Heap.join at x
  cases e : h i with
  | none => rw [e] at x; exact .inr x
  | some u => rw [e] at x; exact .inl x
theorem Heap.join_none {h k : Heap} {i : Nat} : (h.join k) i = .none ↔ h i = .none ∧ k i = .none := by
  unfold Heap.join
  cases h i <;> simp
theorem Heap.join_comm {h k : Heap} (d : h.Disj k) : h.join k = k.join h := by
  funext i
  unfold Heap.join
  rcases d i with e | e <;> simp [e]
  · cases k i <;> rfl
  · cases h i <;> rfl
theorem Heap.join_assoc (a b c : Heap) : (a.join b).join c = a.join (b.join c) := by
  funext i
  unfold Heap.join
  cases a i <;> rfl
theorem Heap.none_join (h : Heap) : Heap.none.join h = h := by funext i; rfl
theorem Heap.join_none' (h : Heap) : h.join Heap.none = h := by
  funext i
  unfold Heap.join
  cases h i <;> rfl
theorem Heap.disj_none (h : Heap) : Heap.none.Disj h := fun _ => .inl rfl
theorem Heap.disj_none' (h : Heap) : h.Disj Heap.none := fun _ => .inr rfl
theorem Heap.disj_join {a b c : Heap} : a.Disj (b.join c) ↔ a.Disj b ∧ a.Disj c := by
  constructor
  · intro h
    refine ⟨fun i => ?_, fun i => ?_⟩ <;> rcases h i with e | e
    · exact .inl e
    · exact .inr (Heap.join_none.1 e).1
    · exact .inl e
    · exact .inr (Heap.join_none.1 e).2
  · rintro ⟨h, k⟩ i
    rcases h i with e | e
    · exact .inl e
    · rcases k i with f | f
      · exact .inl f
      · exact .inr (Heap.join_none.2 ⟨e, f⟩)
theorem Heap.join_disj {a b c : Heap} : (a.join b).Disj c ↔ a.Disj c ∧ b.Disj c := by
  constructor
  · intro h
    obtain ⟨x, y⟩ := Heap.disj_join.1 h.symm
    exact ⟨x.symm, y.symm⟩
  · rintro ⟨h, k⟩
    exact (Heap.disj_join.2 ⟨h.symm, k.symm⟩).symm
theorem Heap.Disj.mono {a b c : Heap} (d : a.Disj b) (l : c.Le b) : a.Disj c := fun i => by
  rcases d i with e | e
  · exact .inl e
  · refine .inr ?_
    cases hc : c i with
    | none => rfl
    | some o => rw [l i o hc] at e; cases e
theorem Heap.one_same (b : Nat) (o : Obj) : Heap.one b o b = some o := by simp [Heap.one]
theorem Heap.one_some {b i : Nat} {o u : Obj} (h : Heap.one b o i = some u) : i = b ∧ u = o := by
  unfold Heap.one at h
  split at h
  · rename_i e; exact ⟨e, (Option.some.inj h).symm⟩
  · cases h
theorem Heap.one_disj {b : Nat} {o : Obj} {h : Heap} (e : h b = .none) : (Heap.one b o).Disj h := fun i => by
  by_cases hi : i = b
  · subst hi; exact .inr e
  · exact .inl (by simp [Heap.one, hi])
theorem Heap.disj_one {b : Nat} {o : Obj} {h : Heap} (d : (Heap.one b o).Disj h) : h b = .none := by
  rcases d b with e | e
  · rw [Heap.one_same] at e; cases e
  · exact e

/-! ### Lists of separate resources -/
def Sep : List HP → HP
  | [] => fun h => h = Heap.none
  | r :: rs => fun h => ∃ a b, r a ∧ Sep rs b ∧ a.Disj b ∧ h = a.join b

/-- 'rs' holds 'r' at some place; with 's' in its stead it is 'rs''. -/
def Has (rs : List HP) (r s : HP) (rs' : List HP) : Prop := ∃ p q, rs = p ++ r :: q ∧ rs' = p ++ s :: q

theorem Has.h0 {r s : HP} {t : List HP} : Has (r :: t) r s (s :: t) := ⟨[], t, rfl, rfl⟩
theorem Has.cons {a r s : HP} {t t' : List HP} (h : Has t r s t') : Has (a :: t) r s (a :: t') := by
  obtain ⟨p, q, rfl, rfl⟩ := h
  exact ⟨a :: p, q, rfl, rfl⟩
theorem Has.h1 {a r s : HP} {t : List HP} : Has (a :: r :: t) r s (a :: s :: t) := Has.h0.cons
theorem Has.h2 {a b r s : HP} {t : List HP} : Has (a :: b :: r :: t) r s (a :: b :: s :: t) := Has.h1.cons
theorem Has.h3 {a b c r s : HP} {t : List HP} : Has (a :: b :: c :: r :: t) r s (a :: b :: c :: s :: t) := Has.h2.cons
theorem Has.h4 {a b c d r s : HP} {t : List HP} : Has (a :: b :: c :: d :: r :: t) r s (a :: b :: c :: d :: s :: t) := Has.h3.cons
theorem Has.h5 {a b c d e r s : HP} {t : List HP} : Has (a :: b :: c :: d :: e :: r :: t) r s (a :: b :: c :: d :: e :: s :: t) := Has.h4.cons
theorem Has.h6 {a b c d e f r s : HP} {t : List HP} : Has (a :: b :: c :: d :: e :: f :: r :: t) r s (a :: b :: c :: d :: e :: f :: s :: t) := Has.h5.cons
theorem Has.h7 {a b c d e f g r s : HP} {t : List HP} : Has (a :: b :: c :: d :: e :: f :: g :: r :: t) r s (a :: b :: c :: d :: e :: f :: g :: s :: t) := Has.h6.cons
theorem Has.h8 {a b c d e f g i r s : HP} {t : List HP} : Has (a :: b :: c :: d :: e :: f :: g :: i :: r :: t) r s (a :: b :: c :: d :: e :: f :: g :: i :: s :: t) := Has.h7.cons
theorem Has.h9 {a b c d e f g i j r s : HP} {t : List HP} : Has (a :: b :: c :: d :: e :: f :: g :: i :: j :: r :: t) r s (a :: b :: c :: d :: e :: f :: g :: i :: j :: s :: t) := Has.h8.cons
theorem Has.at_ {p q : List HP} {r s : HP} : Has (p ++ r :: q) r s (p ++ s :: q) := ⟨p, q, rfl, rfl⟩

theorem Sep.append {p q : List HP} {h : Heap} : Sep (p ++ q) h ↔ ∃ a b, Sep p a ∧ Sep q b ∧ a.Disj b ∧ h = a.join b := by
  induction p generalizing h with
  | nil =>
    constructor
    · intro s
      exact ⟨Heap.none, h, rfl, s, Heap.disj_none h, rfl⟩
    · rintro ⟨a, b, ha, hb, _, rfl⟩
      have : a = Heap.none := ha
      subst this
      exact hb
  | cons r p ih =>
    constructor
    · rintro ⟨a, b, ha, hb, d, rfl⟩
      obtain ⟨c, e, hc, he, d2, rfl⟩ := ih.1 hb
      obtain ⟨d3, d4⟩ := Heap.disj_join.1 d
      exact ⟨a.join c, e, ⟨a, c, ha, hc, d3, rfl⟩, he, Heap.join_disj.2 ⟨d4, d2⟩, (Heap.join_assoc _ _ _).symm⟩
    · rintro ⟨a, b, ⟨c, e, hc, he, d, rfl⟩, hb, d2, rfl⟩
      obtain ⟨d3, d4⟩ := Heap.join_disj.1 d2
      exact ⟨c, e.join b, hc, ih.2 ⟨e, b, he, hb, d4, rfl⟩, Heap.disj_join.2 ⟨d, d3⟩, Heap.join_assoc _ _ _⟩

theorem Sep.single {r : HP} {h : Heap} : Sep [r] h ↔ r h := by
  constructor
  · rintro ⟨a, b, ha, hb, _, rfl⟩
    have : b = Heap.none := hb
    subst this
    rw [Heap.join_none']
    exact ha
  · exact fun x => ⟨h, Heap.none, x, rfl, Heap.disj_none' h, (Heap.join_none' h).symm⟩

/-- One resource is taken out, and may be put back changed. -/
theorem Sep.take {rs rs' : List HP} {r s : HP} (m : Has rs r s rs') {h : Heap} (x : Sep rs h) :
    ∃ a b, r a ∧ a.Disj b ∧ h = a.join b ∧ ∀ a', s a' → a'.Disj b → Sep rs' (a'.join b) := by
  obtain ⟨p, q, rfl, rfl⟩ := m
  obtain ⟨c, d, hc, ⟨a, b, ha, hb, d1, rfl⟩, d2, rfl⟩ := Sep.append.1 x
  obtain ⟨d3, d4⟩ := Heap.disj_join.1 d2
  refine ⟨a, c.join b, ha, Heap.disj_join.2 ⟨d3.symm, d1⟩, ?_, ?_⟩
  · rw [← Heap.join_assoc, ← Heap.join_assoc, Heap.join_comm d3]
  · intro a' ha' da
    obtain ⟨d5, d6⟩ := Heap.disj_join.1 da
    refine Sep.append.2 ⟨c, a'.join b, hc, ⟨a', b, ha', hb, d6, rfl⟩, Heap.disj_join.2 ⟨d5.symm, d4⟩, ?_⟩
    rw [← Heap.join_assoc, ← Heap.join_assoc, Heap.join_comm d5]

/-- What is left when some resources are forgotten. -/
def Weak (rs rs' : List HP) : Prop := ∀ h, Sep rs h → ∃ h', Sep rs' h' ∧ Heap.Le h' h
theorem Weak.refl (rs : List HP) : Weak rs rs := fun h x => ⟨h, x, Heap.Le.refl h⟩
theorem Weak.nil (rs : List HP) : Weak rs [] := fun _ _ => ⟨Heap.none, rfl, fun _ _ h => by cases h⟩
theorem Weak.trans {a b c : List HP} (x : Weak a b) (y : Weak b c) : Weak a c := fun h hs => by
  obtain ⟨h1, s1, l1⟩ := x h hs
  obtain ⟨h2, s2, l2⟩ := y h1 s1
  exact ⟨h2, s2, l2.trans l1⟩
theorem Weak.keep {r : HP} {rs rs' : List HP} (w : Weak rs rs') : Weak (r :: rs) (r :: rs') := by
  rintro h ⟨a, b, ha, hb, d, rfl⟩
  obtain ⟨b', hb', l⟩ := w b hb
  refine ⟨a.join b', ⟨a, b', ha, hb', d.mono l, rfl⟩, fun i o x => ?_⟩
  rcases Heap.join_some x with x | x
  · exact Heap.le_join_left _ _ i o x
  · exact Heap.le_join_right d i o (l i o x)
theorem Weak.drop {r : HP} {rs rs' : List HP} (w : Weak rs rs') : Weak (r :: rs) rs' := by
  rintro h ⟨a, b, ha, hb, d, rfl⟩
  obtain ⟨b', hb', l⟩ := w b hb
  exact ⟨b', hb', l.trans (Heap.le_join_right d)⟩
/-- One resource is told otherwise. -/
theorem Weak.turn {rs rs' : List HP} {r s : HP} (m : Has rs r s rs') (t : ∀ a, r a → s a) : Weak rs rs' := fun h x => by
  obtain ⟨a, b, ha, d, rfl, back⟩ := Sep.take m x
  exact ⟨_, back a (t a ha) d, Heap.Le.refl _⟩
/-- A resource comes to the front. -/
theorem Weak.front {r : HP} {p q : List HP} : Weak (p ++ r :: q) (r :: (p ++ q)) := fun h x => by
  obtain ⟨c, d, hc, ⟨a, b, ha, hb, d1, rfl⟩, d2, rfl⟩ := Sep.append.1 x
  obtain ⟨d3, d4⟩ := Heap.disj_join.1 d2
  refine ⟨_, ⟨a, c.join b, ha, Sep.append.2 ⟨c, b, hc, hb, d4, rfl⟩, Heap.disj_join.2 ⟨d3.symm, d1⟩, rfl⟩, ?_⟩
  rw [← Heap.join_assoc, ← Heap.join_assoc, Heap.join_comm d3]
  exact Heap.Le.refl _
/-- A resource out of any place is kept first. -/
theorem Weak.pick {r : HP} {p q rs' : List HP} (w : Weak (p ++ q) rs') : Weak (p ++ r :: q) (r :: rs') := Weak.front.trans w.keep
theorem Weak.p1 {a r : HP} {t rs' : List HP} (w : Weak (a :: t) rs') : Weak (a :: r :: t) (r :: rs') := Weak.pick (p := [a]) w
theorem Weak.p2 {a b r : HP} {t rs' : List HP} (w : Weak (a :: b :: t) rs') : Weak (a :: b :: r :: t) (r :: rs') := Weak.pick (p := [a, b]) w
theorem Weak.p3 {a b c r : HP} {t rs' : List HP} (w : Weak (a :: b :: c :: t) rs') : Weak (a :: b :: c :: r :: t) (r :: rs') := Weak.pick (p := [a, b, c]) w
theorem Weak.p4 {a b c d r : HP} {t rs' : List HP} (w : Weak (a :: b :: c :: d :: t) rs') : Weak (a :: b :: c :: d :: r :: t) (r :: rs') := Weak.pick (p := [a, b, c, d]) w
theorem Weak.p5 {a b c d e r : HP} {t rs' : List HP} (w : Weak (a :: b :: c :: d :: e :: t) rs') : Weak (a :: b :: c :: d :: e :: r :: t) (r :: rs') := Weak.pick (p := [a, b, c, d, e]) w
theorem Weak.p6 {a b c d e f r : HP} {t rs' : List HP} (w : Weak (a :: b :: c :: d :: e :: f :: t) rs') : Weak (a :: b :: c :: d :: e :: f :: r :: t) (r :: rs') := Weak.pick (p := [a, b, c, d, e, f]) w

/-! ### One block -/
/-- Block b is a row of these cells; none of them is frozen. -/
def blk (b : Nat) (cs : List Value) (T : TypeId) : HP := fun h => ∃ fr : Nat × Nat, (fr.1 = fr.2 ∨ cs.length ≤ fr.1) ∧ h = Heap.one b (.cells cs.toArray T fr)

/-! ### What a call may change -/
structure Cx where
  P : Program
  ng : Nat
  gl : Nat → Obj

/-- The package-level variables are as they were laid. -/
def Cx.ok (C : Cx) (w : World) : Prop := ∀ i, i < C.ng → w.heap[i]? = some (C.gl i)

structure Move (C : Cx) (w0 : World) (h0 : Heap) (w : World) (h : Heap) : Prop where
  os : w.os = w0.os
  tape : w.tape = w0.tape
  output : w.output = w0.output
  drawn : w0.drawn ≤ w.drawn
  size : w0.heap.size ≤ w.heap.size
  keep : ∀ i, i < w0.heap.size → h0 i = .none → w.heap[i]? = w0.heap[i]?
  sub : ∀ i o, h i = some o → w.heap[i]? = some o
  low : ∀ i o, h i = some o → C.ng ≤ i
  dom : ∀ i o, h i = some o → i < w0.heap.size → h0 i ≠ .none
  ok : C.ok w

structure Sub (C : Cx) (w : World) (h : Heap) : Prop where
  sub : ∀ i o, h i = some o → w.heap[i]? = some o
  low : ∀ i o, h i = some o → C.ng ≤ i
  ok : C.ok w

theorem Move.start {C : Cx} {w : World} {h : Heap} (s : Sub C w h) : Move C w h w h :=
  ⟨rfl, rfl, rfl, Nat.le_refl _, Nat.le_refl _, fun _ _ _ => rfl, s.sub, s.low, fun i o hi _ => by rw [hi]; simp, s.ok⟩
theorem Move.subOf {C : Cx} {w0 w : World} {h0 h : Heap} (m : Move C w0 h0 w h) : Sub C w h := ⟨m.sub, m.low, m.ok⟩
theorem Move.le {C : Cx} {w0 w : World} {h0 h k : Heap} (m : Move C w0 h0 w h) (l : k.Le h) : Move C w0 h0 w k :=
  ⟨m.os, m.tape, m.output, m.drawn, m.size, m.keep, fun i o x => m.sub i o (l i o x), fun i o x => m.low i o (l i o x), fun i o x => m.dom i o (l i o x), m.ok⟩
theorem lt_of_some {w : World} {i : Nat} {o : Obj} (h : w.heap[i]? = some o) : i < w.heap.size := (Array.getElem?_eq_some_iff.1 h).1

/-- A call that took the heaplet 'a' out of 'a.join b' and left 'a''. -/
theorem Move.call {C : Cx} {w0 w w' : World} {h0 a b a' : Heap} (m : Move C w0 h0 w (a.join b)) (d : a.Disj b) (n : Move C w a w' a') :
    a'.Disj b ∧ Move C w0 h0 w' (a'.join b) := by
  have hb : ∀ i o, b i = some o → i < w.heap.size ∧ a i = .none := fun i o x => by
    refine ⟨lt_of_some (m.sub i o (Heap.le_join_right d i o x)), ?_⟩
    rcases d i with e | e
    · exact e
    · rw [e] at x; cases x
  have dj : a'.Disj b := fun i => by
    cases e : b i with
    | none => exact .inr rfl
    | some o =>
      obtain ⟨hlt, ha⟩ := hb i o e
      refine .inl ?_
      cases e' : a' i with
      | none => rfl
      | some u => exact absurd ha (n.dom i u e' hlt)
  refine ⟨dj, ⟨n.os.trans m.os, n.tape.trans m.tape, n.output.trans m.output, Nat.le_trans m.drawn n.drawn, Nat.le_trans m.size n.size, ?_, ?_, ?_, ?_, n.ok⟩⟩
  · intro i hi h0i
    have hi' : i < w.heap.size := Nat.lt_of_lt_of_le hi m.size
    have ha : a i = .none := by
      cases e : a i with
      | none => rfl
      | some o => exact absurd h0i (m.dom i o (Heap.le_join_left _ _ i o e) hi)
    exact (n.keep i hi' ha).trans (m.keep i hi h0i)
  · intro i o x
    rcases Heap.join_some x with x | x
    · exact n.sub i o x
    · obtain ⟨hlt, ha⟩ := hb i o x
      exact (n.keep i hlt ha).trans (m.sub i o (Heap.le_join_right d i o x))
  · intro i o x
    rcases Heap.join_some x with x | x
    · exact n.low i o x
    · exact m.low i o (Heap.le_join_right d i o x)
  · intro i o x hi
    rcases Heap.join_some x with x | x
    · have ha : a i ≠ .none := n.dom i o x (Nat.lt_of_lt_of_le hi m.size)
      cases e : a i with
      | none => exact absurd e ha
      | some u => exact m.dom i u (Heap.le_join_left _ _ i u e) hi
    · exact m.dom i o (Heap.le_join_right d i o x) hi

/-- A new block. -/
theorem Move.alloc {C : Cx} {w0 w : World} {h0 h : Heap} (m : Move C w0 h0 w h) (hng : C.ng ≤ w.heap.size) (o : Obj) :
    (Heap.one w.heap.size o).Disj h ∧ Move C w0 h0 (w.alloc o) ((Heap.one w.heap.size o).join h) := by
  have hn : h w.heap.size = .none := by
    cases e : h w.heap.size with
    | none => rfl
    | some u => exact absurd (lt_of_some (m.sub _ _ e)) (Nat.lt_irrefl _)
  have hnew : (w.alloc o).heap[w.heap.size]? = some o := heap_alloc_new w o
  have hold : ∀ i, i < w.heap.size → (w.alloc o).heap[i]? = w.heap[i]? := fun i hi => Below.heap_alloc w o i hi
  refine ⟨Heap.one_disj hn, ⟨m.os, m.tape, m.output, m.drawn, ?_, ?_, ?_, ?_, ?_, ?_⟩⟩
  · have := m.size; simp; omega
  · intro i hi h0i
    exact (hold i (Nat.lt_of_lt_of_le hi m.size)).trans (m.keep i hi h0i)
  · intro i u x
    rcases Heap.join_some x with x | x
    · obtain ⟨rfl, rfl⟩ := Heap.one_some x; exact hnew
    · exact (hold i (lt_of_some (m.sub i u x))).trans (m.sub i u x)
  · intro i u x
    rcases Heap.join_some x with x | x
    · obtain ⟨rfl, rfl⟩ := Heap.one_some x; exact hng
    · exact m.low i u x
  · intro i u x hi
    rcases Heap.join_some x with x | x
    · obtain ⟨rfl, rfl⟩ := Heap.one_some x; exact absurd m.size (by omega)
    · exact m.dom i u x hi
  · intro i hi
    exact (hold i (by omega)).trans (m.ok i hi)

/-- Block b of the heaplet is written; all else stays. -/
theorem Move.put {C : Cx} {w0 w w' : World} {h0 b : Heap} {g : Nat} {o u : Obj} (m : Move C w0 h0 w ((Heap.one g o).join b)) (d : (Heap.one g o).Disj b)
    (hos : w'.os = w.os) (htape : w'.tape = w.tape) (hout : w'.output = w.output) (hdrawn : w'.drawn = w.drawn) (hsize : w'.heap.size = w.heap.size)
    (hg : w'.heap[g]? = some u) (hk : ∀ i, i ≠ g → w'.heap[i]? = w.heap[i]?) : (Heap.one g u).Disj b ∧ Move C w0 h0 w' ((Heap.one g u).join b) := by
  have hb : b g = .none := Heap.disj_one d
  have hgo := Heap.le_join_left (Heap.one g o) b g o (Heap.one_same g o)
  refine ⟨Heap.one_disj hb, ⟨hos.trans m.os, htape.trans m.tape, hout.trans m.output, hdrawn ▸ m.drawn, hsize ▸ m.size, ?_, ?_, ?_, ?_, ?_⟩⟩
  · intro i hi h0i
    have hne : i ≠ g := fun e => by subst e; exact absurd h0i (m.dom i o hgo hi)
    exact (hk i hne).trans (m.keep i hi h0i)
  · intro i v x
    rcases Heap.join_some x with y | y
    · obtain ⟨rfl, rfl⟩ := Heap.one_some y; exact hg
    · have hne : i ≠ g := fun e => by subst e; rw [hb] at y; cases y
      exact (hk i hne).trans (m.sub i v (Heap.le_join_right d i v y))
  · intro i v x
    rcases Heap.join_some x with y | y
    · obtain ⟨rfl, rfl⟩ := Heap.one_some y; exact m.low i o hgo
    · exact m.low i v (Heap.le_join_right d i v y)
  · intro i v x hi
    rcases Heap.join_some x with y | y
    · obtain ⟨rfl, rfl⟩ := Heap.one_some y; exact m.dom i o hgo hi
    · exact m.dom i v (Heap.le_join_right d i v y) hi
  · intro i hi
    have hne : i ≠ g := fun e => by subst e; have := m.low i o hgo; omega
    exact (hk i hne).trans (m.ok i hi)

theorem Move.drew {C : Cx} {w0 w : World} {h0 h : Heap} (m : Move C w0 h0 w h) (n : Nat) (hn : w.drawn ≤ n) : Move C w0 h0 { w with drawn := n } h :=
  ⟨m.os, m.tape, m.output, Nat.le_trans m.drawn hn, m.size, m.keep, m.sub, m.low, m.dom, m.ok⟩

end Go.Proofs.Ytfhjhaogmdaepaa
