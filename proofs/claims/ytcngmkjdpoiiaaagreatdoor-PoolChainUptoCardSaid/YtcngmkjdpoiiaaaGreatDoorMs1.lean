/- Texts that poolChainUpto_holds leans on, part 1: each says at its head what it holds; no condition beyond its theorems' own. -/
import Derived.Tactics
import Derived.KernelRfl
import Derived.Below
import Derived.OrdersHeld
import Derived.Laws.Append
import Derived.Laws.CopyRow
import Derived.Laws.Slices
import Derived.Laws.Pointers
import Derived.Laws.StructEq
import Derived.Laws.AppendOwn
import Derived.Laws.MakeOwn
import Derived.Laws.BytesArg
import Derived.Deep.Quiet
import Derived.ChangeKeysEq
import Derived.Test.YtcngmkjdpoiiaaaGreatDoorProg
set_option linter.unusedVariables false
set_option linter.unusedSimpArgs false
set_option linter.unusedSectionVars false
/- The first part of a small program logic over the model: heaplets, lists of separate resources, and what a call may change. -/
namespace Go.Proofs.YtcngmkjdpoiiaaaGreatDoor
open Go Go.RowKit

/-! ### Heaplets -/
abbrev Heap := Nat → Option Obj
abbrev HP := Heap → Prop
def Heap.none : Heap := fun _ => .none
def Heap.one (b : Nat) (o : Obj) : Heap := fun i => if i = b then some o else .none
def Heap.join (h k : Heap) : Heap := fun i => match h i with | some o => some o | .none => k i
def Heap.Disj (h k : Heap) : Prop := ∀ i, h i = .none ∨ k i = .none
def Heap.Le (h k : Heap) : Prop := ∀ i o, h i = some o → k i = some o

theorem Heap.Disj.symm {h k : Heap} (d : h.Disj k) : k.Disj h := fun i => (d i).symm
theorem Heap.Le.refl (h : Heap) : h.Le h := fun _ _ x => x
theorem Heap.Le.trans {a b c : Heap} (x : a.Le b) (y : b.Le c) : a.Le c := fun i o h => y i o (x i o h)
theorem Heap.le_join_left (h k : Heap) : h.Le (h.join k) := fun i o x => by simp [Heap.join, x]
theorem Heap.le_join_right {h k : Heap} (d : h.Disj k) : k.Le (h.join k) := fun i o x => by
 rcases d i with e | e
 ·simp [Heap.join, e, x]
 ·rw [e] at x; cases x
theorem Heap.join_some {h k : Heap} {i : Nat} {o : Obj} (x : (h.join k) i = some o) : h i = some o ∨ k i = some o := by
 unfold Heap.join at x
 cases e : h i with
 | none => rw [e] at x; exact .inr x
 | some u => rw [e] at x; exact .inl x
theorem Heap.join_none {h k : Heap} {i : Nat} : (h.join k) i = .none ↔ h i = .none ∧ k i = .none := by
 unfold Heap.join
 cases h i <;> simp
theorem Heap.join_comm {h k : Heap} (d : h.Disj k) : h.join k = k.join h := by
 funext i
 unfold Heap.join
 rcases d i with e | e <;> simp [e]
 ·cases k i <;> rfl
 ·cases h i <;> rfl
theorem Heap.join_assoc (a b c : Heap) : (a.join b).join c = a.join (b.join c) := by
 funext i
 unfold Heap.join
 cases a i <;> rfl
theorem Heap.none_join (h : Heap) : Heap.none.join h = h := by funext i; rfl
theorem Heap.join_none' (h : Heap) : h.join Heap.none = h := by
 funext i
 unfold Heap.join
 cases h i <;> rfl
theorem Heap.disj_none (h : Heap) : Heap.none.Disj h := fun _ => .inl rfl
theorem Heap.disj_none' (h : Heap) : h.Disj Heap.none := fun _ => .inr rfl
theorem Heap.disj_join {a b c : Heap} : a.Disj (b.join c) ↔ a.Disj b ∧ a.Disj c := by
 constructor
 ·intro h
  refine ⟨fun i => ?_, fun i => ?_⟩ <;> rcases h i with e | e
  ·exact .inl e
  ·exact .inr (Heap.join_none.1 e).1
  ·exact .inl e
  ·exact .inr (Heap.join_none.1 e).2
 ·rintro ⟨h, k⟩ i
  rcases h i with e | e
  ·exact .inl e
  ·rcases k i with f | f
   ·exact .inl f
   ·exact .inr (Heap.join_none.2 ⟨e, f⟩)
theorem Heap.join_disj {a b c : Heap} : (a.join b).Disj c ↔ a.Disj c ∧ b.Disj c := by
 constructor
 ·intro h
  obtain ⟨x, y⟩ := Heap.disj_join.1 h.symm
  exact ⟨x.symm, y.symm⟩
 ·rintro ⟨h, k⟩
  exact (Heap.disj_join.2 ⟨h.symm, k.symm⟩).symm
theorem Heap.Disj.mono {a b c : Heap} (d : a.Disj b) (l : c.Le b) : a.Disj c := fun i => by
 rcases d i with e | e
 ·exact .inl e
 ·refine .inr ?_
  cases hc : c i with
  | none => rfl
  | some o => rw [l i o hc] at e; cases e
theorem Heap.one_same (b : Nat) (o : Obj) : Heap.one b o b = some o := by simp [Heap.one]
theorem Heap.one_some {b i : Nat} {o u : Obj} (h : Heap.one b o i = some u) : i = b ∧ u = o := by
 unfold Heap.one at h
 split at h
 ·rename_i e; exact ⟨e, (Option.some.inj h).symm⟩
 ·cases h
theorem Heap.one_disj {b : Nat} {o : Obj} {h : Heap} (e : h b = .none) : (Heap.one b o).Disj h := fun i => by
 by_cases hi : i = b
 ·subst hi; exact .inr e
 ·exact .inl (by simp [Heap.one, hi])
theorem Heap.disj_one {b : Nat} {o : Obj} {h : Heap} (d : (Heap.one b o).Disj h) : h b = .none := by
 rcases d b with e | e
 ·rw [Heap.one_same] at e; cases e
 ·exact e

/-! ### Lists of separate resources -/
def Sep : List HP → HP
 | [] => fun h => h = Heap.none
 | r :: rs => fun h => ∃ a b, r a ∧ Sep rs b ∧ a.Disj b ∧ h = a.join b

/-- 'rs' holds 'r' at some place; with 's' in its stead it is 'rs''. -/
def Has (rs : List HP) (r s : HP) (rs' : List HP) : Prop := ∃ p q, rs = p ++ r :: q ∧ rs' = p ++ s :: q

theorem Has.h0 {r s : HP} {t : List HP} : Has (r :: t) r s (s :: t) := ⟨[], t, rfl, rfl⟩
theorem Has.cons {a r s : HP} {t t' : List HP} (h : Has t r s t') : Has (a :: t) r s (a :: t') := by
 obtain ⟨p, q, rfl, rfl⟩ := h
 exact ⟨a :: p, q, rfl, rfl⟩
theorem Has.h1 {a r s : HP} {t : List HP} : Has (a :: r :: t) r s (a :: s :: t) := Has.h0.cons
theorem Has.h2 {a b r s : HP} {t : List HP} : Has (a :: b :: r :: t) r s (a :: b :: s :: t) := Has.h1.cons
theorem Has.h3 {a b c r s : HP} {t : List HP} : Has (a :: b :: c :: r :: t) r s (a :: b :: c :: s :: t) := Has.h2.cons
theorem Has.h4 {a b c d r s : HP} {t : List HP} : Has (a :: b :: c :: d :: r :: t) r s (a :: b :: c :: d :: s :: t) := Has.h3.cons
theorem Has.h5 {a b c d e r s : HP} {t : List HP} : Has (a :: b :: c :: d :: e :: r :: t) r s (a :: b :: c :: d :: e :: s :: t) := Has.h4.cons
theorem Has.h6 {a b c d e f r s : HP} {t : List HP} : Has (a :: b :: c :: d :: e :: f :: r :: t) r s (a :: b :: c :: d :: e :: f :: s :: t) := Has.h5.cons
theorem Has.h7 {a b c d e f g r s : HP} {t : List HP} : Has (a :: b :: c :: d :: e :: f :: g :: r :: t) r s (a :: b :: c :: d :: e :: f :: g :: s :: t) := Has.h6.cons
theorem Has.h8 {a b c d e f g i r s : HP} {t : List HP} : Has (a :: b :: c :: d :: e :: f :: g :: i :: r :: t) r s (a :: b :: c :: d :: e :: f :: g :: i :: s :: t) := Has.h7.cons
theorem Has.h9 {a b c d e f g i j r s : HP} {t : List HP} : Has (a :: b :: c :: d :: e :: f :: g :: i :: j :: r :: t) r s (a :: b :: c :: d :: e :: f :: g :: i :: j :: s :: t) := Has.h8.cons
theorem Has.at_ {p q : List HP} {r s : HP} : Has (p ++ r :: q) r s (p ++ s :: q) := ⟨p, q, rfl, rfl⟩

theorem Sep.append {p q : List HP} {h : Heap} : Sep (p ++ q) h ↔ ∃ a b, Sep p a ∧ Sep q b ∧ a.Disj b ∧ h = a.join b := by
 induction p generalizing h with
 | nil =>
  constructor
  ·intro s
   exact ⟨Heap.none, h, rfl, s, Heap.disj_none h, rfl⟩
  ·rintro ⟨a, b, ha, hb, _, rfl⟩
   have : a = Heap.none := ha
   subst this
   exact hb
 | cons r p ih =>
  constructor
  ·rintro ⟨a, b, ha, hb, d, rfl⟩
   obtain ⟨c, e, hc, he, d2, rfl⟩ := ih.1 hb
   obtain ⟨d3, d4⟩ := Heap.disj_join.1 d
   exact ⟨a.join c, e, ⟨a, c, ha, hc, d3, rfl⟩, he, Heap.join_disj.2 ⟨d4, d2⟩, (Heap.join_assoc _ _ _).symm⟩
  ·rintro ⟨a, b, ⟨c, e, hc, he, d, rfl⟩, hb, d2, rfl⟩
   obtain ⟨d3, d4⟩ := Heap.join_disj.1 d2
   exact ⟨c, e.join b, hc, ih.2 ⟨e, b, he, hb, d4, rfl⟩, Heap.disj_join.2 ⟨d, d3⟩, Heap.join_assoc _ _ _⟩

theorem Sep.single {r : HP} {h : Heap} : Sep [r] h ↔ r h := by
 constructor
 ·rintro ⟨a, b, ha, hb, _, rfl⟩
  have : b = Heap.none := hb
  subst this
  rw [Heap.join_none']
  exact ha
 ·exact fun x => ⟨h, Heap.none, x, rfl, Heap.disj_none' h, (Heap.join_none' h).symm⟩

/-- One resource is taken out, and may be put back changed. -/
theorem Sep.take {rs rs' : List HP} {r s : HP} (m : Has rs r s rs') {h : Heap} (x : Sep rs h) :
  ∃ a b, r a ∧ a.Disj b ∧ h = a.join b ∧ ∀ a', s a' → a'.Disj b → Sep rs' (a'.join b) := by
 obtain ⟨p, q, rfl, rfl⟩ := m
 obtain ⟨c, d, hc, ⟨a, b, ha, hb, d1, rfl⟩, d2, rfl⟩ := Sep.append.1 x
 obtain ⟨d3, d4⟩ := Heap.disj_join.1 d2
 refine ⟨a, c.join b, ha, Heap.disj_join.2 ⟨d3.symm, d1⟩, ?_, ?_⟩
 ·rw [← Heap.join_assoc, ← Heap.join_assoc, Heap.join_comm d3]
 ·intro a' ha' da
  obtain ⟨d5, d6⟩ := Heap.disj_join.1 da
  refine Sep.append.2 ⟨c, a'.join b, hc, ⟨a', b, ha', hb, d6, rfl⟩, Heap.disj_join.2 ⟨d5.symm, d4⟩, ?_⟩
  rw [← Heap.join_assoc, ← Heap.join_assoc, Heap.join_comm d5]

/-- What is left when some resources are forgotten. -/
def Weak (rs rs' : List HP) : Prop := ∀ h, Sep rs h → ∃ h', Sep rs' h' ∧ Heap.Le h' h
theorem Weak.refl (rs : List HP) : Weak rs rs := fun h x => ⟨h, x, Heap.Le.refl h⟩
theorem Weak.nil (rs : List HP) : Weak rs [] := fun _ _ => ⟨Heap.none, rfl, fun _ _ h => by cases h⟩
theorem Weak.trans {a b c : List HP} (x : Weak a b) (y : Weak b c) : Weak a c := fun h hs => by
 obtain ⟨h1, s1, l1⟩ := x h hs
 obtain ⟨h2, s2, l2⟩ := y h1 s1
 exact ⟨h2, s2, l2.trans l1⟩
theorem Weak.keep {r : HP} {rs rs' : List HP} (w : Weak rs rs') : Weak (r :: rs) (r :: rs') := by
 rintro h ⟨a, b, ha, hb, d, rfl⟩
 obtain ⟨b', hb', l⟩ := w b hb
 refine ⟨a.join b', ⟨a, b', ha, hb', d.mono l, rfl⟩, fun i o x => ?_⟩
 rcases Heap.join_some x with x | x
 ·exact Heap.le_join_left _ _ i o x
 ·exact Heap.le_join_right d i o (l i o x)
theorem Weak.drop {r : HP} {rs rs' : List HP} (w : Weak rs rs') : Weak (r :: rs) rs' := by
 rintro h ⟨a, b, ha, hb, d, rfl⟩
 obtain ⟨b', hb', l⟩ := w b hb
 exact ⟨b', hb', l.trans (Heap.le_join_right d)⟩
/-- One resource is told otherwise. -/
theorem Weak.turn {rs rs' : List HP} {r s : HP} (m : Has rs r s rs') (t : ∀ a, r a → s a) : Weak rs rs' := fun h x => by
 obtain ⟨a, b, ha, d, rfl, back⟩ := Sep.take m x
 exact ⟨_, back a (t a ha) d, Heap.Le.refl _⟩
/-- A resource comes to the front. -/
theorem Weak.front {r : HP} {p q : List HP} : Weak (p ++ r :: q) (r :: (p ++ q)) := fun h x => by
 obtain ⟨c, d, hc, ⟨a, b, ha, hb, d1, rfl⟩, d2, rfl⟩ := Sep.append.1 x
 obtain ⟨d3, d4⟩ := Heap.disj_join.1 d2
 refine ⟨_, ⟨a, c.join b, ha, Sep.append.2 ⟨c, b, hc, hb, d4, rfl⟩, Heap.disj_join.2 ⟨d3.symm, d1⟩, rfl⟩, ?_⟩
 rw [← Heap.join_assoc, ← Heap.join_assoc, Heap.join_comm d3]
 exact Heap.Le.refl _
/-- A resource out of any place is kept first. -/
theorem Weak.pick {r : HP} {p q rs' : List HP} (w : Weak (p ++ q) rs') : Weak (p ++ r :: q) (r :: rs') := Weak.front.trans w.keep
theorem Weak.p1 {a r : HP} {t rs' : List HP} (w : Weak (a :: t) rs') : Weak (a :: r :: t) (r :: rs') := Weak.pick (p := [a]) w
theorem Weak.p2 {a b r : HP} {t rs' : List HP} (w : Weak (a :: b :: t) rs') : Weak (a :: b :: r :: t) (r :: rs') := Weak.pick (p := [a, b]) w
theorem Weak.p3 {a b c r : HP} {t rs' : List HP} (w : Weak (a :: b :: c :: t) rs') : Weak (a :: b :: c :: r :: t) (r :: rs') := Weak.pick (p := [a, b, c]) w
theorem Weak.p4 {a b c d r : HP} {t rs' : List HP} (w : Weak (a :: b :: c :: d :: t) rs') : Weak (a :: b :: c :: d :: r :: t) (r :: rs') := Weak.pick (p := [a, b, c, d]) w
theorem Weak.p5 {a b c d e r : HP} {t rs' : List HP} (w : Weak (a :: b :: c :: d :: e :: t) rs') : Weak (a :: b :: c :: d :: e :: r :: t) (r :: rs') := Weak.pick (p := [a, b, c, d, e]) w
theorem Weak.p6 {a b c d e f r : HP} {t rs' : List HP} (w : Weak (a :: b :: c :: d :: e :: f :: t) rs') : Weak (a :: b :: c :: d :: e :: f :: r :: t) (r :: rs') := Weak.pick (p := [a, b, c, d, e, f]) w

/-! ### One block -/
/-- Block b is a row of these cells; none of them is frozen. -/
def blk (b : Nat) (cs : List Value) (T : TypeId) : HP := fun h => ∃ fr : Nat × Nat, (fr.1 = fr.2 ∨ cs.length ≤ fr.1) ∧ h = Heap.one b (.cells cs.toArray T fr)

/-! ### What a call may change -/
structure Cx where
 P : Program
 ng : Nat
 gl : Nat → Obj

/-- The package-level variables are as they were laid. -/
def Cx.ok (C : Cx) (w : World) : Prop := ∀ i, i < C.ng → w.heap[i]? = some (C.gl i)

structure Move (C : Cx) (w0 : World) (h0 : Heap) (w : World) (h : Heap) : Prop where
 os : w.os = w0.os
 tape : w.tape = w0.tape
 output : w.output = w0.output
 drawn : w0.drawn ≤ w.drawn
 size : w0.heap.size ≤ w.heap.size
 keep : ∀ i, i < w0.heap.size → h0 i = .none → w.heap[i]? = w0.heap[i]?
 sub : ∀ i o, h i = some o → w.heap[i]? = some o
 low : ∀ i o, h i = some o → C.ng ≤ i
 dom : ∀ i o, h i = some o → i < w0.heap.size → h0 i ≠ .none
 ok : C.ok w

structure Sub (C : Cx) (w : World) (h : Heap) : Prop where
 sub : ∀ i o, h i = some o → w.heap[i]? = some o
 low : ∀ i o, h i = some o → C.ng ≤ i
 ok : C.ok w

theorem Move.start {C : Cx} {w : World} {h : Heap} (s : Sub C w h) : Move C w h w h :=
 ⟨rfl, rfl, rfl, Nat.le_refl _, Nat.le_refl _, fun _ _ _ => rfl, s.sub, s.low, fun i o hi _ => by rw [hi]; simp, s.ok⟩
theorem Move.subOf {C : Cx} {w0 w : World} {h0 h : Heap} (m : Move C w0 h0 w h) : Sub C w h := ⟨m.sub, m.low, m.ok⟩
theorem Move.le {C : Cx} {w0 w : World} {h0 h k : Heap} (m : Move C w0 h0 w h) (l : k.Le h) : Move C w0 h0 w k :=
 ⟨m.os, m.tape, m.output, m.drawn, m.size, m.keep, fun i o x => m.sub i o (l i o x), fun i o x => m.low i o (l i o x), fun i o x => m.dom i o (l i o x), m.ok⟩
theorem lt_of_some {w : World} {i : Nat} {o : Obj} (h : w.heap[i]? = some o) : i < w.heap.size := (Array.getElem?_eq_some_iff.1 h).1

/-- A call that took the heaplet 'a' out of 'a.join b' and left 'a''. -/
theorem Move.call {C : Cx} {w0 w w' : World} {h0 a b a' : Heap} (m : Move C w0 h0 w (a.join b)) (d : a.Disj b) (n : Move C w a w' a') :
  a'.Disj b ∧ Move C w0 h0 w' (a'.join b) := by
 have hb : ∀ i o, b i = some o → i < w.heap.size ∧ a i = .none := fun i o x => by
  refine ⟨lt_of_some (m.sub i o (Heap.le_join_right d i o x)), ?_⟩
  rcases d i with e | e
  ·exact e
  ·rw [e] at x; cases x
 have dj : a'.Disj b := fun i => by
  cases e : b i with
  | none => exact .inr rfl
  | some o =>
   obtain ⟨hlt, ha⟩ := hb i o e
   refine .inl ?_
   cases e' : a' i with
   | none => rfl
   | some u => exact absurd ha (n.dom i u e' hlt)
 refine ⟨dj, ⟨n.os.trans m.os, n.tape.trans m.tape, n.output.trans m.output, Nat.le_trans m.drawn n.drawn, Nat.le_trans m.size n.size, ?_, ?_, ?_, ?_, n.ok⟩⟩
 ·intro i hi h0i
  have hi' : i < w.heap.size := Nat.lt_of_lt_of_le hi m.size
  have ha : a i = .none := by
   cases e : a i with
   | none => rfl
   | some o => exact absurd h0i (m.dom i o (Heap.le_join_left _ _ i o e) hi)
  exact (n.keep i hi' ha).trans (m.keep i hi h0i)
 ·intro i o x
  rcases Heap.join_some x with x | x
  ·exact n.sub i o x
  ·obtain ⟨hlt, ha⟩ := hb i o x
   exact (n.keep i hlt ha).trans (m.sub i o (Heap.le_join_right d i o x))
 ·intro i o x
  rcases Heap.join_some x with x | x
  ·exact n.low i o x
  ·exact m.low i o (Heap.le_join_right d i o x)
 ·intro i o x hi
  rcases Heap.join_some x with x | x
  ·have ha : a i ≠ .none := n.dom i o x (Nat.lt_of_lt_of_le hi m.size)
   cases e : a i with
   | none => exact absurd e ha
   | some u => exact m.dom i u (Heap.le_join_left _ _ i u e) hi
  ·exact m.dom i o (Heap.le_join_right d i o x) hi

/-- A new block. -/
theorem Move.alloc {C : Cx} {w0 w : World} {h0 h : Heap} (m : Move C w0 h0 w h) (hng : C.ng ≤ w.heap.size) (o : Obj) :
  (Heap.one w.heap.size o).Disj h ∧ Move C w0 h0 (w.alloc o) ((Heap.one w.heap.size o).join h) := by
 have hn : h w.heap.size = .none := by
  cases e : h w.heap.size with
  | none => rfl
  | some u => exact absurd (lt_of_some (m.sub _ _ e)) (Nat.lt_irrefl _)
 have hnew : (w.alloc o).heap[w.heap.size]? = some o := heap_alloc_new w o
 have hold : ∀ i, i < w.heap.size → (w.alloc o).heap[i]? = w.heap[i]? := fun i hi => Below.heap_alloc w o i hi
 refine ⟨Heap.one_disj hn, ⟨m.os, m.tape, m.output, m.drawn, ?_, ?_, ?_, ?_, ?_, ?_⟩⟩
 ·have := m.size; simp; omega
 ·intro i hi h0i
  exact (hold i (Nat.lt_of_lt_of_le hi m.size)).trans (m.keep i hi h0i)
 ·intro i u x
  rcases Heap.join_some x with x | x
  ·obtain ⟨rfl, rfl⟩ := Heap.one_some x; exact hnew
  ·exact (hold i (lt_of_some (m.sub i u x))).trans (m.sub i u x)
 ·intro i u x
  rcases Heap.join_some x with x | x
  ·obtain ⟨rfl, rfl⟩ := Heap.one_some x; exact hng
  ·exact m.low i u x
 ·intro i u x hi
  rcases Heap.join_some x with x | x
  ·obtain ⟨rfl, rfl⟩ := Heap.one_some x; exact absurd m.size (by omega)
  ·exact m.dom i u x hi
 ·intro i hi
  exact (hold i (by omega)).trans (m.ok i hi)

/-- Block b of the heaplet is written; all else stays. -/
theorem Move.put {C : Cx} {w0 w w' : World} {h0 b : Heap} {g : Nat} {o u : Obj} (m : Move C w0 h0 w ((Heap.one g o).join b)) (d : (Heap.one g o).Disj b)
  (hos : w'.os = w.os) (htape : w'.tape = w.tape) (hout : w'.output = w.output) (hdrawn : w'.drawn = w.drawn) (hsize : w'.heap.size = w.heap.size)
  (hg : w'.heap[g]? = some u) (hk : ∀ i, i ≠ g → w'.heap[i]? = w.heap[i]?) : (Heap.one g u).Disj b ∧ Move C w0 h0 w' ((Heap.one g u).join b) := by
 have hb : b g = .none := Heap.disj_one d
 have hgo := Heap.le_join_left (Heap.one g o) b g o (Heap.one_same g o)
 refine ⟨Heap.one_disj hb, ⟨hos.trans m.os, htape.trans m.tape, hout.trans m.output, hdrawn ▸ m.drawn, hsize ▸ m.size, ?_, ?_, ?_, ?_, ?_⟩⟩
 ·intro i hi h0i
  have hne : i ≠ g := fun e => by subst e; exact absurd h0i (m.dom i o hgo hi)
  exact (hk i hne).trans (m.keep i hi h0i)
 ·intro i v x
  rcases Heap.join_some x with y | y
  ·obtain ⟨rfl, rfl⟩ := Heap.one_some y; exact hg
  ·have hne : i ≠ g := fun e => by subst e; rw [hb] at y; cases y
   exact (hk i hne).trans (m.sub i v (Heap.le_join_right d i v y))
 ·intro i v x
  rcases Heap.join_some x with y | y
  ·obtain ⟨rfl, rfl⟩ := Heap.one_some y; exact m.low i o hgo
  ·exact m.low i v (Heap.le_join_right d i v y)
 ·intro i v x hi
  rcases Heap.join_some x with y | y
  ·obtain ⟨rfl, rfl⟩ := Heap.one_some y; exact m.dom i o hgo hi
  ·exact m.dom i v (Heap.le_join_right d i v y) hi
 ·intro i hi
  have hne : i ≠ g := fun e => by subst e; have := m.low i o hgo; omega
  exact (hk i hne).trans (m.ok i hi)

theorem Move.drew {C : Cx} {w0 w : World} {h0 h : Heap} (m : Move C w0 h0 w h) (n : Nat) (hn : w.drawn ≤ n) : Move C w0 h0 { w with drawn := n } h :=
 ⟨m.os, m.tape, m.output, Nat.le_trans m.drawn hn, m.size, m.keep, m.sub, m.low, m.dom, m.ok⟩

end Go.Proofs.YtcngmkjdpoiiaaaGreatDoor

/- The second part of the program logic: environments of temporaries, the judgement 'St', its rules for code, loops and calls. -/
namespace Go.Proofs.YtcngmkjdpoiiaaaGreatDoor
open Go Go.RowKit

/-! ### Environments -/
abbrev Env := List (Nat × Value)
def Env.get? : Env → Nat → Option Value
 | [], _ => none
 | (k, v) :: l, t => bif Nat.beq k t then some v else Env.get? l t
def ev (l : Env) : Operand → Option Value
 | .tmp t => l.get? t
 | .const v => some v
 | .global g => some (.pointer (some ⟨g, 0, none⟩))
 | .func f => some (.func (.func f) #[] #[])
def evL (l : Env) : List Operand → Option (List Value)
 | [] => some []
 | x :: xs => match ev l x, evL l xs with
  | some v, some vs => some (v :: vs)
  | _, _ => none

structure Rep (n : Nat) (ds : List Deferred) (l : Env) (a : Act) : Prop where
 size : a.tmps.size = n
 defers : a.defers = ds
 get : ∀ t v, l.get? t = some v → a.tmps[t]? = some v

theorem Rep.ev {n : Nat} {ds : List Deferred} {l : Env} {a : Act} (h : Rep n ds l a) {x : Operand} {v : Value} (hx : ev l x = some v) : a.eval x = v := by
 cases x with
 | tmp t =>
  have := h.get t v hx
  simp [Act.eval, this]
 | const u => exact Option.some.inj hx
 | global g => exact Option.some.inj hx
 | func f => exact Option.some.inj hx
theorem Rep.evL {n : Nat} {ds : List Deferred} {l : Env} {a : Act} (h : Rep n ds l a) : ∀ {xs : List Operand} {vs : List Value}, evL l xs = some vs → xs.map a.eval = vs
 | [], vs, hx => Option.some.inj hx
 | x :: xs, vs, hx => by
  unfold Go.Proofs.YtcngmkjdpoiiaaaGreatDoor.evL at hx
  split at hx
  ·rename_i v us hv hus
   rw [List.map_cons, h.ev hv, Rep.evL h hus]
   exact Option.some.inj hx
  ·cases hx
theorem Rep.put {n : Nat} {ds : List Deferred} {l : Env} {a : Act} (h : Rep n ds l a) {d : Nat} (hd : Nat.blt d n = true) (v : Value) : Rep n ds ((d, v) :: l) (a.put (some d) v) := by
 have hd' : d < a.tmps.size := by rw [h.size]; exact Nat.le_of_ble_eq_true hd
 refine ⟨by simp [Act.put, h.size], h.defers, fun t u ht => ?_⟩
 unfold Env.get? at ht
 cases e : Nat.beq d t with
 | true =>
  rw [e] at ht
  obtain rfl := Nat.eq_of_beq_eq_true e
  simp only [cond_true, Option.some.injEq] at ht
  simp [Act.put, hd', ht]
 | false =>
  rw [e] at ht
  have hne : d ≠ t := Nat.ne_of_beq_eq_false e
  simp only [cond_false] at ht
  simp [Act.put, Array.getElem?_setIfInBounds_ne hne, h.get t u ht]
theorem Rep.put0 {n : Nat} {ds : List Deferred} {l : Env} {a : Act} (h : Rep n ds l a) (v : Value) : Rep n ds l (a.put none v) := h

def EnvLe (l l' : Env) : Prop := ∀ t v, l'.get? t = some v → l.get? t = some v
theorem EnvLe.refl (l : Env) : EnvLe l l := fun _ _ h => h
theorem EnvLe.nil {l : Env} : EnvLe l [] := fun _ _ h => by cases h
theorem EnvLe.cons {l l' : Env} {t : Nat} {v : Value} (h : l.get? t = some v) (hl : EnvLe l l') : EnvLe l ((t, v) :: l') := fun s u hs => by
 unfold Env.get? at hs
 cases e : Nat.beq t s with
 | true =>
  rw [e] at hs
  obtain rfl := Nat.eq_of_beq_eq_true e
  simp only [cond_true, Option.some.injEq] at hs
  subst hs; exact h
 | false =>
  rw [e] at hs
  simp only [cond_false] at hs
  exact hl s u hs
theorem Rep.le {n : Nat} {ds : List Deferred} {l l' : Env} {a : Act} (h : Rep n ds l a) (le : EnvLe l l') : Rep n ds l' a := ⟨h.size, h.defers, fun t v ht => h.get t v (le t v ht)⟩

/-! ### The judgement -/
/-- What is fixed while a body runs: how many temporaries, what is deferred, the world and the heaplet with which it was entered. -/
structure Fx where
 n : Nat
 ds : List Deferred
 w : World
 h : Heap

def Now (C : Cx) (F : Fx) (rs : List HP) (w : World) : Prop := ∃ h, Sep rs h ∧ Move C F.w F.h w h

theorem Now.weak {C : Cx} {F : Fx} {rs rs' : List HP} {w : World} (n : Now C F rs w) (k : Weak rs rs') : Now C F rs' w := by
 obtain ⟨h, s, m⟩ := n
 obtain ⟨h', s', l⟩ := k h s
 exact ⟨h', s', m.le l⟩
theorem Now.drew {C : Cx} {F : Fx} {rs : List HP} {w : World} (n : Now C F rs w) (k : Nat) (hk : w.drawn ≤ k) : Now C F rs { w with drawn := k } := by
 obtain ⟨h, s, m⟩ := n
 exact ⟨h, s, m.drew k hk⟩
theorem Now.ok {C : Cx} {F : Fx} {rs : List HP} {w : World} (n : Now C F rs w) : C.ok w := n.elim fun _ x => x.2.ok

/-- From whatever frame and world fits: K. -/
def St (C : Cx) (F : Fx) (l : Env) (rs : List HP) (K : Act → World → Prop) : Prop := ∀ a w, Rep F.n F.ds l a → Now C F rs w → K a w

section
variable {C : Cx} {F : Fx} {l l' : Env} {rs rs' : List HP} {K K' : Act → World → Prop}

theorem St.mono (h : St C F l rs K) (k : ∀ a w, K a w → K' a w) : St C F l rs K' := fun a w r n => k a w (h a w r n)
theorem St.prune (h : St C F l' rs' K) (he : EnvLe l l') (hw : Weak rs rs') : St C F l rs K := fun a w r n => h a w (r.le he) (n.weak hw)
theorem St.env (he : EnvLe l l') (h : St C F l' rs K) : St C F l rs K := h.prune he (Weak.refl rs)
theorem St.res (hw : Weak rs rs') (h : St C F l rs' K) : St C F l rs K := h.prune (EnvLe.refl l) hw
/-- A resource is opened at its place (give 'p' as a list of blanks). -/
theorem St.openAt {X : Type} (p : List HP) {q : List HP} {r : HP} {s : X → HP} (o : ∀ a, r a → ∃ x, s x a) (h : ∀ x, St C F l (p ++ s x :: q) K) : St C F l (p ++ r :: q) K := by
 intro a w hr ⟨hp, hs, hm⟩
 obtain ⟨c, d, hc, ⟨u, v, hu, hv, d1, rfl⟩, d2, rfl⟩ := Sep.append.1 hs
 obtain ⟨x, hx⟩ := o u hu
 exact h x a w hr ⟨_, Sep.append.2 ⟨c, u.join v, hc, ⟨u, v, hx, hv, d1, rfl⟩, d2, rfl⟩, hm⟩
/-- A resource of which something is hidden, with what is known of it. -/
def ExP {X : Type} (p : X → Prop) (s : X → HP) : HP := fun h => ∃ x, p x ∧ s x h
theorem St.openP {X : Type} {f : X → Prop} {s : X → HP} (p : List HP) {q : List HP} (h : ∀ x, f x → St C F l (p ++ s x :: q) K) : St C F l (p ++ ExP f s :: q) K := by
 intro a w hr ⟨hp, hs, hm⟩
 obtain ⟨c, d, hc, ⟨u, v, ⟨x, hx, hu⟩, hv, d1, rfl⟩, d2, rfl⟩ := Sep.append.1 hs
 exact h x hx a w hr ⟨_, Sep.append.2 ⟨c, u.join v, hc, ⟨u, v, hu, hv, d1, rfl⟩, d2, rfl⟩, hm⟩
/-! ### Code -/
theorem R_seq {Q : Exit → Act → World → Prop} {x y : Code} (h : St C F l rs (x.wp C.P (Exit.then (y.wp C.P Q) Q))) : St C F l rs ((Code.seq x y).wp C.P Q) := fun a w r n => wp_seq (h a w r n)
theorem R_skip {Q : Exit → Act → World → Prop} (h : St C F l rs (Q .normal)) : St C F l rs (Code.skip.wp C.P Q) := fun a w r n => wp_skip (h a w r n)
theorem R_ret {Q : Exit → Act → World → Prop} (h : St C F l rs (Q .ret)) : St C F l rs (Code.ret.wp C.P Q) := fun a w r n => wp_ret (h a w r n)
theorem R_exit {Q : Exit → Act → World → Prop} {i : Nat} (h : St C F l rs (Q (.exit i))) : St C F l rs ((Code.exit i).wp C.P Q) := fun a w r n => wp_exit (h a w r n)
theorem R_block {Q : Exit → Act → World → Prop} {i : Nat} {c : Code} (h : St C F l rs (c.wp C.P (Exit.inBlock i Q))) : St C F l rs ((Code.block i c).wp C.P Q) := fun a w r n => wp_block (h a w r n)
theorem R_cond {Q : Exit → Act → World → Prop} {c : Operand} {x y : Code} {b : Bool} (hc : ev l c = some (.bool b)) (ht : b = true → St C F l rs (x.wp C.P Q)) (hf : b = false → St C F l rs (y.wp C.P Q)) :
  St C F l rs ((Code.cond c x y).wp C.P Q) := fun a w r n => by
 cases b
 ·exact wp_cond_false (r.ev hc) (hf rfl a w r n)
 ·exact wp_cond_true (r.ev hc) (ht rfl a w r n)
theorem R_condP {Q : Exit → Act → World → Prop} {c : Operand} {x y : Code} {p : Prop} {dp : Decidable p} (hc : ev l c = some (.bool (@decide p dp))) (ht : p → St C F l rs (x.wp C.P Q)) (hf : ¬p → St C F l rs (y.wp C.P Q)) :
  St C F l rs ((Code.cond c x y).wp C.P Q) := R_cond hc (fun h => ht (of_decide_eq_true h)) (fun h => hf (of_decide_eq_false h))
theorem R_condT {Q : Exit → Act → World → Prop} {c : Operand} {x y : Code} (hc : ev l c = some (.bool true)) (ht : St C F l rs (x.wp C.P Q)) : St C F l rs ((Code.cond c x y).wp C.P Q) := R_cond hc (fun _ => ht) (fun h => by cases h)
theorem R_condF {Q : Exit → Act → World → Prop} {c : Operand} {x y : Code} (hc : ev l c = some (.bool false)) (hf : St C F l rs (y.wp C.P Q)) : St C F l rs ((Code.cond c x y).wp C.P Q) := R_cond hc (fun h => by cases h) (fun _ => hf)
/-- Two ways that meet again. -/
theorem R_join {Q : Exit → Act → World → Prop} {G : Type} (e : G → Env) (r : G → List HP) (inv : G → Prop) {x y : Code}
  (hx : St C F l rs (x.wp C.P (Exit.then (fun a w => ∃ g, inv g ∧ Rep F.n F.ds (e g) a ∧ Now C F (r g) w) Q)))
  (hy : ∀ g, inv g → St C F (e g) (r g) (y.wp C.P Q)) : St C F l rs ((Code.seq x y).wp C.P Q) := fun a w hr hn =>
 wp_seq (wp_mono (hx a w hr hn) fun ex a' w' q => by
  cases ex with
  | normal => obtain ⟨g, hg, h1, h2⟩ := q; exact hy g hg a' w' h1 h2
  | _ => exact q)
theorem R_region {Q : Exit → Act → World → Prop} {id : Nat} {ops : List Oper} (h : St C F l rs (wpList C.P ops.toArray Q ops)) : St C F l rs ((Code.region id ops.toArray false).wp C.P Q) := fun a w r n => wp_region_lit (h a w r n)
theorem R_loop {Q : Exit → Act → World → Prop} {c : Code} {G : Type} (e : G → Env) (r : G → List HP) (inv : G → Prop) (m : G → Nat) (g : G) (hg : inv g) (he : EnvLe l (e g)) (hr : Weak rs (r g))
  (round : ∀ g, inv g → St C F (e g) (r g) (c.wp C.P (Exit.then (fun a w => ∃ g', inv g' ∧ m g' < m g ∧ Rep F.n F.ds (e g') a ∧ Now C F (r g') w) Q))) : St C F l rs ((Code.loop c).wp C.P Q) := by
 intro a w r0 n0
 classical
 let I : Act → World → Prop := fun a w => ∃ g, inv g ∧ Rep F.n F.ds (e g) a ∧ Now C F (r g) w
 -- the measure of a state: the least that a ghost of it has
 have key : ∀ n g, m g = n → inv g → ∀ a w, Rep F.n F.ds (e g) a → Now C F (r g) w → ∀ (b : Frame) (k : List Item) (cs : List Frame),
   ∃ ex a' w', Q ex a' w' ∧ Arrives C.P (lone (b.at a (.code c :: .inLoop c :: k)) cs w) b k cs ex a' w' := by
  intro n
  induction n using Nat.strongRecOn with
  | _ n ih =>
   intro g hm hg a w hra hnw b k cs
   obtain ⟨ex, a1, w1, hq, harr⟩ := round g hg a w hra hnw b (.inLoop c :: k) cs
   cases ex with
   | normal =>
    obtain ⟨g', hg', hlt, hr', hn'⟩ := hq
    obtain ⟨e2, a2, w2, hq2, harr2⟩ := ih (m g') (hm ▸ hlt) g' rfl hg' a1 w1 hr' hn' b k cs
    exact ⟨e2, a2, w2, hq2, .of_steps (Steps.trans harr (.one step_inLoop)) harr2⟩
   | exit id => exact ⟨_, a1, w1, hq, .pass (x := .inLoop c) rfl (fun _ _ => .inl (by simp)) harr⟩
   | goto l => exact ⟨_, a1, w1, hq, .pass (x := .inLoop c) rfl (fun _ _ => .inl (by simp)) harr⟩
   | ret => exact ⟨_, a1, w1, hq, .pass (x := .inLoop c) rfl (fun _ _ => .inl (by simp)) harr⟩
   | panic ch => exact ⟨_, a1, w1, hq, .pass (x := .inLoop c) rfl (fun _ _ => .inl (by simp)) harr⟩
   | outgrown => exact ⟨_, a1, w1, hq, .pass (x := .inLoop c) rfl (fun _ _ => .inl (by simp)) harr⟩
 intro b k cs
 obtain ⟨ex, a', w', hq, harr⟩ := key _ g rfl hg a w (r0.le he) (n0.weak hr) b k cs
 exact ⟨ex, a', w', hq, .of_steps (.one step_loop) harr⟩

/-! ### Behind a piece of code -/
theorem Q_then {Q : Exit → Act → World → Prop} {y : Code} (h : St C F l rs (y.wp C.P Q)) : St C F l rs (Exit.then (y.wp C.P Q) Q .normal) := h
theorem Q_then_exit {Q : Exit → Act → World → Prop} {k : Act → World → Prop} {i : Nat} (h : St C F l rs (Q (.exit i))) : St C F l rs (Exit.then k Q (.exit i)) := h
theorem Q_then_ret {Q : Exit → Act → World → Prop} {k : Act → World → Prop} (h : St C F l rs (Q .ret)) : St C F l rs (Exit.then k Q .ret) := h
theorem Q_block {Q : Exit → Act → World → Prop} {i : Nat} (h : St C F l rs (Q .normal)) : St C F l rs (Exit.inBlock i Q .normal) := h
theorem Q_block_ret {Q : Exit → Act → World → Prop} {i : Nat} (h : St C F l rs (Q .ret)) : St C F l rs (Exit.inBlock i Q .ret) := h
theorem Q_block_eq {Q : Exit → Act → World → Prop} {i : Nat} (h : St C F l rs (Q .normal)) : St C F l rs (Exit.inBlock i Q (.exit i)) := fun a w r n => by
 show (if i = i then Q .normal a w else Q (.exit i) a w)
 rw [if_pos rfl]; exact h a w r n
theorem Q_round {G : Type} {e : G → Env} {r : G → List HP} {inv : G → Prop} {m : G → Nat} {g : G} {Q : Exit → Act → World → Prop} (g' : G) (hi : inv g') (hm : m g' < m g) (he : EnvLe l (e g')) (hr : Weak rs (r g')) :
  St C F l rs (Exit.then (fun a w => ∃ g', inv g' ∧ m g' < m g ∧ Rep F.n F.ds (e g') a ∧ Now C F (r g') w) Q .normal) := fun _ _ hra hn => ⟨g', hi, hm, hra.le he, hn.weak hr⟩
theorem Q_meet {G : Type} {e : G → Env} {r : G → List HP} {inv : G → Prop} {Q : Exit → Act → World → Prop} (g' : G) (hi : inv g') (he : EnvLe l (e g')) (hr : Weak rs (r g')) :
  St C F l rs (Exit.then (fun a w => ∃ g', inv g' ∧ Rep F.n F.ds (e g') a ∧ Now C F (r g') w) Q .normal) := fun _ _ hra hn => ⟨g', hi, hra.le he, hn.weak hr⟩

/-! ### Operations -/
def wantedE (ops : Array Oper) (l : Env) (o : Oper) : Bool :=
 match o.guard with
 | none => true
 | some (j, b) => match ((ops[j]?).bind (·.dst)).bind l.get? with
  | some (.bool c) => c == b
  | _ => false
def unwantedE (ops : Array Oper) (l : Env) (o : Oper) : Bool :=
 match o.guard with
 | none => false
 | some (j, b) => match ((ops[j]?).bind (·.dst)).bind l.get? with
  | some (.bool c) => c != b
  | some (.tuple _) => true
  | _ => false
theorem Rep.yielded {n : Nat} {ds : List Deferred} {a : Act} (r : Rep n ds l a) {ops : Array Oper} {j : Nat} {c : Bool} (h : ((ops[j]?).bind (·.dst)).bind l.get? = some (.bool c)) : yielded ops a.tmps j = some c := by
 unfold Go.yielded
 obtain ⟨t, ht, hl⟩ := Option.bind_eq_some_iff.1 h
 rw [ht]
 simp only [Option.bind_some, r.get t _ hl]
theorem Rep.yieldedNone {n : Nat} {ds : List Deferred} {a : Act} (r : Rep n ds l a) {ops : Array Oper} {j : Nat} {x : Array Value} (h : ((ops[j]?).bind (·.dst)).bind l.get? = some (.tuple x)) : Go.yielded ops a.tmps j = none := by
 unfold Go.yielded
 obtain ⟨t, ht, hl⟩ := Option.bind_eq_some_iff.1 h
 rw [ht]
 simp only [Option.bind_some, r.get t _ hl]
theorem wanted_of {n : Nat} {ds : List Deferred} {a : Act} (r : Rep n ds l a) {ops : Array Oper} {o : Oper} (h : wantedE ops l o = true) : Region.wanted o (yielded ops a.tmps) = true := by
 unfold wantedE at h
 unfold Region.wanted
 cases hg : o.guard with
 | none => rfl
 | some gb =>
  obtain ⟨j, b⟩ := gb
  rw [hg] at h
  simp only at h
  split at h
  ·rename_i c hc
   have hcb : c = b := by simpa using h
   subst hcb
   simp only [r.yielded hc]
   simp
  ·cases h
theorem unwanted_of {n : Nat} {ds : List Deferred} {a : Act} (r : Rep n ds l a) {ops : Array Oper} {o : Oper} (h : unwantedE ops l o = true) : Region.wanted o (yielded ops a.tmps) = false := by
 unfold unwantedE at h
 unfold Region.wanted
 cases hg : o.guard with
 | none => rw [hg] at h; cases h
 | some gb =>
  obtain ⟨j, b⟩ := gb
  rw [hg] at h
  simp only at h
  split at h
  ·rename_i c hc
   simp only [r.yielded hc]
   cases b <;> cases c <;> simp_all
  ·rename_i x hx
   simp only [r.yieldedNone hx]
   rfl
  ·cases h

/-- In every fitting state the operation yields v and leaves the world as it is. -/
def OpV (C : Cx) (F : Fx) (l : Env) (rs : List HP) (o : Oper) (v : Value) : Prop := ∀ a w, Rep F.n F.ds l a → Now C F rs w → (execOp a.eval o).run C.P w = .ok (.value v) w
/-- The same in whatever world. -/
def OpP (C : Cx) (F : Fx) (l : Env) (o : Oper) (v : Value) : Prop := ∀ a w, Rep F.n F.ds l a → (execOp a.eval o).run C.P w = .ok (.value v) w
/-- The operation comes to K. -/
def OpW (C : Cx) (F : Fx) (l : Env) (rs : List HP) (o : Oper) (K : Act → World → Prop) (Q : Exit → Act → World → Prop) : Prop := ∀ a w, Rep F.n F.ds l a → Now C F rs w → o.wp C.P a w K Q
theorem OpP.v {o : Oper} {v : Value} (h : OpP C F l o v) : OpV C F l rs o v := fun a w r _ => h a w r

section
variable {ops : Array Oper} {Q : Exit → Act → World → Prop} {rest : List Oper} {o : Oper} {v : Value} {d : Nat}
theorem L_nil (h : St C F l rs (Q .normal)) : St C F l rs (wpList C.P ops Q []) := h
theorem W_val (hd : o.dst = some d) (hn : Nat.blt d F.n = true) (h : OpV C F l rs o v) (k : St C F ((d, v) :: l) rs K) : OpW C F l rs o K Q := fun a w r n => by
 unfold Oper.wp
 rw [h a w r n]
 show K (a.put o.dst v) w
 rw [hd]
 exact k _ w (r.put hn v) n
theorem L_op (hw : wantedE ops l o = true) (h : OpW C F l rs o (wpList C.P ops Q rest) Q) : St C F l rs (wpList C.P ops Q (o :: rest)) := fun a w r n => by
 unfold wpList
 rw [if_pos (wanted_of r hw)]
 exact .inl (h a w r n)
theorem L_val (hw : wantedE ops l o = true) (hd : o.dst = some d) (hn : Nat.blt d F.n = true) (h : OpV C F l rs o v) (k : St C F ((d, v) :: l) rs (wpList C.P ops Q rest)) : St C F l rs (wpList C.P ops Q (o :: rest)) :=
 L_op hw (W_val hd hn h k)
theorem L_no (hw : unwantedE ops l o = true) (hd : o.dst = some d) (hn : Nat.blt d F.n = true) (k : St C F ((d, undef) :: l) rs (wpList C.P ops Q rest)) : St C F l rs (wpList C.P ops Q (o :: rest)) := fun a w r n => by
 unfold wpList
 rw [if_neg (by rw [unwanted_of r hw]; simp), hd]
 exact k _ w (r.put hn undef) n
end

/-! ### Calls -/
/-- What a function keeps: entered with these arguments in a world that meets 'pre', the resources 'R0' its own for the time, it returns v with resources 'rs' such that 'post v rs'; all else is as it was. -/
def Spec (C : Cx) (f : FuncId) (args : List Value) (pre : World → Heap → Prop) (R0 : List HP) (post : Value → List HP → Prop) : Prop :=
 ∀ w h, Sep R0 h → Sub C w h → pre w h → Calls C.P f args.toArray w (fun e w' => ∃ v rs h', e = .returned v ∧ post v rs ∧ Sep rs h' ∧ Move C w h w' h')

theorem Spec.mono {f : FuncId} {args : List Value} {pre pre' : World → Heap → Prop} {R0 : List HP} {post post' : Value → List HP → Prop} (h : Spec C f args pre R0 post)
  (hp : ∀ w h, pre' w h → pre w h) (hq : ∀ v rs, post v rs → post' v rs) : Spec C f args pre' R0 post' := fun w k s u p =>
 (h w k s u (hp w k p)).mono fun _ _ ⟨v, rs, h', x1, x2, x3⟩ => ⟨v, rs, h', x1, hq _ _ x2, x3⟩

/-- The arguments' temporaries. -/
def envOf : Nat → List Value → Env
 | _, [] => []
 | k, v :: vs => (k, v) :: envOf (k + 1) vs
theorem envOf_get : ∀ (vs : List Value) (k t : Nat) (v : Value), (envOf k vs).get? t = some v → k ≤ t ∧ vs[t - k]? = some v
 | [], _, _, _, h => by cases h
 | u :: vs, k, t, v, h => by
  unfold envOf Env.get? at h
  cases e : Nat.beq k t with
  | true =>
   rw [e] at h
   obtain rfl := Nat.eq_of_beq_eq_true e
   simp only [cond_true] at h
   exact ⟨Nat.le_refl _, by simpa using h⟩
  | false =>
   rw [e] at h
   simp only [cond_false] at h
   have hne := Nat.ne_of_beq_eq_false e
   obtain ⟨h1, h2⟩ := envOf_get vs (k + 1) t v h
   refine ⟨by omega, ?_⟩
   rw [show t - k = (t - (k + 1)) + 1 by omega]
   simpa using h2

/-- A body is walked. -/
theorem Spec.enter {f : FuncId} {fn : Func} {c : Code} {args : List Value} {pre : World → Heap → Prop} {R0 : List HP} {post : Value → List HP → Prop}
  (hf : C.P.funcs[f]? = some fn) (hb : fn.body = some c) (n : Nat) (hn : fn.ntmps = n) (hle : Nat.ble args.length n = true)
  (h : ∀ w k, Sep R0 k → Sub C w k → pre w k → St C ⟨n, [], w, k⟩ (envOf 0 args) R0 (c.wp C.P (bodyPost C.P fn fun e w' => ∃ v rs h', e = .returned v ∧ post v rs ∧ Sep rs h' ∧ Move C w k w' h'))) : Spec C f args pre R0 post := by
 intro w k hs hu hp
 refine calls_of_wp hf hb (h w k hs hu hp _ w ⟨?_, rfl, ?_⟩ ⟨k, hs, Move.start hu⟩)
 ·have := Nat.le_of_ble_eq_true hle
  simp [hn]; omega
 ·intro t v ht
  obtain ⟨_, h2⟩ := envOf_get args 0 t v ht
  have hlt := (List.getElem?_eq_some_iff.1 h2).1
  simp only [Nat.sub_zero] at h2 hlt
  rw [Array.getElem?_append, if_pos (by simpa using hlt)]
  simpa using h2

/-- Some resources are taken for a call. -/
def Split (rs R0 rest : List HP) : Prop := Weak rs (R0 ++ rest)
theorem Split.nil (rs : List HP) : Split rs [] rs := Weak.refl rs
theorem Split.one {p q : List HP} {r : HP} : Split (p ++ r :: q) [r] (p ++ q) := Weak.front

def callable (P : Program) (f : FuncId) : Bool := match P.funcs[f]? with
 | some fn => !(fn.name == "runtime.NumGoroutine") && fn.body.isSome
 | none => false
theorem run_call {P : Program} {f : FuncId} (hc : callable P f = true) (args : Array Value) (w : World) : (callFunc f args).run P w = .ok (.enter f args) w := by
 unfold callable at hc
 unfold callFunc
 split at hc
 ·rename_i fn hfn
  simp only [Bool.and_eq_true, Bool.not_eq_true'] at hc
  obtain ⟨h1, h2⟩ := hc
  have hb : fn.body.isNone = false := by cases h : fn.body with | none => rw [h] at h2; cases h2 | some _ => rfl
  simp only [Sem.run_bind, run_program, Result.andThen_ok, hfn, h1, hb, Bool.false_eq_true, if_false, Sem.run_pure]
 ·cases hc

theorem W_callv {o : Oper} {Q : Exit → Act → World → Prop} {g : Operand} {xs : List Operand} {ts : Array TypeId} {f : FuncId} {fi ca : List Value} {args vs : List Value} {pre : World → Heap → Prop} {R0 rest : List HP} {post : Value → List HP → Prop}
  (ho : o.op = .call { callee := .value g, args := xs.toArray, argTypes := ts }) (hg : ev l g = some (.func (.func f) fi.toArray ca.toArray)) (hx : evL l xs = some vs) (hvs : fi ++ vs ++ ca = args) (hc : callable C.P f = true) (hs : Spec C f args pre R0 post)
  (sp : Split rs R0 rest) (hp : ∀ w a b, Sep R0 a → Sep rest b → a.Disj b → Move C F.w F.h w (a.join b) → pre w a)
  (k : ∀ v rs', post v rs' → ∀ a w, Rep F.n F.ds l a → Now C F (rs' ++ rest) w → K (a.put o.dst v) w) : OpW C F l rs o K Q := fun a w r n => by
 obtain ⟨h, s, m⟩ := n
 obtain ⟨h', s', le⟩ := sp h s
 obtain ⟨c, d, hc', hd, dj, rfl⟩ := Sep.append.1 s'
 have m' := m.le le
 have hrun : (execOp a.eval o).run C.P w = .ok (.enter f args.toArray) w := by
  unfold execOp
  simp only [ho, resolve, r.ev hg, Deferred.ofValue, invoke, Sem.run_bind, Sem.run_pure, Result.andThen_ok, List.map_toArray, r.evL hx]
  rw [run_call hc]
  simp [← hvs]
 unfold Oper.wp
 rw [hrun]
 show Calls C.P f args.toArray w _
 refine (hs w c hc' (m'.le (Heap.le_join_left _ _)).subOf (hp w c d hc' hd dj m')).mono ?_
 rintro e w' ⟨v, rs', h2, rfl, hpost, hs2, mv⟩
 obtain ⟨dj2, mv2⟩ := m'.call dj mv
 exact k v rs' hpost a w' r ⟨_, Sep.append.2 ⟨h2, d, hs2, hd, dj2, rfl⟩, mv2⟩

theorem W_call {o : Oper} {Q : Exit → Act → World → Prop} {xs : List Operand} {ts : Array TypeId} {f : FuncId} {vs : List Value} {pre : World → Heap → Prop} {R0 rest : List HP} {post : Value → List HP → Prop} {d : Nat}
  (ho : o.op = .call { callee := .value (.func f), args := xs.toArray, argTypes := ts }) (hd : o.dst = some d) (hn : Nat.blt d F.n = true) (hx : evL l xs = some vs) (hc : callable C.P f = true) (hs : Spec C f vs pre R0 post)
  (sp : Split rs R0 rest) (hp : ∀ w a b, Sep R0 a → Sep rest b → a.Disj b → Move C F.w F.h w (a.join b) → pre w a)
  (k : ∀ v rs', post v rs' → St C F ((d, v) :: l) (rs' ++ rest) K) : OpW C F l rs o K Q :=
 W_callv (fi := []) (ca := []) ho rfl hx (by simp) hc hs sp hp fun v rs' hpost a w r n => by rw [hd]; exact k v rs' hpost _ w (r.put hn v) n

/-! ### The end of a body -/
/-- What the results read as. -/
inductive ResV (C : Cx) (F : Fx) (l : Env) (rs : List HP) : List ResultVar → List Value → Prop
 | nil : ResV C F l rs [] []
 | tmp {t : Nat} {v : Value} {xs : List ResultVar} {vs : List Value} (h : l.get? t = some v) (k : ResV C F l rs xs vs) : ResV C F l rs (.tmp t :: xs) (v :: vs)
 | cell {t T : Nat} {ad : Addr} {v : Value} {xs : List ResultVar} {vs : List Value} (h : l.get? t = some (.pointer (some ad))) (hv : ∀ w, Now C F rs w → (loadVar T ad).run C.P w = .ok v w) (k : ResV C F l rs xs vs) :
   ResV C F l rs (.cell t T :: xs) (v :: vs)
theorem asAddr_some (a : Addr) : asAddr (.pointer (some a)) = pure a := rfl
theorem ResV.run {xs : List ResultVar} {vs : List Value} (h : ResV C F l rs xs vs) {a : Act} {w : World} (r : Rep F.n F.ds l a) (n : Now C F rs w) :
  (xs.mapM (m := Sem) (fun x : ResultVar => match x with
   | .tmp t => pure (a.tmps.getD t undef)
   | .cell p t => do loadVar t (← asAddr (a.tmps.getD p undef)))).run C.P w = .ok vs w := by
 induction h with
 | nil => simp
 | tmp h k ih =>
  have h' := r.get _ _ h
  rw [List.mapM_cons]
  simp only [Sem.run_bind, Sem.run_pure, Result.andThen_ok, ih]
  simp [h']
 | cell h hv k ih =>
  have hg := r.ev (x := .tmp _) h
  simp only [Act.eval] at hg
  rw [List.mapM_cons]
  simp only [Sem.run_bind, Sem.run_pure, hg, asAddr_some, Result.andThen_ok, hv w n, ih]
/-- One result stands for itself, others in a tuple. -/
def packV : List Value → Value
 | [v] => v
 | vs => .tuple vs.toArray
theorem ResV.results {fn : Func} {xs : List ResultVar} {vs : List Value} (hf : fn.results = xs.toArray) (h : ResV C F l rs xs vs) {a : Act} {w : World} (r : Rep F.n F.ds l a) (n : Now C F rs w) :
  (Go.results fn a.tmps).run C.P w = .ok (packV vs) w := by
 have hr := h.run r n
 unfold Go.results
 rw [hf, Array.mapM_eq_mapM_toList]
 simp only [Sem.run_bind, Sem.run_map, Sem.run_pure]
 refine (congrArg (fun r : Result (List Value) => (r.andThen fun a w' => Result.ok a.toArray w').andThen fun a w' => Result.ok (if h : a.size = 1 then a[0] else Value.tuple a) w') hr).trans ?_
 simp only [Result.andThen_ok]
 congr 1
 match vs with
 | [] => rfl
 | [_] => rfl
 | _ :: _ :: _ => simp [packV]

theorem R_end {fn : Func} {xs : List ResultVar} {vs : List Value} {post : Value → List HP → Prop} {rs2 : List HP} (hds : F.ds = []) (hf : fn.results = xs.toArray) (h : ResV C F l rs xs vs) (hp : post (packV vs) rs2) (hw : Weak rs rs2) :
  St C F l rs (bodyPost C.P fn (fun e w' => ∃ v rs h', e = .returned v ∧ post v rs ∧ Sep rs h' ∧ Move C F.w F.h w' h') .ret) := fun a w r n => by
 refine ⟨r.defers.trans hds, _, h.results hf r n, ?_⟩
 obtain ⟨k, s, m⟩ := n
 obtain ⟨k', s', le⟩ := hw k s
 exact ⟨_, rs2, k', rfl, hp, s', m.le le⟩
theorem R_end0 {fn : Func} {xs : List ResultVar} {vs : List Value} {post : Value → List HP → Prop} {rs2 : List HP} (hds : F.ds = []) (hf : fn.results = xs.toArray) (h : ResV C F l rs xs vs) (hp : post (packV vs) rs2) (hw : Weak rs rs2) :
  St C F l rs (bodyPost C.P fn (fun e w' => ∃ v rs h', e = .returned v ∧ post v rs ∧ Sep rs h' ∧ Move C F.w F.h w' h') .normal) := fun a w r n => R_end hds hf h hp hw a w r n
end
end Go.Proofs.YtcngmkjdpoiiaaaGreatDoor

/- The third part of the program logic: what the single operations yield, and what they leave in memory. -/
namespace Go.Proofs.YtcngmkjdpoiiaaaGreatDoor
open Go Go.RowKit

/-! ### Types -/
def scB (P : Program) (t : TypeId) : Bool := match P.underlying t with
 | some (.struct _) | some (.array _ _) | none => false
 | some _ => (P.info? t).any fun i => i.size == 1
def agB (P : Program) (t : TypeId) (n : Nat) : Bool := (match P.underlying t with | some (.struct _) | some (.array _ _) => true | _ => false) && (P.info? t).any fun i => i.size == n
def slB (P : Program) (t e sz bytes : Nat) : Bool := (match P.underlying t with | some (.slice e') => e' == e | _ => false) && (P.info? e).any fun i => i.size == sz && i.bytes == bytes
def arB (P : Program) (t n e sz : Nat) : Bool := (match P.underlying t with | some (.array n' e') => n' == n && e' == e | _ => false) && (P.info? e).any fun i => i.size == sz
def flB (P : Program) (s f off : Nat) : Bool := match P.underlying s with
 | some (.struct fs) => match fs[f]? with
  | some fd => fd.offset == off && (P.info? fd.type).any fun i => !(i.size == 0)
  | none => false
 | _ => false
/-- Where a struct's field lies, and of what type it is. -/
def fldB (P : Program) (s f : Nat) : Option (Nat × Nat) := match P.underlying s with
 | some (.struct fs) => match fs[f]? with
  | some fd => some (fd.offset, fd.type)
  | none => none
 | _ => none
def zeB (P : Program) (t : TypeId) (cs : List Value) : Prop := ((P.info? t).bind (·.zero)).map (·.cells.toList) = some cs

section
variable {P : Program} {w : World}
theorem run_size {t n : Nat} (h : ((P.info? t).any fun i => i.size == n) = true) (w : World) : (sizeOf t).run P w = .ok n w := by
 cases hi : P.info? t with
 | none => simp [hi] at h
 | some i =>
  have : i.size = n := by simpa [hi] using h
  simp [sizeOf, typeInfo, hi, this]
theorem run_isAgg_sc {t : Nat} (h : scB P t = true) (w : World) : (isAgg t).run P w = .ok false w ∧ (sizeOf t).run P w = .ok 1 w := by
 unfold scB at h
 split at h
 ·cases h
 ·cases h
 ·cases h
 ·rename_i d hs ha hd
  refine ⟨?_, run_size h w⟩
  unfold isAgg
  rw [Sem.run_bind, run_underlying hd w]
  cases d <;> simp_all
theorem run_isAgg_ag {t n : Nat} (h : agB P t n = true) (w : World) : (isAgg t).run P w = .ok true w ∧ (sizeOf t).run P w = .ok n w := by
 unfold agB at h
 rw [Bool.and_eq_true] at h
 refine ⟨?_, run_size h.2 w⟩
 have h1 := h.1
 split at h1
 ·rename_i d hd
  unfold isAgg
  rw [Sem.run_bind, run_underlying hd w]; rfl
 ·rename_i d hd
  unfold isAgg
  rw [Sem.run_bind, run_underlying hd w]; rfl
 ·cases h1
theorem slB_spec {t e sz bytes : Nat} (h : slB P t e sz bytes = true) : P.underlying t = some (.slice e) ∧ ∃ i, P.info? e = some i ∧ i.size = sz ∧ i.bytes = bytes := by
 unfold slB at h
 rw [Bool.and_eq_true] at h
 obtain ⟨h1, h2⟩ := h
 constructor
 ·split at h1
  ·rename_i e' he
   have : e' = e := by simpa using h1
   subst this; exact he
  ·cases h1
 ·cases hi : P.info? e with
  | none => simp [hi] at h2
  | some i => exact ⟨i, rfl, by simpa [hi] using h2⟩
theorem arB_spec {t n e sz : Nat} (h : arB P t n e sz = true) : P.underlying t = some (.array n e) ∧ ((P.info? e).any fun i => i.size == sz) = true := by
 unfold arB at h
 rw [Bool.and_eq_true] at h
 obtain ⟨h1, h2⟩ := h
 refine ⟨?_, h2⟩
 split at h1
 ·rename_i n' e' he
  have : n' = n ∧ e' = e := by simpa using h1
  obtain ⟨rfl, rfl⟩ := this; exact he
 ·cases h1
theorem add_zero_off (b j : Nat) (n : Nat) : (⟨b, j, none⟩ : Addr).add n = ⟨b, j + n, none⟩ := by unfold Addr.add; split <;> simp_all
end

/-! ### Numbers -/
def fits (k : IntKind) (x : Int) : Prop := match k with
 | .i8 => -128 ≤ x ∧ x ≤ 127
 | .i16 => -32768 ≤ x ∧ x ≤ 32767
 | .i32 => -2147483648 ≤ x ∧ x ≤ 2147483647
 | .i64 => -9223372036854775808 ≤ x ∧ x ≤ 9223372036854775807
 | .u8 => 0 ≤ x ∧ x ≤ 255
 | .u16 => 0 ≤ x ∧ x ≤ 65535
 | .u32 => 0 ≤ x ∧ x ≤ 4294967295
 | .u64 => 0 ≤ x ∧ x ≤ 18446744073709551615
theorem wrap_fits {k : IntKind} {x : Int} (h : fits k x) : k.wrap x = x := by
 cases k <;> simp only [fits] at h <;> simp [IntKind.wrap, IntKind.signed, IntKind.bits] <;> omega
/-- The bit operations on whole numbers of a kind. -/
def bitI (op : BinOp) (k : IntKind) (x y : Int) : Int := match op with
 | .and => k.wrap (BitVec.ofInt k.bits x &&& BitVec.ofInt k.bits y).toNat
 | .or => k.wrap (BitVec.ofInt k.bits x ||| BitVec.ofInt k.bits y).toNat
 | .xor => k.wrap (BitVec.ofInt k.bits x ^^^ BitVec.ofInt k.bits y).toNat
 | .andNot => k.wrap (BitVec.ofInt k.bits x &&& ~~~BitVec.ofInt k.bits y).toNat
 | _ => 0
def shlI (k : IntKind) (x y : Int) : Int := k.wrap (x * 2 ^ min y.toNat k.bits)
def shrI (k : IntKind) (x y : Int) : Int := x.fdiv (2 ^ min y.toNat k.bits)

/-! ### Reading memory -/
section
variable {C : Cx} {F : Fx} {l : Env} {rs rs' : List HP} {K : Act → World → Prop} {o : Oper} {Q : Exit → Act → World → Prop} {d : Nat}

/-- In every fitting world the cell holds v. -/
def Rd (C : Cx) (F : Fx) (rs : List HP) (ad : Addr) (v : Value) : Prop := ∀ w, Now C F rs w → w.cell? ad = some v
/-- The cells from there on. -/
def Rds (C : Cx) (F : Fx) (rs : List HP) (ad : Addr) (cs : List Value) : Prop := ∀ w, Now C F rs w → ∀ j v, cs[j]? = some v → w.cell? (ad.add j) = some v

theorem Now.has {r : HP} {w : World} (n : Now C F rs w) (m : Has rs r r rs) : ∃ a, r a ∧ (∀ i o, a i = some o → w.heap[i]? = some o ∧ C.ng ≤ i) := by
 obtain ⟨h, s, mv⟩ := n
 obtain ⟨a, b, ha, _, rfl, _⟩ := Sep.take m s
 exact ⟨a, ha, fun i o x => ⟨mv.sub i o (Heap.le_join_left _ _ i o x), mv.low i o (Heap.le_join_left _ _ i o x)⟩⟩
theorem Now.getBlk {b T : Nat} {cs : List Value} {w : World} (n : Now C F rs w) (m : Has rs (blk b cs T) (blk b cs T) rs) : ∃ fr, w.heap[b]? = some (.cells cs.toArray T fr) ∧ (fr.1 = fr.2 ∨ cs.length ≤ fr.1) := by
 obtain ⟨a, ⟨fr, hf, rfl⟩, h⟩ := n.has m
 exact ⟨fr, (h b _ (Heap.one_same _ _)).1, hf⟩
theorem Rd.blk {b T j : Nat} {cs : List Value} {v : Value} (m : Has rs (blk b cs T) (blk b cs T) rs) (hv : cs[j]? = some v) : Rd C F rs ⟨b, j, none⟩ v := fun w n => by
 obtain ⟨fr, h, _⟩ := n.getBlk m
 simp [World.cell?, h, hv]
theorem Rd.old {ad : Addr} {v : Value} (hc : F.w.cell? ad = some v) (hf : F.h ad.block = none) : Rd C F rs ad v := fun w n => by
 obtain ⟨h, s, m⟩ := n
 have hlt := block_lt_of_cell hc
 rw [← hc]
 simp only [World.cell?, m.keep ad.block hlt hf]
theorem Rd.glob {g j : Nat} {cs : List Value} {T : TypeId} {fr : Nat × Nat} {v : Value} (hg : Nat.blt g C.ng = true) (hc : C.gl g = .cells cs.toArray T fr) (hv : cs[j]? = some v) : Rd C F rs ⟨g, j, none⟩ v := fun w n => by
 have := n.ok g (Nat.le_of_ble_eq_true hg)
 simp [World.cell?, this, hc, hv]
theorem Rds.of {b j : Nat} {cs : List Value} (h : ∀ i v, cs[i]? = some v → Rd C F rs ⟨b, j + i, none⟩ v) : Rds C F rs ⟨b, j, none⟩ cs := fun w n i v hv => by
 rw [add_zero_off]; exact h i v hv w n
theorem Rds.blk {b T : Nat} {cs : List Value} (m : Has rs (blk b cs T) (blk b cs T) rs) : Rds C F rs ⟨b, 0, none⟩ cs := Rds.of fun i v hv => by
 rw [Nat.zero_add]; exact Rd.blk m hv
theorem Rds.glob {g : Nat} {cs : List Value} {T : TypeId} {fr : Nat × Nat} (hg : Nat.blt g C.ng = true) (hc : C.gl g = .cells cs.toArray T fr) : Rds C F rs ⟨g, 0, none⟩ cs := Rds.of fun i v hv => by
 rw [Nat.zero_add]; exact Rd.glob hg hc hv
theorem Rds.part {b j : Nat} {cs us : List Value} (h : Rds C F rs ⟨b, j, none⟩ cs) (k : Nat) (hu : ∀ i v, us[i]? = some v → cs[k + i]? = some v) : Rds C F rs ⟨b, j + k, none⟩ us := fun w n i v hv => by
 have := h w n (k + i) v (hu i v hv)
 rw [add_zero_off] at this ⊢
 rwa [Nat.add_assoc]
theorem Rds.at_ {b j : Nat} {cs : List Value} (h : Rds C F rs ⟨b, j, none⟩ cs) {i : Nat} {v : Value} (hv : cs[i]? = some v) : Rd C F rs ⟨b, j + i, none⟩ v := fun w n => by
 have := h w n i v hv
 rwa [add_zero_off] at this
theorem Rds.loadVar {t n : Nat} {ad : Addr} {cs : List Value} (ht : agB C.P t n = true) (h : Rds C F rs ad cs) (hn : cs.length = n) : ∀ w, Now C F rs w → (Go.loadVar t ad).run C.P w = .ok (.agg cs.toArray) w := fun w nw => by
 have hl := run_loadCells_list (P := C.P) w ad cs (h w nw)
 subst hn
 simp [Go.loadVar, run_isAgg_ag ht w, hl]
theorem Rd.loadVar {t : Nat} {ad : Addr} {v : Value} (ht : scB C.P t = true) (h : Rd C F rs ad v) : ∀ w, Now C F rs w → (Go.loadVar t ad).run C.P w = .ok v w := fun w nw => by
 simp [Go.loadVar, run_isAgg_sc ht w, h w nw]

/-! ### Operations that yield a value -/
theorem P_move {x : Operand} {v : Value} (ho : o.op = .move x) (hx : ev l x = some v) : OpP C F l o v := fun a w r => by
 simp only [execOp, ho, r.ev hx, Sem.run_pure]
theorem P_assign {x : Operand} {v : Value} (ho : o.op = .assign x) (hx : ev l x = some v) : OpP C F l o v := fun a w r => by
 simp only [execOp, ho, r.ev hx, Sem.run_pure]
theorem P_pick {c x y : Operand} {b : Bool} {v : Value} (ho : o.op = .pick c x y) (hc : ev l c = some (.bool b)) (hx : ev l (if b then x else y) = some v) : OpP C F l o v := fun a w r => by
 cases b
 ·have h2 := r.ev (v := v) (x := y) hx
  simp [execOp, ho, r.ev hc, asBool, h2]
 ·have h2 := r.ev (v := v) (x := x) hx
  simp [execOp, ho, r.ev hc, asBool, h2]
theorem P_not {t : Nat} {x : Operand} {b : Bool} (ho : o.op = .unOp .not t x) (hx : ev l x = some (.bool b)) : OpP C F l o (.bool (!b)) := fun a w r => by
 simp [execOp, ho, r.ev hx, Op.unary]
theorem P_compl {t : Nat} {x : Operand} {k : IntKind} {n : Int} (ho : o.op = .unOp .xor t x) (hx : ev l x = some (.int k n)) : OpP C F l o (.int k (bitI .xor k (if k.signed then -1 else k.max) n)) := fun a w r => by
 simp [execOp, ho, r.ev hx, Op.unary, Op.intBits, bitI]
section
variable {t t' : Nat} {x y : Operand} {k : IntKind} {m n : Int}
theorem P_add (ho : o.op = .binOp .add t x y t') (hx : ev l x = some (.int k m)) (hy : ev l y = some (.int k n)) : OpP C F l o (.int k (k.wrap (m + n))) := fun a w r => by
 simp [execOp, ho, r.ev hx, r.ev hy, binOp, eqGuard, Op.intArith]
theorem P_sub (ho : o.op = .binOp .sub t x y t') (hx : ev l x = some (.int k m)) (hy : ev l y = some (.int k n)) : OpP C F l o (.int k (k.wrap (m - n))) := fun a w r => by
 simp [execOp, ho, r.ev hx, r.ev hy, binOp, eqGuard, Op.intArith]
theorem P_mul (ho : o.op = .binOp .mul t x y t') (hx : ev l x = some (.int k m)) (hy : ev l y = some (.int k n)) : OpP C F l o (.int k (k.wrap (m * n))) := fun a w r => by
 simp [execOp, ho, r.ev hx, r.ev hy, binOp, eqGuard, Op.intArith]
theorem P_addN (ho : o.op = .binOp .add t x y t') (hx : ev l x = some (.int k m)) (hy : ev l y = some (.int k n)) (hf : fits k (m + n)) : OpP C F l o (.int k (m + n)) := by
 have := P_add (C := C) (F := F) ho hx hy; rwa [wrap_fits hf] at this
theorem P_subN (ho : o.op = .binOp .sub t x y t') (hx : ev l x = some (.int k m)) (hy : ev l y = some (.int k n)) (hf : fits k (m - n)) : OpP C F l o (.int k (m - n)) := by
 have := P_sub (C := C) (F := F) ho hx hy; rwa [wrap_fits hf] at this
theorem P_mulN (ho : o.op = .binOp .mul t x y t') (hx : ev l x = some (.int k m)) (hy : ev l y = some (.int k n)) (hf : fits k (m * n)) : OpP C F l o (.int k (m * n)) := by
 have := P_mul (C := C) (F := F) ho hx hy; rwa [wrap_fits hf] at this
theorem P_quo (ho : o.op = .binOp .quo t x y t') (hx : ev l x = some (.int k m)) (hy : ev l y = some (.int k n)) (h0 : n ≠ 0) : OpP C F l o (.int k (k.wrap (m.tdiv n))) := fun a w r => by
 simp [execOp, ho, r.ev hx, r.ev hy, binOp, eqGuard, Op.intDiv, h0]
theorem P_rem (ho : o.op = .binOp .rem t x y t') (hx : ev l x = some (.int k m)) (hy : ev l y = some (.int k n)) (h0 : n ≠ 0) : OpP C F l o (.int k (m.tmod n)) := fun a w r => by
 simp [execOp, ho, r.ev hx, r.ev hy, binOp, eqGuard, Op.intDiv, h0]
theorem P_bit {op : BinOp} (ho : o.op = .binOp op t x y t') (hx : ev l x = some (.int k m)) (hy : ev l y = some (.int k n)) (hop : (match op with | .and | .or | .xor | .andNot => true | _ => false) = true) : OpP C F l o (.int k (bitI op k m n)) := fun a w r => by
 cases op <;> simp at hop <;> simp [execOp, ho, r.ev hx, r.ev hy, binOp, eqGuard, Op.intBits, bitI]
theorem P_shl {k' : IntKind} (ho : o.op = .binOp .shl t x y t') (hx : ev l x = some (.int k m)) (hy : ev l y = some (.int k' n)) (h0 : 0 ≤ n) : OpP C F l o (.int k (shlI k m n)) := fun a w r => by
 have h0' : ¬ n < 0 := by omega
 simp [execOp, ho, r.ev hx, r.ev hy, binOp, eqGuard, Op.shift, h0', shlI]
theorem P_shr {k' : IntKind} (ho : o.op = .binOp .shr t x y t') (hx : ev l x = some (.int k m)) (hy : ev l y = some (.int k' n)) (h0 : 0 ≤ n) : OpP C F l o (.int k (shrI k m n)) := fun a w r => by
 have h0' : ¬ n < 0 := by omega
 simp [execOp, ho, r.ev hx, r.ev hy, binOp, eqGuard, Op.shift, h0', shrI]
theorem P_lss (ho : o.op = .binOp .lss t x y t') (hx : ev l x = some (.int k m)) (hy : ev l y = some (.int k n)) : OpP C F l o (.bool (decide (m < n))) := fun a w r => by
 simp [execOp, ho, r.ev hx, r.ev hy, binOp, eqGuard, Op.intCmp]
theorem P_leq (ho : o.op = .binOp .leq t x y t') (hx : ev l x = some (.int k m)) (hy : ev l y = some (.int k n)) : OpP C F l o (.bool (decide (m ≤ n))) := fun a w r => by
 simp [execOp, ho, r.ev hx, r.ev hy, binOp, eqGuard, Op.intCmp]
theorem P_gtr (ho : o.op = .binOp .gtr t x y t') (hx : ev l x = some (.int k m)) (hy : ev l y = some (.int k n)) : OpP C F l o (.bool (decide (n < m))) := fun a w r => by
 simp [execOp, ho, r.ev hx, r.ev hy, binOp, eqGuard, Op.intCmp]
theorem P_geq (ho : o.op = .binOp .geq t x y t') (hx : ev l x = some (.int k m)) (hy : ev l y = some (.int k n)) : OpP C F l o (.bool (decide (n ≤ m))) := fun a w r => by
 simp [execOp, ho, r.ev hx, r.ev hy, binOp, eqGuard, Op.intCmp]
theorem P_eql (ho : o.op = .binOp .eql t x y t') (hx : ev l x = some (.int k m)) (hy : ev l y = some (.int k n)) : OpP C F l o (.bool (decide (m = n))) := fun a w r => by
 have : (m == n) = decide (m = n) := by by_cases h : m = n <;> simp [h]
 simp [execOp, ho, r.ev hx, r.ev hy, binOp, eqGuard, Op.intCmp, this]
theorem P_neq (ho : o.op = .binOp .neq t x y t') (hx : ev l x = some (.int k m)) (hy : ev l y = some (.int k n)) : OpP C F l o (.bool (decide (m ≠ n))) := fun a w r => by
 have : (m != n) = decide (m ≠ n) := by by_cases h : m = n <;> simp [h]
 simp [execOp, ho, r.ev hx, r.ev hy, binOp, eqGuard, Op.intCmp, this]
end
theorem P_conv {t t' : Nat} {x : Operand} {k k' : IntKind} {n : Int} (ho : o.op = .convert t t' x) (hs : C.P.underlying t = some (.int k)) (ht : C.P.underlying t' = some (.int k')) (hx : ev l x = some (.int k n)) : OpP C F l o (.int k' (k'.wrap n)) := fun a w r => by
 simp [execOp, ho, r.ev hx, convert, run_underlying hs, run_underlying ht, Conv.intToInt]
theorem P_convN {t t' : Nat} {x : Operand} {k k' : IntKind} {n : Int} (ho : o.op = .convert t t' x) (hs : C.P.underlying t = some (.int k)) (ht : C.P.underlying t' = some (.int k')) (hx : ev l x = some (.int k n)) (hf : fits k' n) : OpP C F l o (.int k' n) := by
 have := P_conv (C := C) (F := F) ho hs ht hx; rwa [wrap_fits hf] at this
theorem P_nil {x : Operand} {ad : Addr} (ho : o.op = .nilCheck x) (hx : ev l x = some (.pointer (some ad))) : OpP C F l o (.pointer (some ad)) := fun a w r => by
 simp [execOp, ho, r.ev hx]
theorem P_fld {s f off b j : Nat} {x : Operand} (ho : o.op = .fieldAddr s x f) (hs : flB C.P s f off = true) (hx : ev l x = some (.pointer (some ⟨b, j, none⟩))) : OpP C F l o (.pointer (some ⟨b, j + off, none⟩)) := fun a w r => by
 unfold flB at hs
 split at hs
 ·rename_i fs hfs
  split at hs
  ·rename_i fd hfd
   rw [Bool.and_eq_true] at hs
   obtain ⟨h1, h2⟩ := hs
   have hoff : fd.offset = off := by simpa using h1
   cases hi : C.P.info? fd.type with
   | none => simp [hi] at h2
   | some i =>
    have hne : ¬ i.size = 0 := by simpa [hi] using h2
    simp [execOp, ho, r.ev hx, Instr.fieldAt, run_underlying hfs, hfd, Instr.sureAddr, fieldPlace, sizeOf, typeInfo, hi, hne, hoff, add_zero_off]
  ·cases hs
 ·cases hs
theorem P_fld0 {s f off b : Nat} {x : Operand} (ho : o.op = .fieldAddr s x f) (hs : flB C.P s f off = true) (hx : ev l x = some (.pointer (some ⟨b, 0, none⟩))) : OpP C F l o (.pointer (some ⟨b, off, none⟩)) := by
 have := P_fld (C := C) (F := F) ho hs hx
 rwa [Nat.zero_add] at this
section
variable {t t' e : Nat} {x y : Operand}
theorem pointee_eq {P : Program} (ht : P.underlying t = some (.pointer e)) : P.underlying t = some (.pointer (P.pointee t)) := by
 unfold Program.pointee; rw [ht]
theorem run_guard_ptr {P : Program} {w : World} (op : BinOp) (t : TypeId) (x y : Operand) (p q : Option Addr) : (eqGuard op t x y (.pointer p) (.pointer q)).run P w = .ok () w := by
 unfold eqGuard; cases op <;> rfl
theorem P_neP {p : Option Addr} (ho : o.op = .binOp .neq t x y t') (ht : C.P.underlying t = some (.pointer e)) (hx : ev l x = some (.pointer p)) (hy : ev l y = some (.pointer none)) : OpP C F l o (.bool (!p.isNone)) := fun a w r => by
 simp only [execOp, ho, r.ev hx, r.ev hy, Sem.run_bind, run_guard_ptr, Result.andThen_ok, run_neq_pointer_nil w t p (pointee_eq ht), Sem.run_pure]
theorem P_eqP {p : Option Addr} (ho : o.op = .binOp .eql t x y t') (ht : C.P.underlying t = some (.pointer e)) (hx : ev l x = some (.pointer p)) (hy : ev l y = some (.pointer none)) : OpP C F l o (.bool p.isNone) := fun a w r => by
 simp only [execOp, ho, r.ev hx, r.ev hy, Sem.run_bind, run_guard_ptr, Result.andThen_ok, run_eql_pointer_nil w t p (pointee_eq ht), Sem.run_pure]
theorem P_neNil {ad : Addr} (ho : o.op = .binOp .neq t x y t') (ht : C.P.underlying t = some (.pointer e)) (hx : ev l x = some (.pointer (some ad))) (hy : ev l y = some (.pointer none)) : OpP C F l o (.bool true) := P_neP ho ht hx hy
theorem P_eqNil {ad : Addr} (ho : o.op = .binOp .eql t x y t') (ht : C.P.underlying t = some (.pointer e)) (hx : ev l x = some (.pointer (some ad))) (hy : ev l y = some (.pointer none)) : OpP C F l o (.bool false) := P_eqP ho ht hx hy
theorem P_neNil0 (ho : o.op = .binOp .neq t x y t') (ht : C.P.underlying t = some (.pointer e)) (hx : ev l x = some (.pointer none)) (hy : ev l y = some (.pointer none)) : OpP C F l o (.bool false) := P_neP ho ht hx hy
theorem P_eqNil0 (ho : o.op = .binOp .eql t x y t') (ht : C.P.underlying t = some (.pointer e)) (hx : ev l x = some (.pointer none)) (hy : ev l y = some (.pointer none)) : OpP C F l o (.bool true) := P_eqP ho ht hx hy
end
/-- &a[i], a an array in memory. -/
theorem P_ixa {t n e sz b j : Nat} {x ix : Operand} {k : IntKind} {m : Int} (i : Nat) (ho : o.op = .indexAddr t x ix) (ht : arB C.P t n e sz = true) (hx : ev l x = some (.pointer (some ⟨b, j, none⟩))) (hi : ev l ix = some (.int k m)) (he : m = i) (hn : i < n) :
  OpP C F l o (.pointer (some ⟨b, j + i * sz, none⟩)) := fun a w r => by
 obtain ⟨h1, h2⟩ := arB_spec ht
 subst he
 simp [execOp, ho, r.ev hx, r.ev hi, Instr.indexAt, asIntOf, run_underlying h1, Instr.sureAddr, run_size h2, add_zero_off]
 intro h; omega
/-- &s[i], s a slice. -/
theorem P_ixs {t e sz bytes b j n c : Nat} {x ix : Operand} {k : IntKind} {m : Int} (i : Nat) (ho : o.op = .indexAddr t x ix) (ht : slB C.P t e sz bytes = true) (hx : ev l x = some (.slice (some ⟨b, j, none⟩) n c)) (hi : ev l ix = some (.int k m)) (he : m = i) (hn : i < n) :
  OpP C F l o (.pointer (some ⟨b, j + i * sz, none⟩)) := fun a w r => by
 obtain ⟨h1, ti, h2, h3, _⟩ := slB_spec ht
 subst he
 simp [execOp, ho, r.ev hx, r.ev hi, Instr.indexAt, asIntOf, run_underlying h1, sizeOf, typeInfo, h2, h3, add_zero_off]
 intro h; omega
/-- a[i], a an array by value whose elements are one cell each. -/
theorem P_index {t n e : Nat} {x ix : Operand} {k : IntKind} {m : Int} {cs : List Value} {v : Value} (i : Nat) (ho : o.op = .index t x ix) (ht : arB C.P t n e 1 = true) (he1 : scB C.P e = true) (hx : ev l x = some (.agg cs.toArray)) (hi : ev l ix = some (.int k m)) (he : m = i) (hn : i < n) (hv : cs[i]? = some v) :
  OpP C F l o v := fun a w r => by
 obtain ⟨h1, h2⟩ := arB_spec ht
 subst he
 simp [execOp, ho, r.ev hx, r.ev hi, Instr.index, asIntOf, run_underlying h1, run_size h2, part, run_isAgg_sc he1, hv]
 intro h; omega
/-- x.f, x a struct by value, f of one cell. -/
theorem P_field {s f off ft : Nat} {x : Operand} {cs : List Value} {v : Value} (ho : o.op = .field s x f) (hf : fldB C.P s f = some (off, ft)) (h1 : scB C.P ft = true) (hx : ev l x = some (.agg cs.toArray)) (hv : cs[off]? = some v) : OpP C F l o v := fun a w r => by
 unfold fldB at hf
 split at hf
 ·rename_i fs hu
  split at hf
  ·rename_i fd hfd
   simp only [Option.some.injEq, Prod.mk.injEq] at hf
   obtain ⟨rfl, rfl⟩ := hf
   simp [execOp, ho, r.ev hx, Instr.field, run_underlying hu, hfd, part, asAgg, run_isAgg_sc h1, hv]
  ·cases hf
 ·cases hf
theorem P_extract {x : Operand} {i : Nat} {vs : List Value} {v : Value} (ho : o.op = .extract x i) (hx : ev l x = some (.tuple vs.toArray)) (hv : vs[i]? = some v) : OpP C F l o v := fun a w r => by
 simp [execOp, ho, r.ev hx, Instr.extract, hv]
theorem P_len {t e sz bytes : Nat} {x : Operand} {b : Option Addr} {n c : Nat} (ho : o.op = .call { callee := .builtin .len, args := #[x], argTypes := #[t] }) (ht : slB C.P t e sz bytes = true) (hx : ev l x = some (.slice b n c)) : OpP C F l o (.int .i64 n) := fun a w r => by
 obtain ⟨h1, _⟩ := slB_spec ht
 simp [execOp, ho, resolve, invoke, builtin, r.ev hx, Builtin.len_, run_underlying h1, goInt]
theorem P_lenStr {t : Nat} {x : Operand} {s : ByteArray} (ho : o.op = .call { callee := .builtin .len, args := #[x], argTypes := #[t] }) (ht : C.P.underlying t = some .string) (hx : ev l x = some (.string s)) : OpP C F l o (.int .i64 s.size) := fun a w r => by
 simp [execOp, ho, resolve, invoke, builtin, r.ev hx, Builtin.len_, run_underlying ht, goInt]
theorem P_func {fn : Fn} {first captured : Array Operand} {fi ca : List Value} (ho : o.op = .makeFunc fn first captured) (h1 : evL l first.toList = some fi) (h2 : evL l captured.toList = some ca) : OpP C F l o (.func fn fi.toArray ca.toArray) := fun a w r => by
 have e1 : first.map a.eval = fi.toArray := Array.ext' (by rw [Array.toList_map, r.evL h1])
 have e2 : captured.map a.eval = ca.toArray := Array.ext' (by rw [Array.toList_map, r.evL h2])
 simp [execOp, ho, Instr.makeFunc, e1, e2]
/-- x[lo:hi] of a slice. -/
theorem P_slice {t e sz bytes : Nat} {x : Operand} {lo hi : Option Operand} {b : Option Addr} {n c : Nat} (p q : Nat) (ho : o.op = .slice t x lo hi none) (ht : slB C.P t e sz bytes = true) (hx : ev l x = some (.slice b n c))
  (hlo : match lo with | none => p = 0 | some y => ∃ k, ev l y = some (.int k (p : Int))) (hhi : match hi with | none => q = n | some y => ∃ k, ev l y = some (.int k (q : Int))) (hpq : p ≤ q) (hq : q ≤ c) :
  OpP C F l o (sliced b p q c sz) := fun a w r => by
 obtain ⟨h1, ti, h2, h3, _⟩ := slB_spec ht
 have hpq' : (p : Int) ≤ q := by omega
 have hq' : (q : Int) ≤ c := by omega
 cases lo <;> cases hi <;> simp only at hlo hhi
 ·subst hlo; subst hhi
  simp [execOp, ho, r.ev hx, Instr.sliceAt, Instr.slice, run_underlying h1, Instr.sliceBounds, sliced, sizeOf, typeInfo, h2]
 ·obtain ⟨k, hk⟩ := hhi
  subst hlo
  simp [execOp, ho, r.ev hx, r.ev hk, Instr.sliceAt, Instr.slice, run_underlying h1, Instr.sliceBounds, run_sliceBound, sliced, sizeOf, typeInfo, h2, hq']
 ·obtain ⟨k, hk⟩ := hlo
  subst hhi
  simp [execOp, ho, r.ev hx, r.ev hk, Instr.sliceAt, Instr.slice, run_underlying h1, Instr.sliceBounds, run_sliceBound, sliced, sizeOf, typeInfo, h2, h3, hpq']
 ·obtain ⟨k, hk⟩ := hlo
  obtain ⟨k2, hk2⟩ := hhi
  simp [execOp, ho, r.ev hx, r.ev hk, r.ev hk2, Instr.sliceAt, Instr.slice, run_underlying h1, Instr.sliceBounds, run_sliceBound, sliced, sizeOf, typeInfo, h2, h3, hpq', hq']
/-- x[lo:hi:max] of a slice. -/
theorem P_slice3 {t e sz bytes : Nat} {x y z : Operand} {lo : Option Operand} {b : Option Addr} {n c : Nat} {km kh : IntKind} (p q m : Nat) (ho : o.op = .slice t x lo (some z) (some y)) (ht : slB C.P t e sz bytes = true) (hx : ev l x = some (.slice b n c))
  (hlo : match lo with | none => p = 0 | some y => ∃ k, ev l y = some (.int k (p : Int))) (hhi : ev l z = some (.int kh (q : Int))) (hmx : ev l y = some (.int km (m : Int))) (hpq : p ≤ q) (hq : q ≤ m) (hm : m ≤ c) :
  OpP C F l o (sliced b p q m sz) := fun a w r => by
 obtain ⟨h1, ti, h2, h3, _⟩ := slB_spec ht
 have hpq' : (p : Int) ≤ q := by omega
 have hq' : (q : Int) ≤ m := by omega
 have hm' : (m : Int) ≤ c := by omega
 cases lo <;> simp only at hlo
 ·subst hlo
  simp [execOp, ho, r.ev hx, r.ev hhi, r.ev hmx, Instr.sliceAt, Instr.slice, run_underlying h1, Instr.sliceBounds, run_sliceBound, sliced, sizeOf, typeInfo, h2, h3, hq', hm']
 ·obtain ⟨k, hk⟩ := hlo
  simp [execOp, ho, r.ev hx, r.ev hk, r.ev hhi, r.ev hmx, Instr.sliceAt, Instr.slice, run_underlying h1, Instr.sliceBounds, run_sliceBound, sliced, sizeOf, typeInfo, h2, h3, hpq', hq', hm']
/-- a[lo:] of an array in memory. -/
theorem P_sliceArr {t n e sz b j : Nat} {x : Operand} {lo hi : Option Operand} (p q : Nat) (ho : o.op = .slice t x lo hi none) (ht : arB C.P t n e sz = true) (hx : ev l x = some (.pointer (some ⟨b, j, none⟩)))
  (hlo : match lo with | none => p = 0 | some y => ∃ k, ev l y = some (.int k (p : Int))) (hhi : match hi with | none => q = n | some y => ∃ k, ev l y = some (.int k (q : Int))) (hpq : p ≤ q) (hq : q ≤ n) :
  OpP C F l o (.slice (some (if n = p then ⟨b, j, none⟩ else ⟨b, j + p * sz, none⟩)) (q - p) (n - p)) := fun a w r => by
 obtain ⟨h1, h2⟩ := arB_spec ht
 have hpq' : (p : Int) ≤ q := by omega
 have hq' : (q : Int) ≤ n := by omega
 cases lo <;> cases hi <;> simp only at hlo hhi
 ·subst hlo; subst hhi
  simp [execOp, ho, r.ev hx, Instr.sliceAt, Instr.sureAddr, run_underlying h1, Instr.sliceBounds, run_size h2, add_zero_off]
 ·obtain ⟨k, hk⟩ := hhi
  subst hlo
  simp [execOp, ho, r.ev hx, r.ev hk, Instr.sliceAt, Instr.sureAddr, run_underlying h1, Instr.sliceBounds, run_sliceBound, run_size h2, add_zero_off, hq']
 ·obtain ⟨k, hk⟩ := hlo
  subst hhi
  simp [execOp, ho, r.ev hx, r.ev hk, Instr.sliceAt, Instr.sureAddr, run_underlying h1, Instr.sliceBounds, run_sliceBound, run_size h2, add_zero_off, hpq']
 ·obtain ⟨k, hk⟩ := hlo
  obtain ⟨k2, hk2⟩ := hhi
  simp [execOp, ho, r.ev hx, r.ev hk, r.ev hk2, Instr.sliceAt, Instr.sureAddr, run_underlying h1, Instr.sliceBounds, run_sliceBound, run_size h2, add_zero_off, hpq', hq']
theorem P_sliceAll {t n e sz b j : Nat} {x : Operand} (ho : o.op = .slice t x none none none) (ht : arB C.P t n e sz = true) (hx : ev l x = some (.pointer (some ⟨b, j, none⟩))) : OpP C F l o (.slice (some ⟨b, j, none⟩) n n) := fun a w r => by
 have := P_sliceArr (C := C) (F := F) 0 n ho ht hx rfl rfl (Nat.zero_le _) (Nat.le_refl _) a w r
 simpa using this

theorem V_load {t : Nat} {x : Operand} {ad : Addr} {v : Value} (ho : o.op = .load t x) (hx : ev l x = some (.pointer (some ad))) (ht : scB C.P t = true) (hr : Rd C F rs ad v) : OpV C F l rs o v := fun a w r n => by
 simp [execOp, ho, r.ev hx, Instr.loadAt, Instr.sureAddr, Rd.loadVar ht hr w n]
theorem V_loadAgg {t n : Nat} {x : Operand} {ad : Addr} {cs : List Value} (ho : o.op = .load t x) (hx : ev l x = some (.pointer (some ad))) (ht : agB C.P t n = true) (hr : Rds C F rs ad cs) (hn : cs.length = n) : OpV C F l rs o (.agg cs.toArray) := fun a w r nw => by
 simp [execOp, ho, r.ev hx, Instr.loadAt, Instr.sureAddr, Rds.loadVar ht hr hn w nw]
end
end Go.Proofs.YtcngmkjdpoiiaaaGreatDoor

/- The fourth part of the program logic: operations that make or write memory; regions whose order Go leaves open. -/
namespace Go.Proofs.YtcngmkjdpoiiaaaGreatDoor
open Go Go.RowKit

/-! ### One block is written -/
/-- Block g holds u now; nothing else has changed. -/
structure PutRel (w : World) (g : Nat) (u : Obj) (w' : World) : Prop where
 os : w'.os = w.os
 tape : w'.tape = w.tape
 output : w'.output = w.output
 drawn : w'.drawn = w.drawn
 size : w'.heap.size = w.heap.size
 at_ : w'.heap[g]? = some u
 other : ∀ i, i ≠ g → w'.heap[i]? = w.heap[i]?

theorem run_store_blk {P : Program} {w : World} {g j T : Nat} {cur : List Value} {fr : Nat × Nat} {v : Value} (hg : w.heap[g]? = some (.cells cur.toArray T fr)) (hf : fr.1 = fr.2 ∨ cur.length ≤ fr.1) (hj : j < cur.length) (h1 : v.oneCell' = true) :
  ∃ w', (store ⟨g, j, none⟩ v).run P w = .ok () w' ∧ PutRel w g (.cells (cur.set j v).toArray T fr) w' := by
 have hc : w.cell? ⟨g, j, none⟩ = some cur[j] := by simp [World.cell?, hg, hj]
 have hz : w.frozen? ⟨g, j, none⟩ = false := by
  simp only [World.frozen?, hg]
  simp only [Bool.and_eq_false_iff, decide_eq_false_iff_not]
  omega
 refine ⟨w.setCell ⟨g, j, none⟩ v, ?_, rfl, rfl, rfl, rfl, World.size_setCell _ _ _, ?_, fun i hi => heap_setCell_other _ _ _ _ hi⟩
 ·rw [run_store P w _ v _ h1, hc]
  simp [hz]
 ·simp only [World.setCell]
  rw [Array.getElem?_modify, if_pos rfl, hg]
  simp

def splice (cur : List Value) (o : Nat) (vs : List Value) : List Value := cur.take o ++ vs ++ cur.drop (o + vs.length)
theorem splice_nil (cur : List Value) (o : Nat) : splice cur o [] = cur := by simp [splice]
theorem splice_cons (cur : List Value) (o : Nat) (v : Value) (vs : List Value) (h : o + vs.length + 1 ≤ cur.length) : splice (cur.set o v) (o + 1) vs = splice cur o (v :: vs) := by
 have := list_seg_step cur o v vs (by omega)
 unfold splice
 rw [this]
 simp [Nat.add_assoc, Nat.add_comm 1 vs.length]
theorem length_splice (cur : List Value) (o : Nat) (vs : List Value) (h : o + vs.length ≤ cur.length) : (splice cur o vs).length = cur.length := by simp [splice]; omega
theorem splice_all (cur vs : List Value) (h : vs.length = cur.length) : splice cur 0 vs = vs := by simp [splice, h]

theorem run_storeCells_blk {P : Program} {g o T : Nat} {fr : Nat × Nat} : ∀ (vs : List Value) (i : Nat) (cur : List Value) (w : World), w.heap[g]? = some (.cells cur.toArray T fr) → (fr.1 = fr.2 ∨ cur.length ≤ fr.1) →
  o + i + vs.length ≤ cur.length → (∀ v ∈ vs, v.oneCell' = true) → ∃ w', (storeCells ⟨g, o, none⟩ vs i).run P w = .ok () w' ∧ PutRel w g (.cells (splice cur (o + i) vs).toArray T fr) w'
 | [], i, cur, w, hg, _, _, _ => ⟨w, by simp [storeCells], rfl, rfl, rfl, rfl, rfl, by rw [splice_nil]; exact hg, fun _ _ => rfl⟩
 | v :: vs, i, cur, w, hg, hf, hl, h1 => by
  simp only [List.length_cons] at hl
  obtain ⟨w1, hr, p⟩ := run_store_blk (P := P) (j := o + i) hg hf (by omega) (h1 v (by simp))
  obtain ⟨w2, hr2, p2⟩ := run_storeCells_blk (P := P) (o := o) vs (i + 1) (cur.set (o + i) v) w1 p.at_ (by simpa using hf) (by simp; omega) (fun x hx => h1 x (by simp [hx]))
  refine ⟨w2, ?_, p2.os.trans p.os, p2.tape.trans p.tape, p2.output.trans p.output, p2.drawn.trans p.drawn, p2.size.trans p.size, ?_, fun k hk => (p2.other k hk).trans (p.other k hk)⟩
  ·simp only [storeCells, Sem.run_bind, add_zero_off, hr, Result.andThen_ok, hr2]
  ·rw [p2.at_, ← Nat.add_assoc, splice_cons cur (o + i) v vs (by omega)]

section
variable {C : Cx} {F : Fx} {l : Env} {rs rs' : List HP} {K : Act → World → Prop} {o : Oper} {Q : Exit → Act → World → Prop} {d : Nat}

theorem Now.ng {w : World} (n : Now C F rs w) : C.ng ≤ w.heap.size := by
 rcases Nat.eq_zero_or_pos C.ng with h | h
 ·omega
 ·have := lt_of_some (n.ok (C.ng - 1) (by omega)); omega
theorem Now.alloc {w : World} (n : Now C F rs w) (cs : List Value) (T : TypeId) : Now C F (blk w.heap.size cs T :: rs) (w.alloc (.cells cs.toArray T)) := by
 have hng := n.ng
 obtain ⟨h, s, m⟩ := n
 obtain ⟨dj, m2⟩ := m.alloc hng (.cells cs.toArray T)
 exact ⟨_, ⟨_, h, ⟨(0, 0), .inl rfl, rfl⟩, s, dj, rfl⟩, m2⟩
theorem Now.put {w w' : World} {b T : Nat} {cs cs' : List Value} (n : Now C F rs w) (m : Has rs (blk b cs T) (blk b cs' T) rs') (hlen : cs'.length = cs.length)
  (h : ∀ fr, w.heap[b]? = some (.cells cs.toArray T fr) → (fr.1 = fr.2 ∨ cs.length ≤ fr.1) → PutRel w b (.cells cs'.toArray T fr) w') : Now C F rs' w' := by
 obtain ⟨k, s, mv⟩ := n
 obtain ⟨a, c, ⟨fr, hf, rfl⟩, dj, rfl, back⟩ := Sep.take m s
 have hb := mv.sub b _ (Heap.le_join_left _ _ b _ (Heap.one_same _ _))
 have p := h fr hb hf
 obtain ⟨dj2, mv2⟩ := mv.put dj p.os p.tape p.output p.drawn p.size p.at_ p.other
 exact ⟨_, back _ ⟨fr, by rw [hlen]; exact hf, rfl⟩ dj2, mv2⟩

/-- var x T -/
theorem W_alloc {T : Nat} {cs : List Value} (ho : o.op = .alloc T) (hd : o.dst = some d) (hn : Nat.blt d F.n = true) (hz : zeB C.P T cs)
  (k : ∀ b, St C F ((d, .pointer (some ⟨b, 0, none⟩)) :: l) (blk b cs T :: rs) K) : OpW C F l rs o K Q := fun a w r n => by
 unfold zeB at hz
 obtain ⟨z, hz1, hz2⟩ := Option.map_eq_some_iff.1 hz
 obtain ⟨i, hi, hiz⟩ := Option.bind_eq_some_iff.1 hz1
 have hcs : z.cells = cs.toArray := by rw [← hz2]
 unfold Oper.wp
 have : (execOp a.eval o).run C.P w = .ok (.value (.pointer (some ⟨w.heap.size, 0, none⟩))) (w.alloc (.cells cs.toArray T)) := by
  simp [execOp, ho, Instr.alloc, zeroValue, typeInfo, hi, hiz, newVar, newRow, hcs]
 rw [this]
 show K (a.put o.dst _) _
 rw [hd]
 exact k _ _ _ (r.put hn _) (n.alloc cs T)
theorem W_box {T : Nat} {x : Operand} {v : Value} (cs : List Value) (ho : o.op = .box T x) (hd : o.dst = some d) (hn : Nat.blt d F.n = true) (hx : ev l x = some v) (hv : v.cells = cs.toArray)
  (k : ∀ b, St C F ((d, .pointer (some ⟨b, 0, none⟩)) :: l) (blk b cs T :: rs) K) : OpW C F l rs o K Q := fun a w r n => by
 unfold Oper.wp
 have : (execOp a.eval o).run C.P w = .ok (.value (.pointer (some ⟨w.heap.size, 0, none⟩))) (w.alloc (.cells cs.toArray T)) := by
  simp [execOp, ho, Instr.box, newVar, newRow, r.ev hx, hv]
 rw [this]
 show K (a.put o.dst _) _
 rw [hd]
 exact k _ _ _ (r.put hn _) (n.alloc cs T)

theorem W_store {t b j T : Nat} {x y : Operand} {v : Value} {cs : List Value} (ho : o.op = .store t x y) (hd : o.dst = none) (hx : ev l x = some (.pointer (some ⟨b, j, none⟩))) (hy : ev l y = some v) (ht : scB C.P t = true) (h1 : v.oneCell' = true)
  (m : Has rs (blk b cs T) (blk b (cs.set j v) T) rs') (hj : j < cs.length) (k : St C F l rs' K) : OpW C F l rs o K Q := fun a w r n => by
 have m0 : Has rs (blk b cs T) (blk b cs T) rs := by obtain ⟨p, q, e, _⟩ := m; exact ⟨p, q, e, e⟩
 obtain ⟨fr, hg, hf⟩ := n.getBlk m0
 obtain ⟨w', hr, p⟩ := run_store_blk (P := C.P) hg hf hj h1
 have hcells : v.cells = #[v] := by cases v <;> first | rfl | (simp [Value.oneCell'] at h1)
 unfold Oper.wp
 have : (execOp a.eval o).run C.P w = .ok .skip w' := by
  simp [execOp, ho, Instr.storeAt, Instr.sureAddr, r.ev hx, r.ev hy, storeVar, (run_isAgg_sc ht w).2, hcells, storeCells, hr, add_zero_off]
 rw [this]
 show K (a.put o.dst undef) w'
 rw [hd]
 refine k a w' r (n.put m (by simp) fun fr' hg' _ => ?_)
 rw [hg] at hg'
 injection hg' with hg'
 injection hg' with _ _ e
 exact e ▸ p
theorem W_storeAgg {t b j T n : Nat} {x y : Operand} {vs : List Value} {cs : List Value} (ho : o.op = .store t x y) (hd : o.dst = none) (hx : ev l x = some (.pointer (some ⟨b, j, none⟩))) (hy : ev l y = some (.agg vs.toArray)) (ht : agB C.P t n = true) (hl : vs.length = n)
  (h1 : ∀ v ∈ vs, v.oneCell' = true) (m : Has rs (blk b cs T) (blk b (splice cs j vs) T) rs') (hj : j + vs.length ≤ cs.length) (k : St C F l rs' K) : OpW C F l rs o K Q := fun a w r nw => by
 have m0 : Has rs (blk b cs T) (blk b cs T) rs := by obtain ⟨p, q, e, _⟩ := m; exact ⟨p, q, e, e⟩
 obtain ⟨fr, hg, hf⟩ := nw.getBlk m0
 obtain ⟨w', hr, p⟩ := run_storeCells_blk (P := C.P) (o := j) vs 0 cs w hg hf (by simpa using hj) h1
 subst hl
 unfold Oper.wp
 have : (execOp a.eval o).run C.P w = .ok .skip w' := by
  simp [execOp, ho, Instr.storeAt, Instr.sureAddr, r.ev hx, r.ev hy, storeVar, (run_isAgg_ag ht w).2, Value.cells, hr]
 rw [this]
 show K (a.put o.dst undef) w'
 rw [hd]
 refine k a w' r (nw.put m (length_splice _ _ _ hj) fun fr' hg' _ => ?_)
 rw [hg] at hg'
 injection hg' with hg'
 injection hg' with _ _ e
 exact e ▸ p
/-- The whole block is stored over. -/
theorem W_storeAll {t b T n : Nat} {x y : Operand} {vs : List Value} {cs : List Value} (ho : o.op = .store t x y) (hd : o.dst = none) (hx : ev l x = some (.pointer (some ⟨b, 0, none⟩))) (hy : ev l y = some (.agg vs.toArray)) (ht : agB C.P t n = true) (hl : vs.length = n)
  (h1 : ∀ v ∈ vs, v.oneCell' = true) (m : Has rs (blk b cs T) (blk b vs T) rs') (hj : vs.length = cs.length) (k : St C F l rs' K) : OpW C F l rs o K Q :=
 W_storeAgg ho hd hx hy ht hl h1 (by rw [splice_all cs vs hj]; exact m) (by omega) k

/-! ### Literals of slices -/
theorem fill_flat (sz : Nat) : ∀ (vs : List Value) (k : Nat) (done todo : List Value), done.length = k * sz → todo.length = vs.length * sz → (∀ v ∈ vs, v.cells.size = sz) →
  Instr.fill (fun i => some (i * sz, sz)) (done ++ todo).toArray ((List.range' k vs.length).zip vs) = some (done ++ vs.flatMap (·.cells.toList)).toArray
 | [], k, done, todo, _, ht, _ => by
  have : todo = [] := List.eq_nil_of_length_eq_zero (by simpa using ht)
  subst this
  simp [Instr.fill]
 | v :: vs, k, done, todo, hd, ht, hv => by
  have hsz := hv v (by simp)
  simp only [List.length_cons, Nat.add_mul, Nat.one_mul] at ht
  have hfold : ∀ (us : List Value) (j : Nat) (a b c : List Value), a.length = k * sz + j → b.length = us.length → 
    (us.zipIdx j).foldl (fun (cs : Array Value) (x : Value × Nat) => cs.setIfInBounds (k * sz + x.2) x.1) (a ++ b ++ c).toArray = (a ++ us ++ c).toArray := by
   intro us
   induction us with
   | nil => intro j a b c _ hb; have : b = [] := List.eq_nil_of_length_eq_zero hb; subst this; simp
   | cons u us ih =>
    intro j a b c ha hb
    cases b with
    | nil => simp at hb
    | cons b0 b =>
     simp only [List.zipIdx_cons, List.foldl_cons]
     have e : ((a ++ b0 :: b ++ c).toArray).setIfInBounds (k * sz + j) u = ((a ++ [u]) ++ b ++ c).toArray := by
      rw [← ha]
      simp [List.set_append]
     rw [e, ih (j + 1) (a ++ [u]) b c (by simp; omega) (by simpa using hb)]
     simp
  rw [List.length_cons, List.range'_succ]
  simp only [List.zip_cons_cons, Instr.fill]
  have h1 : ¬ (v.cells.size ≠ sz) := by simpa using hsz
  have h2 : ¬ (k * sz + v.cells.size > (done ++ todo).toArray.size) := by simp [hd, hsz]; omega
  simp only [h1, h2, decide_false, Bool.or_self, Bool.false_eq_true, if_false]
  have e2 : v.cells.zipIdx.foldl (fun (cs : Array Value) (x : Value × Nat) => cs.setIfInBounds (k * sz + x.2) x.1) (done ++ todo).toArray = ((done ++ v.cells.toList) ++ todo.drop sz).toArray := by
   have := hfold v.cells.toList 0 done (todo.take sz) (todo.drop sz) (by simpa using hd) (by simp; omega)
   rw [List.append_assoc, List.take_append_drop] at this
   rw [← this, ← Array.foldl_toList, Array.toList_zipIdx]
  have e3 : (v.cells.zipIdx.foldl (fun (cs : Array Value) (x : Value × Nat) => match x with | (c, j) => cs.setIfInBounds (k * sz + j) c) (done ++ todo).toArray) = ((done ++ v.cells.toList) ++ todo.drop sz).toArray := e2
  rw [e3, fill_flat sz vs (k + 1) (done ++ v.cells.toList) (todo.drop sz) (by simp [hd, hsz, Nat.add_mul]) (by simp; omega) (fun x hx => hv x (by simp [hx]))]
  simp

theorem fill_flatR (sz : Nat) (rest : List Value) : ∀ (vs : List Value) (k : Nat) (done todo : List Value), done.length = k * sz → todo.length = vs.length * sz → (∀ v ∈ vs, v.cells.size = sz) →
  Instr.fill (fun i => some (i * sz, sz)) (done ++ todo ++ rest).toArray ((List.range' k vs.length).zip vs) = some (done ++ vs.flatMap (·.cells.toList) ++ rest).toArray
 | [], k, done, todo, _, ht, _ => by
  have : todo = [] := List.eq_nil_of_length_eq_zero (by simpa using ht)
  subst this
  simp [Instr.fill]
 | v :: vs, k, done, todo, hd, ht, hv => by
  have hsz := hv v (by simp)
  simp only [List.length_cons, Nat.add_mul, Nat.one_mul] at ht
  have hfold : ∀ (us : List Value) (j : Nat) (a b c : List Value), a.length = k * sz + j → b.length = us.length → 
    (us.zipIdx j).foldl (fun (cs : Array Value) (x : Value × Nat) => cs.setIfInBounds (k * sz + x.2) x.1) (a ++ b ++ c).toArray = (a ++ us ++ c).toArray := by
   intro us
   induction us with
   | nil => intro j a b c _ hb; have : b = [] := List.eq_nil_of_length_eq_zero hb; subst this; simp
   | cons u us ih =>
    intro j a b c ha hb
    cases b with
    | nil => simp at hb
    | cons b0 b =>
     simp only [List.zipIdx_cons, List.foldl_cons]
     have e : ((a ++ b0 :: b ++ c).toArray).setIfInBounds (k * sz + j) u = ((a ++ [u]) ++ b ++ c).toArray := by
      rw [← ha]
      simp [List.set_append]
     rw [e, ih (j + 1) (a ++ [u]) b c (by simp; omega) (by simpa using hb)]
     simp
  rw [List.length_cons, List.range'_succ]
  simp only [List.zip_cons_cons, Instr.fill]
  have h1 : ¬ (v.cells.size ≠ sz) := by simpa using hsz
  have h2 : ¬ (k * sz + v.cells.size > (done ++ todo ++ rest).toArray.size) := by simp [hd, hsz]; omega
  simp only [h1, h2, decide_false, Bool.or_self, Bool.false_eq_true, if_false]
  have e2 : v.cells.zipIdx.foldl (fun (cs : Array Value) (x : Value × Nat) => cs.setIfInBounds (k * sz + x.2) x.1) (done ++ todo ++ rest).toArray = ((done ++ v.cells.toList) ++ todo.drop sz ++ rest).toArray := by
   have := hfold v.cells.toList 0 done (todo.take sz) (todo.drop sz ++ rest) (by simpa using hd) (by simp; omega)
   rw [show done ++ todo.take sz ++ (todo.drop sz ++ rest) = done ++ todo ++ rest by rw [List.append_assoc done, ← List.append_assoc (todo.take sz), List.take_append_drop, List.append_assoc], ← List.append_assoc] at this
   rw [← this, ← Array.foldl_toList, Array.toList_zipIdx]
  have e3 : (v.cells.zipIdx.foldl (fun (cs : Array Value) (x : Value × Nat) => match x with | (c, j) => cs.setIfInBounds (k * sz + j) c) (done ++ todo ++ rest).toArray) = ((done ++ v.cells.toList) ++ todo.drop sz ++ rest).toArray := e2
  rw [e3, fill_flatR sz rest vs (k + 1) (done ++ v.cells.toList) (todo.drop sz) (by simp [hd, hsz, Nat.add_mul]) (by simp; omega) (fun x hx => hv x (by simp [hx]))]
  simp

/-- []T literal: the parts stand for places 0, 1, .. -/
theorem W_lit {t e sz bytes len : Nat} {parts : Array (Nat × Operand)} {vs : List Value} {z : Value} (cs : List Value) (ho : o.op = .buildSlice t len parts) (hd : o.dst = some d) (hn : Nat.blt d F.n = true) (ht : slB C.P t e sz bytes = true)
  (hz : ((C.P.info? e).bind (·.zero)).map (·.cells.size) = some sz) (hx : evL l (parts.toList.map (·.2)) = some vs) (hi : parts.toList.map (·.1) = List.range' 0 vs.length) (hlen : vs.length = len) (hsmall : len * sz ≤ 16777216) (h0 : ¬ len * sz = 0)
  (hv : ∀ v ∈ vs, v.cells.size = sz) (hcs : vs.flatMap (·.cells.toList) = cs)
  (k : ∀ b, St C F ((d, .slice (some ⟨b, 0, none⟩) len len) :: l) (blk b cs e :: rs) K) : OpW C F l rs o K Q := fun a w r n => by
 obtain ⟨h1, ti, h2, h3, _⟩ := slB_spec ht
 obtain ⟨z, hz1, hz2⟩ := Option.map_eq_some_iff.1 hz
 obtain ⟨i, hi1, hiz⟩ := Option.bind_eq_some_iff.1 hz1
 rw [h2] at hi1
 obtain rfl := Option.some.inj hi1
 have hparts : (parts.map fun (p : Nat × Operand) => (p.1, a.eval p.2)).toList = (List.range' 0 vs.length).zip vs := by
  rw [Array.toList_map, ← hi, ← r.evL hx]
  simp [List.zip_map', Function.comp_def]
 unfold Oper.wp
 have : (execOp a.eval o).run C.P w = .ok (.value (.slice (some ⟨w.heap.size, 0, none⟩) len len)) (w.alloc (.cells cs.toArray e)) := by
  have hns : ¬ (16777216 < len * sz) := by omega
  have hf := fill_flat sz vs 0 [] ((List.range (len * sz)).map fun j => z.cells[j % z.cells.size]!) (by simp) (by simp [hlen]) hv
  simp only [List.nil_append, hcs] at hf
  have hparts' : (Array.map (fun x : Nat × Operand => match x with | (i, x) => (i, a.eval x)) parts).toList = (List.range' 0 vs.length).zip vs := hparts
  simp only [execOp, ho, Instr.buildSlice, Sem.run_bind, run_underlying h1, Result.andThen_ok, sizeOf, typeInfo, run_program, h2, Sem.run_pure, h3]
  rw [hparts']
  have hf' : Instr.fill (fun i => some (i * sz, sz)) (Array.map (fun j => z.cells[j % z.cells.size]!) (Array.range (len * sz))) ((List.range' 0 vs.length).zip vs) = some cs.toArray := by
   rw [← hf]; congr 1; apply Array.ext'; simp [Array.toList_map, Array.toList_range]
  simp [hns, h0, zeroValue, typeInfo, h2, hiz, hf', newRow]
 rw [this]
 show K (a.put o.dst _) _
 rw [hd]
 exact k _ _ _ (r.put hn _) (n.alloc cs e)

/-! ### Slices that the call itself makes and lets grow -/
/-- v is nil and cs empty, or v begins at the head of a block of its own, whose first cells are cs. -/
def ownS (T sz : Nat) (v : Value) (n : Nat) (cs : List Value) : HP := fun h => cs.length = n * sz ∧
 (((∃ b0, v = .slice b0 0 0) ∧ n = 0 ∧ h = Heap.none) ∨ ∃ b cap junk, v = .slice (some ⟨b, 0, none⟩) n cap ∧ n ≤ cap ∧ cap ≤ maxLen ∧ cap * sz ≤ (cs ++ junk).length ∧ blk b (cs ++ junk) T h)

theorem ownS.form {T sz n : Nat} {v : Value} {cs : List Value} {h : Heap} (x : ownS T sz v n cs h) : ∃ b cap, v = .slice b n cap ∧ n ≤ cap := by
 rcases x.2 with ⟨⟨b0, rfl⟩, rfl, _⟩ | ⟨b, cap, junk, rfl, hc, _⟩
 ·exact ⟨b0, 0, rfl, Nat.le_refl _⟩
 ·exact ⟨_, cap, rfl, hc⟩
/-- A slice without room. -/
theorem Weak.newNil0 {T sz : Nat} {b0 : Option Addr} {rs : List HP} : Weak rs (ownS T sz (.slice b0 0 0) 0 [] :: rs) := fun h s =>
 ⟨Heap.none.join h, ⟨Heap.none, h, ⟨by simp, .inl ⟨⟨b0, rfl⟩, rfl, rfl⟩⟩, s, Heap.disj_none h, rfl⟩, by rw [Heap.none_join]; exact Heap.Le.refl h⟩
theorem Weak.newNil {T sz : Nat} {rs : List HP} : Weak rs (ownS T sz (.slice none 0 0) 0 [] :: rs) := Weak.newNil0
/-- A literal or a made slice, from now on let grow. -/
theorem ownS.of_blk {T sz b n : Nat} {cs : List Value} (hl : cs.length = n * sz) (hn : n ≤ maxLen) : ∀ h, blk b cs T h → ownS T sz (.slice (some ⟨b, 0, none⟩) n n) n cs h := fun h x =>
 ⟨hl, .inr ⟨b, n, [], rfl, Nat.le_refl _, hn, by simpa using Nat.le_of_eq hl.symm, by simpa using x⟩⟩

/-- What is appended: how many elements, and their cells. -/
structure Src (C : Cx) (F : Fx) (rs : List HP) (sz : Nat) (x : Value) (m : Nat) (news : List Value) : Prop where
 len : Builtin.lenOf x = pure m
 cells : ∀ w, Now C F rs w → (Builtin.firstCells sz m x).run C.P w = .ok news.toArray w
 size : news.length = m * sz
 one : ∀ v ∈ news, v.oneCell' = true
theorem Src.slice {sz m c : Nat} {ad : Addr} {news : List Value} (h : Rds C F rs ad news) (hl : news.length = m * sz) (h1 : ∀ v ∈ news, v.oneCell' = true) : Src C F rs sz (.slice (some ad) m c) m news :=
 ⟨rfl, fun w n => run_firstCells_some w sz m ad m c news hl (h w n), hl, h1⟩
theorem Src.nil {sz c : Nat} : Src C F rs sz (.slice none 0 c) 0 [] := ⟨rfl, fun w n => by simp [Builtin.firstCells], by simp, fun _ h => by cases h⟩

def apB (P : Program) (e sz : Nat) : Bool := ((P.info? e).bind (·.zero)).any fun z => z.cells.size == sz
def srcB (P : Program) (t : Nat) : Bool := match P.underlying t with | some (.slice _) | some .string => true | _ => false

theorem length_zeroCells (z : Array Value) (n : Nat) : (Builtin.zeroCells z n).toList.length = n * z.size := by simp [Builtin.zeroCells]
section
variable {P : Program} {w w' : World}
theorem srcB_spec {t' : Nat} (h : srcB P t' = true) : (∃ e, P.underlying t' = some (.slice e)) ∨ P.underlying t' = some .string := by
 unfold srcB at h
 split at h
 ·rename_i e he; exact .inl ⟨e, he⟩
 ·rename_i he; exact .inr he
 ·cases h
/-- There is room. -/
theorem run_append_fit {t t' e sz n m cap ty : Nat} {base : Option Addr} {u : Value} {news : List Value} {ti : TypeInfo} (h1 : P.underlying t = some (.slice e)) (h2 : P.info? e = some ti) (h3 : ti.size = sz) (h4 : (∃ e, P.underlying t' = some (.slice e)) ∨ P.underlying t' = some .string)
  (hlen : Builtin.lenOf u = pure m) (hc : (Builtin.firstCells sz m u).run P w = .ok news.toArray w) (hroom : n + m ≤ cap)
  (hst : match base with | none => w' = w | some a => (storeCells (a.add (n * sz)) news).run P w = .ok () w') :
  (Builtin.append_ #[t, t'] ty #[.slice base n cap, u]).run P w = .ok (.slice base (n + m) cap) w' := by
 cases base with
 | none =>
  simp only at hst
  subst hst
  rcases h4 with ⟨e', h4⟩ | h4 <;> simp [Builtin.append_, run_underlying h1, run_underlying h4, sizeOf, typeInfo, h2, h3, hlen, hroom, hc]
 | some a =>
  simp only at hst
  rcases h4 with ⟨e', h4⟩ | h4 <;> simp [Builtin.append_, run_underlying h1, run_underlying h4, sizeOf, typeInfo, h2, h3, hlen, hroom, hc, hst]
/-- The next room of a slice that grows is at most five quarters of what is needed, and a little. -/
theorem nextslicecap_le54 {need old : Nat} (h : old < need) : Builtin.nextslicecap need old ≤ need + need / 4 + 512 := by
 unfold Builtin.nextslicecap
 split
 ·omega
 ·split
  ·omega
  ·rw [growBy_four]
   repeat' split
   all_goals omega
theorem growslice_fits2 {need old bytes : Nat} (h : old < need) (hb : need * bytes ≤ 140737488355328 ∨ need * bytes ≤ 200000000000000 ∧ bytes ≤ 100000) : Builtin.nextslicecap need old * bytes ≤ 281474976710656 := by
 rcases hb with hb | ⟨hb, h2⟩
 ·exact growslice_fits h hb
 ·have h1 : Builtin.nextslicecap need old * bytes ≤ (need + need / 4 + 512) * bytes := Nat.mul_le_mul_right _ (nextslicecap_le54 h)
  rw [Nat.add_mul, Nat.add_mul] at h1
  have h3 : need / 4 * bytes * 4 ≤ need * bytes := by
   rw [Nat.mul_right_comm]; exact Nat.mul_le_mul_right _ (Nat.div_mul_le_self need 4)
  omega
/-- There is none: a new block. -/
theorem run_append_new {t t' e sz n m cap ty : Nat} {base : Option Addr} {u : Value} {olds news : List Value} {ti : TypeInfo} {z : Value} (h1 : P.underlying t = some (.slice e)) (h2 : P.info? e = some ti) (h3 : ti.size = sz) (hz : ti.zero = some z) (h4 : (∃ e, P.underlying t' = some (.slice e)) ∨ P.underlying t' = some .string)
  (hlen : Builtin.lenOf u = pure m) (hc : (Builtin.firstCells sz m u).run P w.drew = .ok news.toArray w.drew) (ho : (Builtin.firstCells sz n (.slice base n cap)).run P w.drew = .ok olds.toArray w.drew) (hroom : cap < n + m) (hb : (n + m) * ti.bytes ≤ 140737488355328 ∨ (n + m) * ti.bytes ≤ 200000000000000 ∧ ti.bytes ≤ 100000) (hm : n + m ≤ maxLen) :
  (Builtin.append_ #[t, t'] ty #[.slice base n cap, u]).run P w = .ok (.slice (some ⟨w.heap.size, 0, none⟩) (n + m) (grownCap w (n + m) cap e))
   (w.drew.alloc (.cells (olds ++ news ++ (Builtin.zeroCells z.cells (grownCap w (n + m) cap e - (n + m))).toList).toArray e)) := by
 have hn : ¬ (n + m ≤ cap) := by omega
 have h63 : ¬ (9223372036854775807 < ((n : Int) + (m : Int))) := by simp only [maxLen] at hm; omega
 have h48 : ¬ (281474976710656 < Builtin.nextslicecap (n + m) cap * ti.bytes) := by
  have := growslice_fits2 hroom hb
  omega
 have hq : (Question.appendCap (n + m) cap e).forced = false := rfl
 rcases h4 with ⟨e', h4⟩ | h4 <;>
  (simp [Builtin.append_, run_underlying h1, run_underlying h4, sizeOf, typeInfo, zeroValue, h2, h3, hz, hlen, hn, h63, h48, hq, ho, hc, newRow, grownCap]; congr 2; apply Array.ext'; simp)
end

theorem run_firstCells_0 {P : Program} (sz : Nat) (b0 : Option Addr) (l c : Nat) (w : World) : (Builtin.firstCells sz 0 (.slice b0 l c)).run P w = .ok (([] : List Value).toArray) w := by
 cases b0 with
 | none => exact run_firstCells_none _ _ _ _ _
 | some a => exact run_firstCells_some w sz 0 a l c [] (by simp) (fun _ _ h => by cases h)
/-- append to a slice of the call's own. -/
theorem W_append {p q : List HP} {t t' e sz bytes n m : Nat} {x y : Operand} {v u : Value} {cs news : List Value} (ho : o.op = .call { callee := .builtin .append, args := #[x, y], argTypes := #[t, t'] }) (hd : o.dst = some d) (hn : Nat.blt d F.n = true)
  (ht : slB C.P t e sz bytes = true) (hap : apB C.P e sz = true) (ht' : srcB C.P t' = true) (hx : ev l x = some v) (hy : ev l y = some u) (hsz : Nat.blt 0 sz = true) (src : Src C F (p ++ ownS e sz v n cs :: q) sz u m news)
  (hb : (n + m) * bytes ≤ 140737488355328 ∨ (n + m) * bytes ≤ 200000000000000 ∧ bytes ≤ 100000) (hm : n + m ≤ maxLen)
  (k : ∀ v', St C F ((d, v') :: l) (p ++ ownS e sz v' (n + m) (cs ++ news) :: q) K) : OpW C F l (p ++ ownS e sz v n cs :: q) o K Q := by
 intro a w r nw
 obtain ⟨h1, ti, h2, h3, h3b⟩ := slB_spec ht
 have h4 := srcB_spec ht'
 unfold apB at hap
 obtain ⟨z, hz0, hzs⟩ : ∃ z, ((C.P.info? e).bind (·.zero)) = some z ∧ z.cells.size = sz := by
  cases hh : (C.P.info? e).bind (·.zero) with
  | none => rw [hh] at hap; cases hap
  | some z => rw [hh] at hap; exact ⟨z, rfl, by simpa using hap⟩
 have hz : ti.zero = some z := by rw [h2] at hz0; exact hz0
 have hrun : ∀ v' w', (Builtin.append_ #[t, t'] o.type #[v, u]).run C.P w = .ok v' w' → (execOp a.eval o).run C.P w = .ok (.value v') w' := fun v' w' hh => by
  simp [execOp, ho, resolve, invoke, builtin, r.ev hx, r.ev hy, hh]
 have hgo : ∀ v' w', (Builtin.append_ #[t, t'] o.type #[v, u]).run C.P w = .ok v' w' → Now C F (p ++ ownS e sz v' (n + m) (cs ++ news) :: q) w' → o.wp C.P a w K Q := fun v' w' hh nn => by
  unfold Oper.wp
  rw [hrun v' w' hh]
  show K (a.put o.dst v') w'
  rw [hd]
  exact k v' _ _ (r.put hn v') nn
 have hdrew := nw.drew (w.drawn + 1) (Nat.le_succ _)
 have nw0 := nw
 obtain ⟨hp, hs, mv⟩ := nw
 obtain ⟨c0, d0, hc0, ⟨ha, hq0, own, hqq, d1, rfl⟩, d2, rfl⟩ := Sep.append.1 hs
 obtain ⟨d3, d4⟩ := Heap.disj_join.1 d2
 have dj : ha.Disj (c0.join hq0) := Heap.disj_join.2 ⟨d3.symm, d1⟩
 have ejoin : c0.join (ha.join hq0) = ha.join (c0.join hq0) := by rw [← Heap.join_assoc, ← Heap.join_assoc, Heap.join_comm d3]
 rw [ejoin] at mv
 have back : ∀ (s : HP) a', s a' → a'.Disj (c0.join hq0) → Sep (p ++ s :: q) (a'.join (c0.join hq0)) := fun s a' ha' da => by
  obtain ⟨d5, d6⟩ := Heap.disj_join.1 da
  refine Sep.append.2 ⟨c0, a'.join hq0, hc0, ⟨a', hq0, ha', hqq, d6, rfl⟩, Heap.disj_join.2 ⟨d5.symm, d4⟩, ?_⟩
  rw [← Heap.join_assoc, ← Heap.join_assoc, Heap.join_comm d5]
 have hlen : (cs ++ news).length = (n + m) * sz := by rw [List.length_append, own.1, src.size, Nat.add_mul]
 -- a new block
 have fresh : ∀ cap base, v = .slice base n cap → cap < n + m → (∀ w, Now C F (p ++ ownS e sz v n cs :: q) w → (Builtin.firstCells sz n (.slice base n cap)).run C.P w = .ok cs.toArray w) → o.wp C.P a w K Q := by
  intro cap base hv hroom hold
  have hr := run_append_new (P := C.P) (w := w) (ty := o.type) h1 h2 h3 hz h4 src.len (src.cells _ hdrew) (hold _ hdrew) hroom (by rw [h3b]; exact hb) hm
  rw [← hv] at hr
  refine hgo _ _ hr ?_
  have hge := grownCap_ge w (n + m) cap e
  have hcm := grownCap_le_maxLen w (n + m) cap e hm
  obtain ⟨h', s', m'⟩ := hdrew
  obtain ⟨a0, b0, own0, dj0, rfl, back⟩ := Sep.take (s := ownS e sz (.slice (some ⟨w.heap.size, 0, none⟩) (n + m) (grownCap w (n + m) cap e)) (n + m) (cs ++ news)) Has.at_ s'
  have m2 := m'.le (Heap.le_join_right dj0)
  obtain ⟨djn, m3⟩ := m2.alloc (by have := nw0.ng; exact this) (.cells (cs ++ news ++ (Builtin.zeroCells z.cells (grownCap w (n + m) cap e - (n + m))).toList).toArray e)
  refine ⟨_, back _ ⟨hlen, .inr ⟨w.heap.size, _, _, rfl, hge, hcm, ?_, ⟨(0, 0), .inl rfl, rfl⟩⟩⟩ djn, m3⟩
  rw [List.length_append, hlen, length_zeroCells, hzs, ← Nat.add_mul]
  exact Nat.mul_le_mul_right _ (by omega)
 rcases own.2 with ⟨⟨b0, rfl⟩, rfl, rfl⟩ | ⟨b, cap, junk, rfl, hnc, hcm, hcl, fr, hfr, rfl⟩
 ·have hcs : cs = [] := List.eq_nil_of_length_eq_zero (by simpa using own.1)
  subst hcs
  by_cases hm0 : m = 0
  ·subst hm0
   have hnews : news = [] := List.eq_nil_of_length_eq_zero (by simpa using src.size)
   subst hnews
   refine hgo (.slice b0 0 0) w (run_append_fit (w' := w) h1 h2 h3 h4 src.len (src.cells w nw0) (Nat.le_refl _) (by cases b0 <;> rfl)) nw0
  ·exact fresh 0 b0 rfl (by omega) fun w' _ => run_firstCells_0 _ _ _ _ _
 ·have hold : ∀ w', Now C F (p ++ ownS e sz (.slice (some ⟨b, 0, none⟩) n cap) n cs :: q) w' → (Builtin.firstCells sz n (.slice (some ⟨b, 0, none⟩) n cap)).run C.P w' = .ok cs.toArray w' := by
   intro w' ⟨h2', s2', m2'⟩
   obtain ⟨a1, b1, own1, dj1, rfl, _⟩ := Sep.take (s := ownS e sz (.slice (some ⟨b, 0, none⟩) n cap) n cs) Has.at_ s2'
   rcases own1.2 with ⟨hc1, _⟩ | ⟨b2, cap2, junk2, hv2, _, _, _, fr2, _, rfl⟩
   ·obtain ⟨b1, hc1⟩ := hc1
    obtain ⟨_, rfl, _⟩ : _ ∧ n = 0 ∧ _ := by injection hc1 with e1 e2 e3; exact ⟨e1, e2, e3⟩
    have hcs : cs = [] := List.eq_nil_of_length_eq_zero (by simpa using own.1)
    subst hcs
    exact run_firstCells_0 _ _ _ _ _
   ·simp only [Value.slice.injEq, Option.some.injEq, Addr.mk.injEq] at hv2
    obtain ⟨⟨rfl, _⟩, _, rfl⟩ := hv2
    have hblk := m2'.sub b _ (Heap.le_join_left _ _ b _ (Heap.one_same _ _))
    refine run_firstCells_some w' sz n _ n cap cs own.1 fun j u' hu' => ?_
    rw [add_zero_off, Nat.zero_add, cell_of_row w' b j _ _ _ hblk]
    have hj := (List.getElem?_eq_some_iff.1 hu').1
    rw [List.getElem?_toArray, List.getElem?_append_left hj]; exact hu'
  by_cases hroom : n + m ≤ cap
  ·have hblk := mv.sub b _ (Heap.le_join_left _ _ b _ (Heap.one_same _ _))
   have hfit : 0 + n * sz + 0 + news.length ≤ (cs ++ junk).length := by
    rw [src.size]
    have := Nat.mul_le_mul_right sz hroom
    rw [Nat.add_mul] at this
    omega
   obtain ⟨w', hst, pr⟩ := run_storeCells_blk (P := C.P) (o := 0 + n * sz) news 0 (cs ++ junk) w hblk hfr hfit src.one
   refine hgo _ w' (run_append_fit (w' := w') h1 h2 h3 h4 src.len (src.cells w nw0) hroom (by show (storeCells ((⟨b, 0, none⟩ : Addr).add (n * sz)) news).run C.P w = _; rw [add_zero_off]; exact hst)) ?_
   obtain ⟨djn, m3⟩ := mv.put dj pr.os pr.tape pr.output pr.drawn pr.size pr.at_ pr.other
   have hsp : splice (cs ++ junk) (0 + n * sz + 0) news = (cs ++ news) ++ junk.drop news.length := by
    simp only [Nat.zero_add, Nat.add_zero, splice, ← own.1]
    simp [List.drop_append]
   rw [hsp] at m3 djn
   refine ⟨_, back _ _ ⟨hlen, .inr ⟨b, cap, junk.drop news.length, rfl, hroom, hcm, ?_, ⟨fr, ?_, rfl⟩⟩⟩ djn, m3⟩
   ·rw [← hsp, length_splice _ _ _ hfit]; exact hcl
   ·rw [← hsp, length_splice _ _ _ hfit]; exact hfr
  ·exact fresh cap _ rfl (by omega) hold
end
end Go.Proofs.YtcngmkjdpoiiaaaGreatDoor

/- The fifth part of the program logic: regions whose order Go leaves open: what is quiet is done first, what is loud comes alone. -/
namespace Go.Proofs.YtcngmkjdpoiiaaaGreatDoor
open Go Go.RowKit

section
variable {P : Program} {ops : Array Oper} {Q : Exit → Act → World → Prop}

/-- Does operation number j wait for number i, itself or by others? -/
def waitsN (ops : Array Oper) : Nat → Nat → Nat → Bool
 | 0, _, _ => false
 | f + 1, j, i => match ops[j]? with
  | some o => o.after.any fun e => Region.binds .any e && (Nat.beq e.on i || waitsN ops f e.on i)
  | none => false
def waits (ops : Array Oper) (j i : Nat) : Bool := waitsN ops ops.size j i
/-- What is listed waits for nothing that is not. -/
def Closed (ops : Array Oper) (listed : Array Bool) : Prop := ∀ k o, ops[k]? = some o → listed.getD k false = true → ∀ e ∈ o.after, Region.binds .any e = true → listed.getD e.on false = true
theorem Closed.waits {listed : Array Bool} (hc : Closed ops listed) : ∀ (f j i : Nat), waitsN ops f j i = true → (∀ o, ops[j]? = some o → ∀ e ∈ o.after, Region.binds .any e = true → listed.getD e.on false = true) → listed.getD i false = true
 | 0, _, _, h, _ => by cases h
 | f + 1, j, i, h, hj => by
  unfold waitsN at h
  split at h
  ·rename_i o ho
   obtain ⟨e, he, hb⟩ := Array.any_eq_true'.1 h
   simp only [Bool.and_eq_true, Bool.or_eq_true] at hb
   have hl := hj o ho e he hb.1
   rcases hb.2 with hb2 | hb2
   ·rw [← Nat.eq_of_beq_eq_true hb2]; exact hl
   ·exact hc.waits f e.on i hb2 fun o' ho' => hc e.on o' ho' hl
  ·cases h
theorem Closed.list {listed : Array Bool} (hc : Closed ops listed) {j : Nat} (hj : j ∈ Region.ready .any ops listed) : Closed ops (listed.setIfInBounds j true) := fun k o ho hk e he hb => by
 by_cases hkj : j = k
 ·subst hkj
  obtain ⟨_, o', ho', hall⟩ := mem_ready.1 hj
  rw [ho] at ho'
  obtain rfl := Option.some.inj ho'
  exact getD_set_true (hall e he hb)
 ·rw [getD_set_ne false hkj] at hk
  exact getD_set_true (hc k o ho hk e he hb)

/-- Whatever order is picked from here on; S holds behind each operation; one that starts S anew ('new') is waited for. -/
def wpAnyG (P : Program) (ops : Array Oper) (Q : Exit → Act → World → Prop) (new : Nat → Bool) (S : World → Prop) : Nat → Array Bool → Act → World → Prop
 | 0, listed, a, w => Region.ready .any ops listed = [] ∧ Q .normal a w
 | fuel + 1, listed, a, w =>
  (Region.ready .any ops listed = [] → Q .normal a w) ∧
  ∀ i ∈ Region.ready .any ops listed, wpOp P ops Q i (fun a' w' => ∃ S' : World → Prop, (new i = false → ∀ x, S' x → S x) ∧ S' w' ∧ wpAnyG P ops Q new S' fuel (listed.setIfInBounds i true) a' w') a w

theorem wpAny_of_G {new : Nat → Bool} : ∀ (fuel : Nat) (S : World → Prop) (listed : Array Bool) (a : Act) (w : World), wpAnyG P ops Q new S fuel listed a w → wpAny P .any ops Q fuel listed a w
 | 0, _, _, _, _, h => h
 | fuel + 1, S, _, _, _, h => ⟨h.1, fun i hi => wpOp_mono (fun a' w' ⟨S', _, _, h'⟩ => wpAny_of_G fuel S' _ a' w' h') (h.2 i hi)⟩

/-- What an operation yields in every world of a class, which it does not leave: a value in the very world, or a call's. -/
theorem YieldsIn.weak {S S' : World → Prop} {o : Oper} {v : Value} {a : Act} (h : YieldsIn P ops S o v a) (hs : ∀ w, S' w → S w) (hp : ∀ w, S' w → o.quietAt P a S w v → o.quietAt P a S' w v) : YieldsIn P ops S' o v a :=
 h.imp (fun ⟨x, y⟩ => ⟨x, fun w hw => hp w hw (y w (hs w hw))⟩) id

/-- One operation 'oj', apart from 'oi': whether 'oi''s value is already in its temporary makes no difference to it. -/
theorem wpOp_putG {j : Nat} {oi oj : Oper} {v : Value} {Y : Act → Prop} (hj : ops[j]? = some oj) (hap : oi.apart ops oj = true)
  (hsj : ∀ cs b, oj.op ≠ .select cs b) (hY : ∀ a, Y a → ∀ u, Y (a.put oj.dst u)) (hYd : ∀ a d, Y a → Y { a with defers := d :: a.defers })
  (hQ : ∀ c a w, Q (.panic c) (a.put oi.dst v) w → Q (.panic c) a w) {K : Act → World → Prop} {a : Act} {w : World}
  (hy : Y a) (h : wpOp P ops Q j K (a.put oi.dst v) w) :
  wpOp P ops Q j (fun a' w' => Y a' ∧ K (a'.put oi.dst v) w') a w := by
 obtain ⟨h1, h2, h3⟩ := Oper.apart_spec hap
 unfold wpOp at *
 simp only [hj] at *
 rw [wanted_put oj a oi.dst v h1] at h
 split
 ·rename_i hw
  simp only [hw, if_true] at h
  rcases h with h | ⟨hasks, hlets⟩
  case inr => exact .inr ⟨by unfold Oper.asks at *; rw [execOp_put oj hsj a oi.dst v h1] at hasks; exact hasks, hlets⟩
  refine .inl ?_
  unfold Oper.wp at *
  rw [execOp_put oj hsj a oi.dst v h1] at h
  generalize (execOp a.eval oj).run P w = r at *
  cases r with
  | ok n w' =>
   cases n <;> simp only [Oper.upon] at h ⊢
   case value u => exact ⟨hY _ hy u, by rw [← Act.put_comm a v u h2]; exact h⟩
   case skip => exact ⟨hY _ hy _, by rw [← Act.put_comm a v undef h2]; exact h⟩
   case defer d =>
    refine ⟨hY _ (hYd _ d hy) _, ?_⟩
    rw [← Act.put_comm _ v undef h2, ← Act.put_defers]
    exact h
   case enter f args =>
    refine Calls.mono h fun e w'' he => ?_
    cases e with
    | returned u => exact ⟨hY _ hy u, by rw [← Act.put_comm a v u h2]; exact he⟩
    | panicked c => exact hQ _ _ _ he
    | outgrown => exact he
   case row row args => exact Rows.mono h fun u w'' he => ⟨hY _ hy u, by rw [← Act.put_comm a v u h2]; exact he⟩
  | halt x w' =>
   cases x <;> simp only [Oper.upon] at h ⊢
   case panic u => exact hQ _ _ _ h
 ·rename_i hw
  simp only [hw] at h
  exact ⟨hY _ hy _, by rw [← Act.put_comm a v undef h2]; exact h⟩

/-- What the quiet operation keeps on yielding while others come up: in every class within S that the program may come to. -/
def Holds (P : Program) (ops : Array Oper) (S : World → Prop) (o : Oper) (v : Value) (a : Act) : Prop :=
 (Region.wanted o (yielded ops a.tmps) = true ∧ ∀ w, S w → (execOp a.eval o).run P w = .ok (.value v) w) ∨
 (Region.wanted o (yielded ops a.tmps) = false ∧ v = undef)
theorem Holds.weak {S S' : World → Prop} {o : Oper} {v : Value} {a : Act} (h : Holds P ops S o v a) (hs : ∀ w, S' w → S w) : Holds P ops S' o v a :=
 h.imp (fun ⟨x, y⟩ => ⟨x, fun w hw => y w (hs w hw)⟩) id
theorem Holds.of_same {S : World → Prop} {o : Oper} {v : Value} {a a' : Act} (hy : Holds P ops S o v a) (he : execOp a'.eval o = execOp a.eval o)
  (hw : Region.wanted o (yielded ops a'.tmps) = Region.wanted o (yielded ops a.tmps)) : Holds P ops S o v a' := by
 unfold Holds at *
 rw [he, hw]
 exact hy
theorem Holds.wpOp {S : World → Prop} {i : Nat} {o : Oper} {v : Value} {a : Act} (hi : ops[i]? = some o) (hy : Holds P ops S o v a) {K : Act → World → Prop} {w : World} (hS : S w) (h : K (a.put o.dst v) w) : wpOp P ops Q i K a w := by
 unfold Go.wpOp
 simp only [hi]
 rcases hy with ⟨hw, hv⟩ | ⟨hw, rfl⟩
 ·simp only [hw, if_true, Oper.wp, hv w hS, Oper.upon]; exact .inl h
 ·simp only [hw, Bool.false_eq_true, if_false]; exact h

/-- A quiet operation may be taken first. -/
theorem wpAnyG_first {new : Nat → Bool} {i : Nat} {oi : Oper} {v : Value} (hi : ops[i]? = some oi) (hsel : ∀ (j : Nat) (o : Oper) cs b, ops[j]? = some o → o.op ≠ .select cs b)
  (hQ : ∀ c a w, Q (.panic c) (a.put oi.dst v) w → Q (.panic c) a w) {G : (World → Prop) → Act → Prop} (gh : ∀ S a, G S a → Holds P ops S oi v a) (gs : ∀ S a a', G S a → execOp a'.eval oi = execOp a.eval oi → Region.wanted oi (yielded ops a'.tmps) = Region.wanted oi (yielded ops a.tmps) → G S a')
  (gw : ∀ S S' a, G S a → (∀ w, S' w → S w) → G S' a) (gn : (∀ j, new j = true → waits ops j i = true) ∨ ∀ S S' a, G S a → G S' a) :
  ∀ (fuel : Nat) (S : World → Prop) (listed : Array Bool) (a : Act) (w : World),
   (∀ j oj, ops[j]? = some oj → j ≠ i → listed.getD j true = false → (∀ e ∈ oj.after, Region.binds .any e = true → e.on ≠ i) → oi.apart ops oj = true) →
   Closed ops listed → i ∈ Region.ready .any ops listed → G S a → S w →
   wpAnyG P ops Q new S fuel (listed.setIfInBounds i true) (a.put oi.dst v) w → wpAnyG P ops Q new S (fuel + 1) listed a w := by
 intro fuel
 induction fuel with
 | zero =>
  intro S listed a w _ hcl hr hy hS H
  refine ⟨fun h => (by rw [h] at hr; cases hr), fun j hj => ?_⟩
  by_cases hji : j = i
  ·subst hji; exact (gh _ _ hy).wpOp hi hS ⟨S, fun _ _ h => h, hS, H⟩
  ·have := ready_mono hj hji
   rw [H.1] at this
   cases this
 | succ fuel ih =>
  intro S listed a w hfree hcl hr hy hS H
  refine ⟨fun h => (by rw [h] at hr; cases hr), fun j hj => ?_⟩
  by_cases hji : j = i
  ·subst hji; exact (gh _ _ hy).wpOp hi hS ⟨S, fun _ _ h => h, hS, H⟩
  ·have h1 := H.2 j (ready_mono hj hji)
   obtain ⟨hjun, oj, hoj, hall⟩ := mem_ready.1 hj
   have hnot : ∀ e ∈ oj.after, Region.binds .any e = true → e.on ≠ i := fun e he hb heq => by
    have h1 := hall e he hb
    have h0 := (mem_ready.1 hr).1
    rw [heq] at h1
    rcases Nat.lt_or_ge i listed.size with h' | h'
    ·simp [h'] at h0 h1; rw [h0] at h1; cases h1
    ·simp [Array.getElem?_eq_none h'] at h1
   have hap := hfree j oj hoj hji hjun hnot
   obtain ⟨_, _, h3⟩ := Oper.apart_spec hap
   have h2 := wpOp_putG (Y := fun a' => G S a') hoj hap (fun cs b => hsel j oj cs b hoj)
    (fun a' hy' u => gs _ _ _ hy' (execOp_put oi (fun cs b => hsel i oi cs b hi) a' oj.dst u h3) (wanted_put oi a' oj.dst u h3)) (fun a' d hy' => gs _ _ _ hy' rfl rfl) hQ hy h1
   have hfree' : ∀ k ok, ops[k]? = some ok → k ≠ i → (listed.setIfInBounds j true).getD k true = false →
     (∀ e ∈ ok.after, Region.binds .any e = true → e.on ≠ i) → oi.apart ops ok = true := fun k ok hk hki hun hno => by
    refine hfree k ok hk hki ?_ hno
    by_cases hjk : j = k
    ·subst hjk; exact hjun
    ·rw [getD_set_ne true hjk] at hun; exact hun
   refine wpOp_mono (fun a' w' ⟨hy', S', hs', hS', h3'⟩ => ?_) h2
   have hyn : G S' a' := by
    rcases gn with hw | hany
    ·cases hn : new j with
     | false => exact gw _ _ _ hy' (hs' hn)
     | true =>
      exfalso
      have hw := hcl.waits _ _ _ (hw j hn) fun o ho => by rw [hoj] at ho; obtain rfl := Option.some.inj ho; exact hall
      have h0 := (mem_ready.1 hr).1
      rcases Nat.lt_or_ge i listed.size with h' | h'
      ·simp [h'] at h0 hw; rw [h0] at hw; cases hw
      ·simp [Array.getElem?_eq_none h'] at hw
    ·exact hany S S' a' hy'
   refine ⟨S', hs', hS', ih S' (listed.setIfInBounds j true) a' w' hfree' (hcl.list hj) (ready_mono hr (Ne.symm hji)) hyn hS' ?_⟩
   rw [Array.setIfInBounds_comm _ _ hji]
   exact h3'

/-- The operations in the order in which they are walked: 0 what yields in any world, 1 what yields in the worlds at hand, 2 what comes alone and keeps them, 3 what comes alone and starts anew. -/
def schGo (ops : Array Oper) (all : List (Nat × Nat)) : List (Nat × Nat) → Array Bool → Bool
 | [], listed => (Region.ready .any ops listed).isEmpty
 | (i, k) :: rest, listed => (Region.ready .any ops listed).contains i &&
  (bif Nat.ble k 1 then Region.free .any ops listed i && (Nat.beq k 0 || all.all fun jk => !(Nat.beq jk.2 3) || waits ops jk.1 i) else Region.ready .any ops listed == [i]) && schGo ops all rest (listed.setIfInBounds i true)
def schB (ops : Array Oper) (order : List (Nat × Nat)) : Bool := Region.noSelect ops && Nat.beq order.length ops.size && schGo ops order order (Array.replicate ops.size false)

def wpSch (P : Program) (ops : Array Oper) (Q : Exit → Act → World → Prop) : List (Nat × Nat) → (World → Prop) → Act → World → Prop
 | [], _, a, w => Q .normal a w
 | (i, 0) :: rest, S, a, w => ∃ o v, ops[i]? = some o ∧ (∀ S', Holds P ops S' o v a) ∧ wpSch P ops Q rest S (a.put o.dst v) w
 | (i, 1) :: rest, S, a, w => ∃ o v, ops[i]? = some o ∧ Holds P ops S o v a ∧ wpSch P ops Q rest S (a.put o.dst v) w
 | (i, 2) :: rest, S, a, w => wpOp P ops Q i (fun a' w' => ∃ S' : World → Prop, (∀ x, S' x → S x) ∧ S' w' ∧ wpSch P ops Q rest S' a' w') a w
 | (i, 3) :: rest, _, a, w => wpOp P ops Q i (fun a' w' => ∃ S' : World → Prop, S' w' ∧ wpSch P ops Q rest S' a' w') a w
 | _, _, _, _ => False

def newOf (all : List (Nat × Nat)) (i : Nat) : Bool := all.any fun jk => Nat.beq jk.1 i && Nat.beq jk.2 3

theorem wpSch_sound (hs : Region.noSelect ops = true) (hQ : ∀ d v c a w, Q (.panic c) (a.put d v) w → Q (.panic c) a w) (all : List (Nat × Nat)) :
  ∀ (order : List (Nat × Nat)) (S : World → Prop) (listed : Array Bool) (a : Act) (w : World), (∀ x, x ∈ order → x ∈ all) → schGo ops all order listed = true → Closed ops listed → S w → wpSch P ops Q order S a w → wpAnyG P ops Q (newOf all) S order.length listed a w
 | [], S, listed, a, w, _, hB, _, _, h => ⟨by simpa [schGo] using hB, h⟩
 | (i, k) :: rest, S, listed, a, w, hall, hB, hcl, hS, h => by
  unfold schGo at hB
  simp only [Bool.and_eq_true] at hB
  obtain ⟨⟨hr, hk⟩, hB'⟩ := hB
  have hrest := fun x hx => hall x (List.mem_cons_of_mem _ hx)
  have hcl' := hcl.list (j := i) (by simpa using hr)
  match k, hk, h with
  | 0, hk, h =>
   obtain ⟨o, v, ho, hy, hn⟩ := h
   simp only [Nat.ble, cond_true, Bool.and_eq_true] at hk
   exact wpAnyG_first ho (Region.noSelect_spec hs) (hQ _ _) (G := fun _ a => ∀ S', Holds P ops S' o v a) (fun S a g => g S) (fun S a a' g e1 e2 S' => (g S').of_same e1 e2) (fun _ _ _ g _ => g) (.inr fun _ _ _ g => g)
    rest.length S listed a w (Region.free_spec ho hk.1) hcl (by simpa using hr) hy hS (wpSch_sound hs hQ all rest S _ _ _ hrest hB' hcl' hS hn)
  | 1, hk, h =>
   obtain ⟨o, v, ho, hy, hn⟩ := h
   simp only [Nat.ble, cond_true, Bool.and_eq_true] at hk
   have hw : ∀ j, newOf all j = true → waits ops j i = true := fun j hj => by
    unfold newOf at hj
    obtain ⟨jk, hm, he⟩ := List.any_eq_true.1 hj
    simp only [Bool.and_eq_true] at he
    have h2 := hk.2
    simp only [Bool.or_eq_true] at h2
    rcases h2 with h2 | h2
    ·cases h2
    ·have h3 := List.all_eq_true.1 h2 jk hm
     simp only [he.2, Bool.not_true, Bool.false_or] at h3
     rwa [Nat.eq_of_beq_eq_true he.1] at h3
   exact wpAnyG_first ho (Region.noSelect_spec hs) (hQ _ _) (G := fun S a => Holds P ops S o v a) (fun S a g => g) (fun S a a' g e1 e2 => g.of_same e1 e2) (fun _ _ _ g l => g.weak l) (.inl hw)
    rest.length S listed a w (Region.free_spec ho hk.1) hcl (by simpa using hr) hy hS (wpSch_sound hs hQ all rest S _ _ _ hrest hB' hcl' hS hn)
  | 2, hk, h =>
   have hk' : Region.ready .any ops listed = [i] := by simpa [Nat.ble] using hk
   refine ⟨fun h0 => (by rw [hk'] at h0; cases h0), fun j hj => ?_⟩
   rw [hk'] at hj
   obtain rfl : j = i := by simpa using hj
   exact wpOp_mono (fun a' w' ⟨S', hs', hS', hn⟩ => ⟨S', fun _ => hs', hS', wpSch_sound hs hQ all rest S' _ _ _ hrest hB' hcl' hS' hn⟩) h
  | 3, hk, h =>
   have hk' : Region.ready .any ops listed = [i] := by simpa [Nat.ble] using hk
   refine ⟨fun h0 => (by rw [hk'] at h0; cases h0), fun j hj => ?_⟩
   rw [hk'] at hj
   obtain rfl : j = i := by simpa using hj
   have hnw : newOf all j = true := by
    unfold newOf
    exact List.any_eq_true.2 ⟨(j, 3), hall _ List.mem_cons_self, by simp⟩
   exact wpOp_mono (fun a' w' ⟨S', hS', hn⟩ => ⟨S', fun hf => (by rw [hnw] at hf; cases hf), hS', wpSch_sound hs hQ all rest S' _ _ _ hrest hB' hcl' hS' hn⟩) h
  | k + 4, hk, h => exact h.elim

theorem getD_none (n k : Nat) : (Array.replicate n false).getD k false = false := by
 unfold Array.getD; split <;> simp
theorem wp_region_sch {id : Nat} {a : Act} {w : World} {S : World → Prop} (order : List (Nat × Nat)) (hm : P.follows .mixedOrders = true) (hB : schB ops order = true) (hQ : ∀ d v c a w, Q (.panic c) (a.put d v) w → Q (.panic c) a w)
  (hS : S { w with drawn := w.drawn + 1 }) (h : wpSch P ops Q order S a { w with drawn := w.drawn + 1 }) : (Code.region id ops true).wp P Q a w := by
 unfold schB at hB
 simp only [Bool.and_eq_true] at hB
 obtain ⟨⟨h1, h2⟩, h3⟩ := hB
 have h2 := Nat.eq_of_beq_eq_true h2
 refine wp_region_any hm ?_
 rw [← h2]
 refine wpAny_of_G (new := newOf order) order.length S _ _ _ (wpSch_sound h1 hQ order order S _ a _ (fun _ h => h) ?_ (fun k o _ hk => by rw [getD_none] at hk; cases hk) hS h)
 rw [h2]; exact h3
end

/-! ### The same in the judgement -/
section
variable {C : Cx} {F : Fx} {l : Env} {rs rs' : List HP} {o : Oper} {Q : Exit → Act → World → Prop} {ops : Array Oper} {d i : Nat} {v : Value} {rest : List (Nat × Nat)}

/-- A panic's end looks at no temporary. -/
def QOk (Q : Exit → Act → World → Prop) : Prop := ∀ d v c a w, Q (.panic c) (a.put d v) w → Q (.panic c) a w
theorem QOk.body {P : Program} {fn : Func} {R : Ending → World → Prop} : QOk (bodyPost P fn R) := fun d v c a w h => by
 obtain ⟨h1, h2⟩ := h
 refine ⟨?_, h2⟩
 cases d <;> exact h1
theorem QOk.then {k : Act → World → Prop} (h : QOk Q) : QOk (Exit.then k Q) := fun d v c a w x => h d v c a w x
theorem QOk.block {j : Nat} (h : QOk Q) : QOk (Exit.inBlock j Q) := fun d v c a w x => h d v c a w x

/-- The walk of a region whose order is open. -/
def StO (C : Cx) (F : Fx) (ops : Array Oper) (Q : Exit → Act → World → Prop) (order : List (Nat × Nat)) (l : Env) (rs : List HP) : Prop := St C F l rs (wpSch C.P ops Q order (Now C F rs))

theorem R_open {id : Nat} {os : List Oper} (order : List (Nat × Nat)) (hm : C.P.follows .mixedOrders = true) (hB : schB os.toArray order = true) (hQ : QOk Q) (h : StO C F os.toArray Q order l rs) : St C F l rs ((Code.region id os.toArray true).wp C.P Q) := fun a w r n =>
 wp_region_sch order hm hB hQ (n.drew _ (Nat.le_succ _)) (h a _ r (n.drew _ (Nat.le_succ _)))
theorem O_nil (h : St C F l rs (Q .normal)) : StO C F ops Q [] l rs := h
theorem O_pure (ho : ops[i]? = some o) (hw : wantedE ops l o = true) (hd : o.dst = some d) (hn : Nat.blt d F.n = true) (hv : OpP C F l o v) (k : StO C F ops Q rest ((d, v) :: l) rs) : StO C F ops Q ((i, 0) :: rest) l rs := fun a w r n =>
 ⟨o, v, ho, fun S' => .inl ⟨wanted_of r hw, fun w' _ => hv a w' r⟩, by rw [hd]; exact k _ _ (r.put hn v) n⟩
theorem O_val (ho : ops[i]? = some o) (hw : wantedE ops l o = true) (hd : o.dst = some d) (hn : Nat.blt d F.n = true) (hv : OpV C F l rs o v) (k : StO C F ops Q rest ((d, v) :: l) rs) : StO C F ops Q ((i, 1) :: rest) l rs := fun a w r n =>
 ⟨o, v, ho, .inl ⟨wanted_of r hw, fun w' hw' => hv a w' r hw'⟩, by rw [hd]; exact k _ _ (r.put hn v) n⟩
theorem O_no (ho : ops[i]? = some o) (hw : unwantedE ops l o = true) (hd : o.dst = some d) (hn : Nat.blt d F.n = true) (k : StO C F ops Q rest ((d, undef) :: l) rs) : StO C F ops Q ((i, 0) :: rest) l rs := fun a w r n =>
 ⟨o, undef, ho, fun S' => .inr ⟨unwanted_of r hw, rfl⟩, by rw [hd]; exact k _ _ (r.put hn undef) n⟩
/-- What comes alone and keeps what the worlds at hand tell: the resources behind it hold those ahead of it. -/
theorem O_keep (ho : ops[i]? = some o) (hw : wantedE ops l o = true) (h : OpW C F l rs o (fun a w => ∃ S' : World → Prop, (∀ x, S' x → Now C F rs x) ∧ S' w ∧ wpSch C.P ops Q rest S' a w) Q) : StO C F ops Q ((i, 2) :: rest) l rs := fun a w r n => by
 show wpOp C.P ops Q i _ a w
 unfold wpOp
 simp only [ho, wanted_of r hw, if_true]
 exact .inl (h a w r n)
theorem O_new (ho : ops[i]? = some o) (hw : wantedE ops l o = true) (h : OpW C F l rs o (fun a w => ∃ S' : World → Prop, S' w ∧ wpSch C.P ops Q rest S' a w) Q) : StO C F ops Q ((i, 3) :: rest) l rs := fun a w r n => by
 show wpOp C.P ops Q i _ a w
 unfold wpOp
 simp only [ho, wanted_of r hw, if_true]
 exact .inl (h a w r n)
/-- A loud operation that is not wanted. -/
theorem O_no2 (ho : ops[i]? = some o) (hw : unwantedE ops l o = true) (hd : o.dst = some d) (hn : Nat.blt d F.n = true) (k : StO C F ops Q rest ((d, undef) :: l) rs) : StO C F ops Q ((i, 2) :: rest) l rs := fun a w r n => by
 show wpOp C.P ops Q i _ a w
 unfold wpOp
 simp only [ho, unwanted_of r hw, Bool.false_eq_true, if_false]
 exact ⟨Now C F rs, fun _ h => h, n, by rw [hd]; exact k _ _ (r.put hn undef) n⟩
theorem K_keep {l2 : Env} (hw : Weak rs' rs) (k : StO C F ops Q rest l2 rs') : St C F l2 rs' (fun a w => ∃ S' : World → Prop, (∀ x, S' x → Now C F rs x) ∧ S' w ∧ wpSch C.P ops Q rest S' a w) := fun a w r n => ⟨Now C F rs', fun x nx => nx.weak hw, n, k a w r n⟩
theorem K_new {l2 : Env} (k : StO C F ops Q rest l2 rs') : St C F l2 rs' (fun a w => ∃ S' : World → Prop, S' w ∧ wpSch C.P ops Q rest S' a w) := fun a w r n => ⟨Now C F rs', n, k a w r n⟩
end
end Go.Proofs.YtcngmkjdpoiiaaaGreatDoor

/- The sixth part of the program logic: functions that only compute; equality of arrays and structs; copy, make. -/
namespace Go.Proofs.YtcngmkjdpoiiaaaGreatDoor
open Go Go.RowKit

/-- A function that computes: in every world that meets 'pre' it returns v, and all that was is as it was. -/
def SpecV (C : Cx) (f : FuncId) (args : List Value) (pre : World → Prop) (v : Value) : Prop := Spec C f args (fun w _ => pre w) [] (fun u rs => u = v ∧ rs = [])
def noPre : World → Prop := fun _ => True

theorem SpecV.mono {C : Cx} {f : FuncId} {args : List Value} {pre pre' : World → Prop} {v v' : Value} (h : SpecV C f args pre v) (hp : ∀ w, pre' w → pre w) (hv : v = v') : SpecV C f args pre' v' :=
 hv ▸ Spec.mono h (fun w _ => hp w) fun _ _ x => x

section
variable {C : Cx} {F : Fx} {l : Env} {rs rs' : List HP} {K : Act → World → Prop} {o : Oper} {Q : Exit → Act → World → Prop} {d : Nat}

theorem W_callV {xs : List Operand} {ts : Array TypeId} {f : FuncId} {vs : List Value} {v : Value} {pre : World → Prop}
  (ho : o.op = .call { callee := .value (.func f), args := xs.toArray, argTypes := ts }) (hd : o.dst = some d) (hn : Nat.blt d F.n = true) (hx : evL l xs = some vs) (hc : callable C.P f = true) (hs : SpecV C f vs pre v)
  (hp : ∀ w, Now C F rs w → pre w) (k : St C F ((d, v) :: l) rs K) : OpW C F l rs o K Q :=
 W_call ho hd hn hx hc hs (Split.nil rs) (fun w a b ha hb dj m => hp w ⟨b, hb, m.le (Heap.le_join_right dj)⟩) fun u rs1 ⟨h1, h2⟩ => by subst h1; subst h2; exact k
/-- A call through a function value. -/
theorem W_callFV {g : Operand} {xs : List Operand} {ts : Array TypeId} {f : FuncId} {fi ca args vs : List Value} {v : Value} {pre : World → Prop}
  (ho : o.op = .call { callee := .value g, args := xs.toArray, argTypes := ts }) (hg : ev l g = some (.func (.func f) fi.toArray ca.toArray)) (hd : o.dst = some d) (hn : Nat.blt d F.n = true) (hx : evL l xs = some vs) (hvs : fi ++ vs ++ ca = args) (hc : callable C.P f = true) (hs : SpecV C f args pre v)
  (hp : ∀ w, Now C F rs w → pre w) (k : St C F ((d, v) :: l) rs K) : OpW C F l rs o K Q :=
 W_callv ho hg hx hvs hc hs (Split.nil rs) (fun w a b ha hb dj m => hp w ⟨b, hb, m.le (Heap.le_join_right dj)⟩) fun u rs1 ⟨h1, h2⟩ a w r n => by
  subst h1; subst h2
  rw [hd]; exact k _ w (r.put hn _) n
/-- The end of a function that only computes. -/
theorem R_endV {fn : Func} {xs : List ResultVar} {vs : List Value} {v : Value} (hds : F.ds = []) (hf : fn.results = xs.toArray) (h : ResV C F l rs xs vs) (hv : packV vs = v) :
  St C F l rs (bodyPost C.P fn (fun e w' => ∃ u rs h', e = .returned u ∧ (u = v ∧ rs = []) ∧ Sep rs h' ∧ Move C F.w F.h w' h') .ret) :=
 R_end (post := fun u rs => u = v ∧ rs = []) hds hf h ⟨hv, rfl⟩ (Weak.nil rs)
theorem R_endV0 {fn : Func} {xs : List ResultVar} {vs : List Value} {v : Value} (hds : F.ds = []) (hf : fn.results = xs.toArray) (h : ResV C F l rs xs vs) (hv : packV vs = v) :
  St C F l rs (bodyPost C.P fn (fun e w' => ∃ u rs h', e = .returned u ∧ (u = v ∧ rs = []) ∧ Sep rs h' ∧ Move C F.w F.h w' h') .normal) :=
 R_end0 (post := fun u rs => u = v ∧ rs = []) hds hf h ⟨hv, rfl⟩ (Weak.nil rs)
end

/-! ### Equality of aggregates whose cells are whole numbers -/
def ints (k : IntKind) (xs : List Int) : List Value := xs.map (Value.int k)
theorem ints_length (k : IntKind) (xs : List Int) : (ints k xs).length = xs.length := by simp [ints]
theorem ints_at {k : IntKind} {xs : List Int} {i : Nat} (h : i < xs.length) : (ints k xs)[i]? = some (.int k (xs.getD i 0)) := by simp [ints, h, List.getD]
theorem ints_set (k : IntKind) (xs : List Int) (i : Nat) (n : Int) : (ints k xs).set i (.int k n) = ints k (xs.set i n) := by simp [ints, List.map_set]
theorem ints_one {k : IntKind} {xs : List Int} : ∀ v ∈ ints k xs, v.oneCell' = true := fun v h => by
 obtain ⟨x, _, rfl⟩ := List.mem_map.1 h; rfl
theorem ints_append (k : IntKind) (xs ys : List Int) : ints k xs ++ ints k ys = ints k (xs ++ ys) := by simp [ints]
theorem ints_take (k : IntKind) (xs : List Int) (i : Nat) : (ints k xs).take i = ints k (xs.take i) := by simp [ints]
theorem ints_drop (k : IntKind) (xs : List Int) (i : Nat) : (ints k xs).drop i = ints k (xs.drop i) := by simp [ints]
section
variable {P : Program}
theorem run_eqItems_ints {e : TypeId} {k : IntKind} (he : P.underlying e = some (.int k)) (hsc : scB P e = true) (dp : Nat) (w : World) (xs ys : List Int) : ∀ (m i : Nat), i + m = xs.length → i + m = ys.length → xs.take i = ys.take i →
  (Op.eqItems (dp + 1) e 1 (ints k xs).toArray (ints k ys).toArray (List.range' i m)).run P w = .ok (decide (xs = ys)) w
 | 0, i, hx, hy, h => by
  rw [List.take_of_length_le (by omega), List.take_of_length_le (by omega)] at h
  subst h
  simp [Op.eqItems]
 | m + 1, i, hx, hy, h => by
  have hxi : i < xs.length := by omega
  have hyi : i < ys.length := by omega
  have e1 : (part e (ints k xs).toArray (i * 1)).run P w = .ok (.int k xs[i]) w := by simp [part, run_isAgg_sc hsc, ints, hxi]
  have e2 : (part e (ints k ys).toArray (i * 1)).run P w = .ok (.int k ys[i]) w := by simp [part, run_isAgg_sc hsc, ints, hyi]
  have e3 := run_equalIn_int (P := P) w dp e k k xs[i] ys[i] he
  rw [List.range'_succ]
  simp only [Op.eqItems, Sem.run_bind, e1, e2, e3, Result.andThen_ok]
  by_cases hh : xs[i] = ys[i]
  ·have hb : (xs[i] == ys[i]) = true := by simpa using hh
   have := run_eqItems_ints he hsc dp w xs ys m (i + 1) (by omega) (by omega) (by rw [List.take_succ_eq_append_getElem hxi, List.take_succ_eq_append_getElem hyi, h, hh])
   simp only [hb, Bool.not_true, Bool.false_eq_true, if_false, this]
  ·have hb : (xs[i] == ys[i]) = false := by simpa using hh
   have hne : xs ≠ ys := fun e => hh (by subst e; rfl)
   simp [hb, hne]
end
section
variable {C : Cx} {F : Fx} {l : Env} {rs rs' : List HP} {K : Act → World → Prop} {o : Oper} {Q : Exit → Act → World → Prop} {d : Nat}
theorem run_eqArr {P : Program} {t n e : Nat} {k : IntKind} {xs ys : List Int} {w : World} (ht : P.underlying t = some (.array n e)) (he : P.underlying e = some (.int k)) (hsc : scB P e = true) (hx : xs.length = n) (hy : ys.length = n) :
  (Op.equalIn 10000 t (.agg (ints k xs).toArray) (.agg (ints k ys).toArray)).run P w = .ok (decide (xs = ys)) w := by
 obtain ⟨i, hi, hs⟩ : ∃ i, P.info? e = some i ∧ i.size = 1 := by
  unfold scB at hsc
  rw [he] at hsc
  cases h : P.info? e with
  | none => simp [h] at hsc
  | some i => exact ⟨i, rfl, by simpa [h] using hsc⟩
 rw [show (10000 : Nat) = 9999 + 1 from rfl, run_equalIn_array w 9999 _ _ ht hi, List.range_eq_range']
 have : P.cellsOf e = 1 := by simp [Program.cellsOf, hi, hs]
 rw [this]
 exact run_eqItems_ints he hsc 9998 w xs ys n 0 (by omega) (by omega) rfl
theorem P_eqArr {t t' n e : Nat} {x y : Operand} {k : IntKind} {xs ys : List Int} (ho : o.op = .binOp .eql t x y t') (hx : ev l x = some (.agg (ints k xs).toArray)) (hy : ev l y = some (.agg (ints k ys).toArray))
  (ht : C.P.underlying t = some (.array n e)) (he : C.P.underlying e = some (.int k)) (hsc : scB C.P e = true) (hg : C.P.eqGuardType C.P.depth t = false) (h1 : xs.length = n) (h2 : ys.length = n) : OpP C F l o (.bool (decide (xs = ys))) := fun a w r => by
 have := run_eqArr (w := w) ht he hsc h1 h2
 simp only [execOp, ho, r.ev hx, r.ev hy, Sem.run_bind, run_eqGuard_agg w .eql t x y _ _ hg, Result.andThen_ok, run_eql_struct, this, Sem.run_pure]
/-- A full literal of an array whose elements are one cell each. -/
theorem P_buildArr {t n e : Nat} {parts : Array (Nat × Operand)} {vs zs : List Value} (ho : o.op = .build t parts) (ht : arB C.P t n e 1 = true) (hz : zeB C.P t zs) (hzl : zs.length = n) (hx : evL l (parts.toList.map (·.2)) = some vs) (hi : parts.toList.map (·.1) = List.range' 0 vs.length) (hl : vs.length = n)
  (h1 : ∀ v ∈ vs, v.oneCell' = true) : OpP C F l o (.agg vs.toArray) := fun a w r => by
 obtain ⟨h2, h3⟩ := arB_spec ht
 unfold zeB at hz
 obtain ⟨z, hz1, hz2⟩ := Option.map_eq_some_iff.1 hz
 obtain ⟨ti, hi1, hiz⟩ := Option.bind_eq_some_iff.1 hz1
 have hparts : (Array.map (fun x : Nat × Operand => match x with | (i, x) => (i, a.eval x)) parts).toList = (List.range' 0 vs.length).zip vs := by
  rw [Array.toList_map, ← hi, ← r.evL hx]
  simp [List.zip_map', Function.comp_def]
 have hcells : ∀ v ∈ vs, v.cells = #[v] := fun v hv => by have := h1 v hv; cases v <;> first | rfl | (simp [Value.oneCell'] at this)
 have hf := fill_flat 1 vs 0 [] zs (by simp) (by omega) (fun v hv => by rw [hcells v hv]; rfl)
 have hflat : vs.flatMap (·.cells.toList) = vs := by
  clear hf hparts hx hi hl
  induction vs with
  | nil => rfl
  | cons v vs ih => rw [List.flatMap_cons, hcells v (by simp), ih (fun u hu => h1 u (by simp [hu])) (fun u hu => hcells u (by simp [hu]))]; rfl
 rw [List.nil_append, List.nil_append, hflat] at hf
 have hzc : z.cells = zs.toArray := by rw [← hz2]
 simp only [execOp, ho, Instr.build, Sem.run_bind, zeroValue, typeInfo, run_program, Result.andThen_ok, hi1, Sem.run_pure, hiz, run_underlying h2, run_size h3, hparts, hzc, hf]
/-- A literal of an array of which only the first places are told. -/
theorem P_buildArrR {t n e : Nat} {parts : Array (Nat × Operand)} {vs zs : List Value} (ho : o.op = .build t parts) (ht : arB C.P t n e 1 = true) (hz : zeB C.P t zs) (hzl : zs.length = n) (hx : evL l (parts.toList.map (·.2)) = some vs) (hi : parts.toList.map (·.1) = List.range' 0 vs.length) (hl : vs.length ≤ n)
  (h1 : ∀ v ∈ vs, v.oneCell' = true) : OpP C F l o (.agg (vs ++ zs.drop vs.length).toArray) := fun a w r => by
 obtain ⟨h2, h3⟩ := arB_spec ht
 unfold zeB at hz
 obtain ⟨z, hz1, hz2⟩ := Option.map_eq_some_iff.1 hz
 obtain ⟨ti, hi1, hiz⟩ := Option.bind_eq_some_iff.1 hz1
 have hparts : (Array.map (fun x : Nat × Operand => match x with | (i, x) => (i, a.eval x)) parts).toList = (List.range' 0 vs.length).zip vs := by
  rw [Array.toList_map, ← hi, ← r.evL hx]
  simp [List.zip_map', Function.comp_def]
 have hcells : ∀ v ∈ vs, v.cells = #[v] := fun v hv => by have := h1 v hv; cases v <;> first | rfl | (simp [Value.oneCell'] at this)
 have hf := fill_flatR 1 (zs.drop vs.length) vs 0 [] (zs.take vs.length) (by simp) (by simp; omega) (fun v hv => by rw [hcells v hv]; rfl)
 have hflat : vs.flatMap (·.cells.toList) = vs := by
  clear hf hparts hx hi hl
  induction vs with
  | nil => rfl
  | cons v vs ih => rw [List.flatMap_cons, hcells v (by simp), ih (fun u hu => h1 u (by simp [hu])) (fun u hu => hcells u (by simp [hu]))]; rfl
 rw [List.nil_append, List.nil_append, hflat, List.take_append_drop] at hf
 have hzc : z.cells = zs.toArray := by rw [← hz2]
 simp only [execOp, ho, Instr.build, Sem.run_bind, zeroValue, typeInfo, run_program, Result.andThen_ok, hi1, Sem.run_pure, hiz, run_underlying h2, run_size h3, hparts, hzc, hf]
/-- The parts of a literal are laid into its zero cells. -/
def fillL (places : List (Nat × Nat)) : List Value → List (Nat × Value) → Option (List Value)
 | cs, [] => some cs
 | cs, (i, v) :: rest => match places[i]? with
  | some (off, size) => if v.cells.size = size ∧ off + size ≤ cs.length then fillL places (splice cs off v.cells.toList) rest else none
  | none => none
theorem foldl_splice : ∀ (us : List Value) (j off : Nat) (cs : List Value), off + j + us.length ≤ cs.length → (us.zipIdx j).foldl (fun (cs : Array Value) (x : Value × Nat) => cs.setIfInBounds (off + x.2) x.1) cs.toArray = (splice cs (off + j) us).toArray
 | [], j, off, cs, _ => by rw [splice_nil]; rfl
 | u :: us, j, off, cs, h => by
  simp only [List.length_cons] at h
  simp only [List.zipIdx_cons, List.foldl_cons]
  have e : (cs.toArray).setIfInBounds (off + j) u = (cs.set (off + j) u).toArray := by simp
  rw [e, foldl_splice us (j + 1) off (cs.set (off + j) u) (by simp; omega), ← Nat.add_assoc, splice_cons cs (off + j) u us (by omega)]
theorem fill_fillL (places : List (Nat × Nat)) : ∀ (parts : List (Nat × Value)) (cs res : List Value), fillL places cs parts = some res → Instr.fill (fun i => places.toArray[i]?) cs.toArray parts = some res.toArray
 | [], cs, res, h => by
  simp only [fillL, Option.some.injEq] at h
  subst h; rfl
 | (i, v) :: rest, cs, res, h => by
  unfold fillL at h
  unfold Instr.fill
  cases hp : places[i]? with
  | none => rw [hp] at h; cases h
  | some os =>
   obtain ⟨off, size⟩ := os
   rw [hp] at h
   simp only at h
   split at h
   ·rename_i hc
    have h1 : ¬ (v.cells.size ≠ size) := by simpa using hc.1
    have h2 : ¬ (off + v.cells.size > cs.toArray.size) := by rw [hc.1]; simp; omega
    have hf := foldl_splice v.cells.toList 0 off cs (by simp [hc.1]; omega)
    rw [Nat.add_zero] at hf
    have e3 : (v.cells.zipIdx.foldl (fun (cs : Array Value) (x : Value × Nat) => match x with | (c, j) => cs.setIfInBounds (off + j) c) cs.toArray) = (splice cs off v.cells.toList).toArray := by
     rw [← hf, ← Array.foldl_toList, Array.toList_zipIdx]
    have hp' : places.toArray[i]? = some (off, size) := by simpa using hp
    simp only [hp', h1, h2, decide_false, Bool.or_self, Bool.false_eq_true, if_false, e3]
    exact fill_fillL places rest _ res h
   ·cases h
/-- Where a struct's fields lie, and how many cells they have. -/
def plB (P : Program) (s : Nat) (places : List (Nat × Nat)) : Bool := match P.underlying s with
 | some (.struct fs) => fs.toList.map (fun f => (f.offset, (P.info? f.type).map (·.size))) == places.map fun p => (p.1, some p.2)
 | _ => false
theorem run_places {P : Program} {w : World} : ∀ (fs : List Field) (places : List (Nat × Nat)), fs.map (fun f => (f.offset, (P.info? f.type).map (·.size))) = places.map (fun p => (p.1, some p.2)) →
  (fs.mapM (m := Sem) fun f => do pure (f.offset, ← sizeOf f.type)).run P w = .ok places w
 | [], places, h => by
  cases places with
  | nil => simp
  | cons => cases h
 | f :: fs, places, h => by
  cases places with
  | nil => cases h
  | cons p places =>
   simp only [List.map_cons, List.cons.injEq, Prod.mk.injEq] at h
   obtain ⟨⟨h1, h2⟩, h3⟩ := h
   obtain ⟨i, hi, hs⟩ := Option.map_eq_some_iff.1 h2
   rw [List.mapM_cons]
   simp only [Sem.run_bind, sizeOf, typeInfo, run_program, Result.andThen_ok, hi, Sem.run_pure]
   have := run_places (P := P) (w := w) fs places h3
   simp only [sizeOf, typeInfo] at this
   rw [this]
   simp [hs, h1]
theorem P_buildStruct {t : Nat} {parts : Array (Nat × Operand)} {vs zs res : List Value} {is : List Nat} {places : List (Nat × Nat)} (ho : o.op = .build t parts) (ht : plB C.P t places = true) (hz : zeB C.P t zs) (hx : evL l (parts.toList.map (·.2)) = some vs) (hi : parts.toList.map (·.1) = is)
  (hres : fillL places zs (is.zip vs) = some res) : OpP C F l o (.agg res.toArray) := fun a w r => by
 unfold plB at ht
 split at ht
 ·rename_i fs hfs
  have hpl := run_places (P := C.P) (w := w) fs.toList places (by simpa using ht)
  unfold zeB at hz
  obtain ⟨z, hz1, hz2⟩ := Option.map_eq_some_iff.1 hz
  obtain ⟨ti, hi1, hiz⟩ := Option.bind_eq_some_iff.1 hz1
  have hparts : (Array.map (fun x : Nat × Operand => match x with | (i, x) => (i, a.eval x)) parts).toList = is.zip vs := by
   rw [Array.toList_map, ← hi, ← r.evL hx]
   simp [List.zip_map', Function.comp_def]
  have hf := fill_fillL places (is.zip vs) zs res hres
  have hzc : z.cells = zs.toArray := by rw [← hz2]
  simp only [execOp, ho, Instr.build, Sem.run_bind, zeroValue, typeInfo, run_program, Result.andThen_ok, hi1, Sem.run_pure, hiz, run_underlying hfs, Array.mapM_eq_mapM_toList, Sem.run_map, hpl, hparts, hzc, hf]
 ·cases ht
/-- &a[i] at the head of a block, its elements of one cell each. -/
theorem P_ixa0 {t n e b : Nat} {x ix : Operand} {k : IntKind} {m : Int} (i : Nat) (ho : o.op = .indexAddr t x ix) (ht : arB C.P t n e 1 = true) (hx : ev l x = some (.pointer (some ⟨b, 0, none⟩))) (hi : ev l ix = some (.int k m)) (he : m = i) (hn : i < n) :
  OpP C F l o (.pointer (some ⟨b, i, none⟩)) := by
 have := P_ixa (C := C) (F := F) i ho ht hx hi he hn
 rwa [Nat.zero_add, Nat.mul_one] at this
/-- A Bool slot is decided. -/
theorem E_bool {t : Nat} {b : Bool} (h : l.get? t = some (.bool b)) (ht : b = true → St C F ((t, .bool true) :: l) rs K) (hf : b = false → St C F ((t, .bool false) :: l) rs K) : St C F l rs K := by
 cases b
 ·exact (hf rfl).env (.cons h (EnvLe.refl l))
 ·exact (ht rfl).env (.cons h (EnvLe.refl l))
theorem E_true {t : Nat} {b : Bool} (h : l.get? t = some (.bool b)) (hb : b = true) (ht : St C F ((t, .bool true) :: l) rs K) : St C F l rs K := E_bool h (fun _ => ht) (fun e => by rw [hb] at e; cases e)
theorem E_false {t : Nat} {b : Bool} (h : l.get? t = some (.bool b)) (hb : b = false) (ht : St C F ((t, .bool false) :: l) rs K) : St C F l rs K := E_bool h (fun e => by rw [hb] at e; cases e) (fun _ => ht)
/-- A slot's value is told otherwise. -/
theorem E_as {t : Nat} {v v' : Value} (h : l.get? t = some v) (e : v = v') (k : St C F ((t, v') :: l) rs K) : St C F l rs K := k.env (.cons (e ▸ h) (EnvLe.refl l))
theorem E_nat {t n : Nat} {k : IntKind} {x : Int} (h : l.get? t = some (.int k x)) (e : x = n) (hk : St C F ((t, .int k (n : Int)) :: l) rs K) : St C F l rs K := E_as h (by rw [e]) hk
/-- The cells of a row that was there. -/
def RowAt (w : World) (ad : Addr) (cs : List Value) : Prop := ∀ j v, cs[j]? = some v → w.cell? (ad.add j) = some v
theorem Rd.row {b j i : Nat} {cs : List Value} {v : Value} (hp : RowAt F.w ⟨b, j, none⟩ cs) (hf : F.h b = none) (hv : cs[i]? = some v) : Rd C F rs ⟨b, j + i * 1, none⟩ v := by
 have := hp i v hv
 rw [add_zero_off] at this
 rw [Nat.mul_one]
 exact Rd.old this hf
theorem Rds.row {b j : Nat} {cs : List Value} (hp : RowAt F.w ⟨b, j, none⟩ cs) (hf : F.h b = none) : Rds C F rs ⟨b, j, none⟩ cs := Rds.of fun i v hv => by
 have := hp i v hv
 rw [add_zero_off] at this
 exact Rd.old this hf
theorem rep_ints (k : IntKind) (n : Nat) (x : Int) : List.replicate n (Value.int k x) = ints k (List.replicate n x) := by simp [ints]
/-! ### More on slices -/
theorem V_lenOwn {t e e' sz sz' bytes n : Nat} {x : Operand} {v : Value} {cs : List Value} (m : Has rs (ownS e' sz' v n cs) (ownS e' sz' v n cs) rs) (ho : o.op = .call { callee := .builtin .len, args := #[x], argTypes := #[t] }) (ht : slB C.P t e sz bytes = true) (hx : ev l x = some v) :
  OpV C F l rs o (.int .i64 n) := fun a w r nw => by
 obtain ⟨h, hv, _⟩ := nw.has m
 obtain ⟨b, cap, rfl, _⟩ := hv.form
 exact P_len (C := C) (F := F) ho ht hx a w r
/-- copy into a block. -/
theorem W_copy {t t' e bytes b j dl dc m k T : Nat} {x y : Operand} {u : Value} {cs news : List Value} (ho : o.op = .call { callee := .builtin .copy, args := #[x, y], argTypes := #[t, t'] }) (hd : o.dst = some d) (hn : Nat.blt d F.n = true)
  (ht : slB C.P t e 1 bytes = true) (hx : ev l x = some (.slice (some ⟨b, j, none⟩) dl dc)) (hy : ev l y = some u) (hlen : Builtin.lenOf u = pure m) (hk : k = Nat.min m dl)
  (hc : ∀ w, Now C F rs w → (Builtin.firstCells 1 k u).run C.P w = .ok news.toArray w) (h1 : ∀ v ∈ news, v.oneCell' = true) (has : Has rs (blk b cs T) (blk b (splice cs j news) T) rs') (hj : j + news.length ≤ cs.length)
  (kk : St C F ((d, .int .i64 k) :: l) rs' K) : OpW C F l rs o K Q := fun a w r nw => by
 obtain ⟨h2, ti, h3, h4, _⟩ := slB_spec ht
 have m0 : Has rs (blk b cs T) (blk b cs T) rs := by obtain ⟨p, q, e, _⟩ := has; exact ⟨p, q, e, e⟩
 obtain ⟨fr, hg, hf⟩ := nw.getBlk m0
 obtain ⟨w', hr, p⟩ := run_storeCells_blk (P := C.P) (o := j) news 0 cs w hg hf (by simpa using hj) h1
 unfold Oper.wp
 have : (execOp a.eval o).run C.P w = .ok (.value (.int .i64 k)) w' := by
  have hc' := hc w nw
  rw [hk] at hc' ⊢
  simp [execOp, ho, resolve, invoke, builtin, r.ev hx, r.ev hy, Builtin.copy_, run_underlying h2, sizeOf, typeInfo, h3, h4, hlen, hc', hr, goInt]
 rw [this]
 show K (a.put o.dst _) w'
 rw [hd]
 refine kk _ w' (r.put hn _) (nw.put has (length_splice _ _ _ hj) fun fr' hg' _ => ?_)
 rw [hg] at hg'
 injection hg' with hg'
 injection hg' with _ _ e
 exact e ▸ p
/-- A row of cells that was there, nil too. -/
def Row (w : World) (base : Option Addr) (cs : List Value) : Prop := ∀ j v, cs[j]? = some v → ∃ ad, base = some ad ∧ w.cell? (ad.add j) = some v
theorem Row.cases {w : World} {base : Option Addr} {cs : List Value} (h : Row w base cs) : cs = [] ∨ ∃ b j, base = some ⟨b, j, none⟩ ∧ RowAt w ⟨b, j, none⟩ cs := by
 cases cs with
 | nil => exact .inl rfl
 | cons c cs =>
  refine .inr ?_
  obtain ⟨ad, rfl, h0⟩ := h 0 c rfl
  have hs : ad.spot = none := by
   have : ad.add 0 = ad := by simp [Addr.add]
   rw [this] at h0
   cases hsp : ad.spot with
   | none => rfl
   | some s =>
    exfalso
    simp only [World.cell?, hsp, Option.isSome_some, if_true] at h0
    split at h0 <;> cases h0
  obtain ⟨b, j, sp⟩ := ad
  simp only at hs
  subst hs
  refine ⟨b, j, rfl, fun i v hv => ?_⟩
  obtain ⟨ad, e, hc⟩ := h i v hv
  rw [Option.some.injEq] at e
  rw [e]; exact hc
theorem RowAt.row {w : World} {ad : Addr} {cs : List Value} (h : RowAt w ad cs) : Row w (some ad) cs := fun j v hv => ⟨ad, rfl, h j v hv⟩
theorem Row.nil {w : World} {base : Option Addr} : Row w base [] := fun _ _ h => by cases h
/-- In every fitting world the row is there. -/
def Rw (C : Cx) (F : Fx) (rs : List HP) (base : Option Addr) (cs : List Value) : Prop := ∀ w, Now C F rs w → Row w base cs
theorem Rw.old {base : Option Addr} {cs : List Value} (h : Row F.w base cs) (hf : ∀ ad, base = some ad → F.h ad.block = none) : Rw C F rs base cs := fun w n j v hv => by
 obtain ⟨ad, e, hc⟩ := h j v hv
 refine ⟨ad, e, ?_⟩
 have hb : (ad.add j).block = ad.block := by unfold Addr.add; split <;> rfl
 exact Rd.old (rs := rs) hc (by rw [hb]; exact hf ad e) w n
theorem Rw.part {base base' : Option Addr} {cs us : List Value} (h : Rw C F rs base cs) (hh : ∀ w, Row w base cs → Row w base' us) : Rw C F rs base' us := fun w n => hh w (h w n)
/-- x[p:q] of a row. -/
theorem Row.sliced {w : World} {base : Option Addr} {cs : List Value} {sz p q c : Nat} (h : Row w base cs) (hq : q ≤ c) (hcs : cs.length = c * sz ∨ q * sz ≤ cs.length) : Row w (if c = p then base else base.map (·.add (p * sz))) ((cs.drop (p * sz)).take ((q - p) * sz)) := fun j v hv => by
 rw [List.getElem?_take] at hv
 split at hv
 ·rename_i hj
  rw [List.getElem?_drop] at hv
  obtain ⟨ad, rfl, hc⟩ := h _ v hv
  have hne : ¬ c = p := by
   intro e; subst e
   have : (q - c) * sz = 0 := by rw [Nat.sub_eq_zero_of_le hq]; simp
   omega
  rw [if_neg hne]
  refine ⟨_, rfl, ?_⟩
  have : (ad.add (p * sz)).add j = ad.add (p * sz + j) := by
   unfold Addr.add
   by_cases h1 : p * sz = 0 <;> by_cases h2 : j = 0 <;> simp [h1, h2, Nat.add_assoc]
  rw [this]; exact hc
 ·cases hv
theorem Src.row {sz m c : Nat} {base : Option Addr} {news : List Value} (h : Rw C F rs base news) (hl : news.length = m * sz) (h1 : ∀ v ∈ news, v.oneCell' = true) : Src C F rs sz (.slice base m c) m news := by
 refine ⟨rfl, fun w n => ?_, hl, h1⟩
 rcases (h w n).cases with rfl | ⟨b, j, rfl, hr⟩
 ·cases base with
  | none => simp [Builtin.firstCells]
  | some a => exact run_firstCells_some w sz m a m c [] hl (fun _ _ h => by cases h)
 ·exact run_firstCells_some w sz m _ m c news hl hr
theorem Src.part {sz m k c : Nat} {base : Option Addr} {news : List Value} (h : Rw C F rs base news) (hl : k * sz ≤ news.length) : ∀ w, Now C F rs w → (Builtin.firstCells sz k (.slice base m c)).run C.P w = .ok (news.take (k * sz)).toArray w := fun w n => by
 rcases (h w n).cases with rfl | ⟨b, j, rfl, hr⟩
 ·have : k * sz = 0 := by simpa using hl
  cases base with
  | none => simp [Builtin.firstCells]
  | some a => rw [List.take_nil]; exact run_firstCells_some w sz k a m c [] (by rw [this]; rfl) (fun _ _ h => by cases h)
 ·refine run_firstCells_some w sz k _ m c _ (by simp; omega) fun i v hv => hr i v ?_
  rw [List.getElem?_take] at hv
  split at hv
  ·exact hv
  ·cases hv
end
end Go.Proofs.YtcngmkjdpoiiaaaGreatDoor

/- Short words for the steps that walks are made of. -/
namespace Go.Proofs.YtcngmkjdpoiiaaaGreatDoor
open Go Go.RowKit
section
variable {C : Cx} {F : Fx} {l l' l2 : Env} {rs rs' : List HP} {K : Act → World → Prop} {opa : Array Oper} {Q : Exit → Act → World → Prop} {rest : List Oper} {o : Oper} {v : Value} {d i : Nat} {rst : List (Nat × Nat)} {x y : Operand}
theorem cE (t : Nat) {v : Value} (h : l.get? t = some v) (hl : EnvLe l l') : EnvLe l ((t, v) :: l') := .cons h hl
theorem lP (h : OpP C F l o v) (hw : wantedE opa l o = true := by exact rfl) (hd : o.dst = some d := by exact rfl) (hn : Nat.blt d F.n = true := by exact rfl) (k : St C F ((d, v) :: l) rs (wpList C.P opa Q rest)) : St C F l rs (wpList C.P opa Q (o :: rest)) := L_val hw hd hn h.v k
theorem lV (h : OpV C F l rs o v) (hw : wantedE opa l o = true := by exact rfl) (hd : o.dst = some d := by exact rfl) (hn : Nat.blt d F.n = true := by exact rfl) (k : St C F ((d, v) :: l) rs (wpList C.P opa Q rest)) : St C F l rs (wpList C.P opa Q (o :: rest)) := L_val hw hd hn h k
theorem lMv (hw : wantedE opa l o = true := by exact rfl) (hd : o.dst = some d := by exact rfl) (hn : Nat.blt d F.n = true := by exact rfl) (ho : o.op = .move x := by exact rfl) (hx : ev l x = some v := by exact rfl) (k : St C F ((d, v) :: l) rs (wpList C.P opa Q rest)) : St C F l rs (wpList C.P opa Q (o :: rest)) := L_val hw hd hn (OpP.v (P_move ho hx)) k
theorem lA (hw : wantedE opa l o = true := by exact rfl) (hd : o.dst = some d := by exact rfl) (hn : Nat.blt d F.n = true := by exact rfl) (ho : o.op = .assign x := by exact rfl) (hx : ev l x = some v := by exact rfl) (k : St C F ((d, v) :: l) rs (wpList C.P opa Q rest)) : St C F l rs (wpList C.P opa Q (o :: rest)) := L_val hw hd hn (OpP.v (P_assign ho hx)) k
theorem lO (h : OpW C F l rs o (wpList C.P opa Q rest) Q) (hw : wantedE opa l o = true := by exact rfl) : St C F l rs (wpList C.P opa Q (o :: rest)) := L_op hw h
theorem lN (hw : unwantedE opa l o = true := by exact rfl) (hd : o.dst = some d := by exact rfl) (hn : Nat.blt d F.n = true := by exact rfl) (k : St C F ((d, undef) :: l) rs (wpList C.P opa Q rest)) : St C F l rs (wpList C.P opa Q (o :: rest)) := L_no hw hd hn k
theorem oP (ho : opa[i]? = some o) (h : OpP C F l o v) (hw : wantedE opa l o = true := by exact rfl) (hd : o.dst = some d := by exact rfl) (hn : Nat.blt d F.n = true := by exact rfl) (k : StO C F opa Q rst ((d, v) :: l) rs) : StO C F opa Q ((i, 0) :: rst) l rs := O_pure ho hw hd hn h k
theorem oV (ho : opa[i]? = some o) (h : OpV C F l rs o v) (hw : wantedE opa l o = true := by exact rfl) (hd : o.dst = some d := by exact rfl) (hn : Nat.blt d F.n = true := by exact rfl) (k : StO C F opa Q rst ((d, v) :: l) rs) : StO C F opa Q ((i, 1) :: rst) l rs := O_val ho hw hd hn h k
theorem pM (ho : o.op = .move x := by exact rfl) (hx : ev l x = some v := by exact rfl) : OpP C F l o v := P_move ho hx
theorem pA (ho : o.op = .assign x := by exact rfl) (hx : ev l x = some v := by exact rfl) : OpP C F l o v := P_assign ho hx
theorem pF {s f off b : Nat} (hs : flB C.P s f off = true) (ho : o.op = .fieldAddr s x f := by exact rfl) (hx : ev l x = some (.pointer (some ⟨b, 0, none⟩)) := by exact rfl) : OpP C F l o (.pointer (some ⟨b, off, none⟩)) := P_fld0 ho hs hx
theorem pG {s f off b j : Nat} (hs : flB C.P s f off = true) (ho : o.op = .fieldAddr s x f := by exact rfl) (hx : ev l x = some (.pointer (some ⟨b, j, none⟩)) := by exact rfl) : OpP C F l o (.pointer (some ⟨b, j + off, none⟩)) := P_fld ho hs hx
theorem pN {ad : Addr} (ho : o.op = .nilCheck x := by exact rfl) (hx : ev l x = some (.pointer (some ad)) := by exact rfl) : OpP C F l o (.pointer (some ad)) := P_nil ho hx
theorem pX {i : Nat} {vs : List Value} (ho : o.op = .extract x i := by exact rfl) (hx : ev l x = some (.tuple vs.toArray) := by exact rfl) (hv : vs[i]? = some v := by exact rfl) : OpP C F l o v := P_extract ho hx hv
theorem pL {t e sz bytes : Nat} {b : Option Addr} {n c : Nat} (ht : slB C.P t e sz bytes = true) (ho : o.op = .call { callee := .builtin .len, args := #[x], argTypes := #[t] } := by exact rfl) (hx : ev l x = some (.slice b n c) := by exact rfl) : OpP C F l o (.int .i64 n) := P_len ho ht hx
theorem pK {c : Operand} {b : Bool} (ho : o.op = .pick c x y := by exact rfl) (hc : ev l c = some (.bool b) := by exact rfl) (hx : ev l (if b then x else y) = some v := by exact rfl) : OpP C F l o v := P_pick ho hc hx
theorem pO {t : Nat} {b : Bool} (ho : o.op = .unOp .not t x := by exact rfl) (hx : ev l x = some (.bool b) := by exact rfl) : OpP C F l o (.bool (!b)) := P_not ho hx
theorem pLt {t t' : Nat} {k : IntKind} {m n : Int} (ho : o.op = .binOp .lss t x y t' := by exact rfl) (hx : ev l x = some (.int k m) := by exact rfl) (hy : ev l y = some (.int k n) := by exact rfl) : OpP C F l o (.bool (decide (m < n))) := P_lss ho hx hy
theorem pLe {t t' : Nat} {k : IntKind} {m n : Int} (ho : o.op = .binOp .leq t x y t' := by exact rfl) (hx : ev l x = some (.int k m) := by exact rfl) (hy : ev l y = some (.int k n) := by exact rfl) : OpP C F l o (.bool (decide (m ≤ n))) := P_leq ho hx hy
theorem pGt {t t' : Nat} {k : IntKind} {m n : Int} (ho : o.op = .binOp .gtr t x y t' := by exact rfl) (hx : ev l x = some (.int k m) := by exact rfl) (hy : ev l y = some (.int k n) := by exact rfl) : OpP C F l o (.bool (decide (n < m))) := P_gtr ho hx hy
theorem pGe {t t' : Nat} {k : IntKind} {m n : Int} (ho : o.op = .binOp .geq t x y t' := by exact rfl) (hx : ev l x = some (.int k m) := by exact rfl) (hy : ev l y = some (.int k n) := by exact rfl) : OpP C F l o (.bool (decide (n ≤ m))) := P_geq ho hx hy
theorem pEq {t t' : Nat} {k : IntKind} {m n : Int} (ho : o.op = .binOp .eql t x y t' := by exact rfl) (hx : ev l x = some (.int k m) := by exact rfl) (hy : ev l y = some (.int k n) := by exact rfl) : OpP C F l o (.bool (decide (m = n))) := P_eql ho hx hy
theorem pNe {t t' : Nat} {k : IntKind} {m n : Int} (ho : o.op = .binOp .neq t x y t' := by exact rfl) (hx : ev l x = some (.int k m) := by exact rfl) (hy : ev l y = some (.int k n) := by exact rfl) : OpP C F l o (.bool (decide (m ≠ n))) := P_neq ho hx hy
theorem vB {t b T j : Nat} {cs : List Value} (ht : scB C.P t = true) (m : Has rs (blk b cs T) (blk b cs T) rs) (ho : o.op = .load t x := by exact rfl) (hx : ev l x = some (.pointer (some ⟨b, j, none⟩)) := by exact rfl) (hv : cs[j]? = some v := by exact rfl) : OpV C F l rs o v := V_load ho hx ht (Rd.blk m hv)
theorem vG {t b T n : Nat} {cs : List Value} (ht : agB C.P t n = true) (m : Has rs (blk b cs T) (blk b cs T) rs) (ho : o.op = .load t x := by exact rfl) (hx : ev l x = some (.pointer (some ⟨b, 0, none⟩)) := by exact rfl) (hn : cs.length = n := by exact rfl) : OpV C F l rs o (.agg cs.toArray) := V_loadAgg ho hx ht (Rds.blk m) hn
theorem kT {c : Operand} {p q : Code} (hc : ev l c = some (.bool true) := by exact rfl) (k : St C F l rs (p.wp C.P Q)) : St C F l rs ((Code.cond c p q).wp C.P Q) := R_condT hc k
theorem kF {c : Operand} {p q : Code} (hc : ev l c = some (.bool false) := by exact rfl) (k : St C F l rs (q.wp C.P Q)) : St C F l rs ((Code.cond c p q).wp C.P Q) := R_condF hc k
theorem rR {id : Nat} {ops : List Oper} (h : St C F l rs (wpList C.P ops.toArray Q ops)) : St C F l rs ((Code.region id ops.toArray false).wp C.P Q) := R_region h
theorem rS {p q : Code} (h : St C F l rs (p.wp C.P (Exit.then (q.wp C.P Q) Q))) : St C F l rs ((Code.seq p q).wp C.P Q) := R_seq h
theorem rT {id : Nat} {ops : List Oper} {q : Code} (h : St C F l rs (wpList C.P ops.toArray (Exit.then (q.wp C.P Q) Q) ops)) : St C F l rs ((Code.seq (Code.region id ops.toArray false) q).wp C.P Q) := R_seq (R_region h)
theorem qT {q : Code} (h : St C F l rs (q.wp C.P Q)) : St C F l rs (Exit.then (q.wp C.P Q) Q .normal) := h
theorem lE (he : EnvLe l l') (h : St C F l' rs (Q .normal)) : St C F l rs (wpList C.P opa Q []) := L_nil (St.env he h)
theorem lQ {q : Code} (he : EnvLe l l') (h : St C F l' rs (q.wp C.P Q)) : St C F l rs (wpList C.P opa (Exit.then (q.wp C.P Q) Q) []) := L_nil (St.env he (Q_then h))
end
end Go.Proofs.YtcngmkjdpoiiaaaGreatDoor

/- Facts on the types and the functions of this seat's translation, each a closed reckoning: printed by gen.py. -/
namespace Go.Proofs.YtcngmkjdpoiiaaaGreatDoor
open Go Go.Proofs
set_option maxRecDepth 100000
/-- The program, with what its package-level variables held when the call began. -/
noncomputable abbrev cx (gl : Nat → Obj) : Cx := ⟨Tryz.prog, 5, gl⟩
theorem ty_sc_3 : scB Tryz.prog 3 = true := by kernel_rfl
theorem ty_int_3 : Tryz.prog.underlying 3 = some (.int .i64) := by kernel_rfl
theorem ty_sc_4 : scB Tryz.prog 4 = true := by kernel_rfl
theorem ty_bool_4 : Tryz.prog.underlying 4 = some .bool := by kernel_rfl
theorem ty_sc_5 : scB Tryz.prog 5 = true := by kernel_rfl
theorem ty_int_5 : Tryz.prog.underlying 5 = some (.int .u8) := by kernel_rfl
theorem ty_ze_5 : zeB Tryz.prog 5 ([.int .u8 0]) := by unfold zeB; kernel_rfl
theorem ty_sc_9 : scB Tryz.prog 9 = true := by kernel_rfl
theorem ty_str_9 : Tryz.prog.underlying 9 = some .string := by kernel_rfl
theorem ty_src_9 : srcB Tryz.prog 9 = true := by kernel_rfl
theorem ty_sc_21 : scB Tryz.prog 21 = true := by kernel_rfl
theorem ty_sc_22 : scB Tryz.prog 22 = true := by kernel_rfl
theorem ty_sl_22 : slB Tryz.prog 22 50 5 40 = true := by kernel_rfl
theorem ty_ap_22 : apB Tryz.prog 50 5 = true := by kernel_rfl
theorem ty_src_22 : srcB Tryz.prog 22 = true := by kernel_rfl
theorem ty_lz_22 : ((Tryz.prog.info? 50).bind (·.zero)).map (·.cells.size) = some 5 := by kernel_rfl
theorem ty_sc_23 : scB Tryz.prog 23 = true := by kernel_rfl
theorem ty_int_23 : Tryz.prog.underlying 23 = some (.int .u64) := by kernel_rfl
theorem ty_ag_25 : agB Tryz.prog 25 12 = true := by kernel_rfl
theorem ty_fl_25_0 : flB Tryz.prog 25 0 0 = true := by kernel_rfl
theorem ty_fl_25_3 : flB Tryz.prog 25 3 3 = true := by kernel_rfl
theorem ty_fl_25_5 : flB Tryz.prog 25 5 5 = true := by kernel_rfl
theorem ty_sc_26 : scB Tryz.prog 26 = true := by kernel_rfl
theorem ty_int_26 : Tryz.prog.underlying 26 = some (.int .u64) := by kernel_rfl
theorem ty_sc_28 : scB Tryz.prog 28 = true := by kernel_rfl
theorem ty_sl_28 : slB Tryz.prog 28 175 4 32 = true := by kernel_rfl
theorem ty_ap_28 : apB Tryz.prog 175 4 = true := by kernel_rfl
theorem ty_src_28 : srcB Tryz.prog 28 = true := by kernel_rfl
theorem ty_lz_28 : ((Tryz.prog.info? 175).bind (·.zero)).map (·.cells.size) = some 4 := by kernel_rfl
theorem ty_ag_30 : agB Tryz.prog 30 4 = true := by kernel_rfl
theorem ty_pl_30 : plB Tryz.prog 30 [(0, 1), (1, 1), (2, 1), (3, 1)] = true := by kernel_rfl
theorem ty_fl_30_0 : flB Tryz.prog 30 0 0 = true := by kernel_rfl
theorem ty_fl_30_1 : flB Tryz.prog 30 1 1 = true := by kernel_rfl
theorem ty_fl_30_2 : flB Tryz.prog 30 2 2 = true := by kernel_rfl
theorem ty_fl_30_3 : flB Tryz.prog 30 3 3 = true := by kernel_rfl
theorem ty_ze_30 : zeB Tryz.prog 30 ([.slice none 0 0, .slice none 0 0, .int .u64 0, .int .u64 0]) := by unfold zeB; kernel_rfl
theorem ty_sc_31 : scB Tryz.prog 31 = true := by kernel_rfl
theorem ty_sl_37 : slB Tryz.prog 37 55 3 24 = true := by kernel_rfl
theorem ty_ar_40 : arB Tryz.prog 40 32 5 1 = true := by kernel_rfl
theorem ty_ag_40 : agB Tryz.prog 40 32 = true := by kernel_rfl
theorem ty_un_40 : Tryz.prog.underlying 40 = some (.array 32 5) := by kernel_rfl
theorem ty_ze_40 : zeB Tryz.prog 40 (List.replicate 32 (.int .u8 0)) := by unfold zeB; kernel_rfl
theorem ty_ag_50 : agB Tryz.prog 50 5 = true := by kernel_rfl
theorem ty_pl_50 : plB Tryz.prog 50 [(0, 1), (1, 1), (2, 1), (3, 1), (4, 1)] = true := by kernel_rfl
theorem ty_fl_50_0 : flB Tryz.prog 50 0 0 = true := by kernel_rfl
theorem ty_fl_50_1 : flB Tryz.prog 50 1 1 = true := by kernel_rfl
theorem ty_fl_50_2 : flB Tryz.prog 50 2 2 = true := by kernel_rfl
theorem ty_fl_50_3 : flB Tryz.prog 50 3 3 = true := by kernel_rfl
theorem ty_fl_50_4 : flB Tryz.prog 50 4 4 = true := by kernel_rfl
theorem ty_ze_50 : zeB Tryz.prog 50 ([.int .u64 0, .int .u64 0, .int .u64 0, .int .u64 0, .bool false]) := by unfold zeB; kernel_rfl
theorem ty_sl_60 : slB Tryz.prog 60 431 3 40 = true := by kernel_rfl
theorem ty_sl_61 : slB Tryz.prog 61 433 2 16 = true := by kernel_rfl
theorem ty_ag_63 : agB Tryz.prog 63 55 = true := by kernel_rfl
theorem ty_pl_63 : plB Tryz.prog 63 [(0, 1), (1, 12), (13, 1), (14, 1), (15, 32), (47, 1), (48, 1), (49, 1), (50, 1), (51, 4)] = true := by kernel_rfl
theorem ty_fld_63_0 : fldB Tryz.prog 63 0 = some (0, 9) := by kernel_rfl
theorem ty_fl_63_0 : flB Tryz.prog 63 0 0 = true := by kernel_rfl
theorem ty_fl_63_1 : flB Tryz.prog 63 1 1 = true := by kernel_rfl
theorem ty_fl_63_2 : flB Tryz.prog 63 2 13 = true := by kernel_rfl
theorem ty_fl_63_9 : flB Tryz.prog 63 9 51 = true := by kernel_rfl
theorem ty_ze_63 : zeB Tryz.prog 63 ([.string ByteArray.empty, .int .u64 0, .int .i64 0, .int .u64 0, .int .u64 0, .int .u64 0, .int .i64 0] ++ List.replicate 8 (.int .u64 0) ++ List.replicate 32 (.int .u8 0) ++ List.replicate 6 (.slice none 0 0) ++ [.int .u64 0, .int .u64 0]) := by unfold zeB; kernel_rfl
theorem ty_ar_65 : arB Tryz.prog 65 16 5 1 = true := by kernel_rfl
theorem ty_ag_65 : agB Tryz.prog 65 16 = true := by kernel_rfl
theorem ty_un_65 : Tryz.prog.underlying 65 = some (.array 16 5) := by kernel_rfl
theorem ty_eg_65 : Tryz.prog.eqGuardType Tryz.prog.depth 65 = false := by kernel_rfl
theorem ty_ze_65 : zeB Tryz.prog 65 (List.replicate 16 (.int .u8 0)) := by unfold zeB; kernel_rfl
theorem ty_ag_67 : agB Tryz.prog 67 22 = true := by kernel_rfl
theorem ty_fl_67_0 : flB Tryz.prog 67 0 0 = true := by kernel_rfl
theorem ty_fl_67_1 : flB Tryz.prog 67 1 1 = true := by kernel_rfl
theorem ty_fl_67_2 : flB Tryz.prog 67 2 2 = true := by kernel_rfl
theorem ty_fl_67_3 : flB Tryz.prog 67 3 3 = true := by kernel_rfl
theorem ty_fl_67_4 : flB Tryz.prog 67 4 4 = true := by kernel_rfl
theorem ty_fl_67_5 : flB Tryz.prog 67 5 5 = true := by kernel_rfl
theorem ty_fl_67_6 : flB Tryz.prog 67 6 6 = true := by kernel_rfl
theorem ty_ze_67 : zeB Tryz.prog 67 ([.int .i64 0] ++ List.replicate 5 (.int .u64 0) ++ List.replicate 16 (.int .u8 0)) := by unfold zeB; kernel_rfl
theorem ty_sc_68 : scB Tryz.prog 68 = true := by kernel_rfl
theorem ty_ptr_68 : Tryz.prog.underlying 68 = some (.pointer 78) := by kernel_rfl
theorem ty_sc_69 : scB Tryz.prog 69 = true := by kernel_rfl
theorem ty_ptr_69 : Tryz.prog.underlying 69 = some (.pointer 91) := by kernel_rfl
theorem ty_sc_75 : scB Tryz.prog 75 = true := by kernel_rfl
theorem ty_map_75 : Tryz.prog.underlying 75 = some (.map 207 67) := by kernel_rfl
theorem ty_sc_76 : scB Tryz.prog 76 = true := by kernel_rfl
theorem ty_map_76 : Tryz.prog.underlying 76 = some (.map 40 207) := by kernel_rfl
theorem ty_pl_78 : plB Tryz.prog 78 [(0, 1), (1, 1), (2, 1)] = true := by kernel_rfl
theorem ty_fl_78_0 : flB Tryz.prog 78 0 0 = true := by kernel_rfl
theorem ty_fl_78_1 : flB Tryz.prog 78 1 1 = true := by kernel_rfl
theorem ty_fl_78_2 : flB Tryz.prog 78 2 2 = true := by kernel_rfl
theorem ty_ze_78 : zeB Tryz.prog 78 ([.int .i64 0, .map none, .map none]) := by unfold zeB; kernel_rfl
theorem ty_ag_80 : agB Tryz.prog 80 0 = true := by kernel_rfl
theorem ty_pl_80 : plB Tryz.prog 80 [] = true := by kernel_rfl
theorem ty_ze_80 : zeB Tryz.prog 80 ([]) := by unfold zeB; kernel_rfl
theorem ty_sc_82 : scB Tryz.prog 82 = true := by kernel_rfl
theorem ty_int_82 : Tryz.prog.underlying 82 = some (.int .u32) := by kernel_rfl
theorem ty_fl_84_0 : flB Tryz.prog 84 0 0 = true := by kernel_rfl
theorem ty_fl_86_1 : flB Tryz.prog 86 1 0 = true := by kernel_rfl
theorem ty_sc_87 : scB Tryz.prog 87 = true := by kernel_rfl
theorem ty_map_87 : Tryz.prog.underlying 87 = some (.map 26 220) := by kernel_rfl
theorem ty_sc_88 : scB Tryz.prog 88 = true := by kernel_rfl
theorem ty_map_88 : Tryz.prog.underlying 88 = some (.map 307 80) := by kernel_rfl
theorem ty_sc_89 : scB Tryz.prog 89 = true := by kernel_rfl
theorem ty_map_89 : Tryz.prog.underlying 89 = some (.map 26 309) := by kernel_rfl
theorem ty_pl_91 : plB Tryz.prog 91 [(0, 2), (2, 1), (3, 1), (4, 1)] = true := by kernel_rfl
theorem ty_fl_91_0 : flB Tryz.prog 91 0 0 = true := by kernel_rfl
theorem ty_fl_91_1 : flB Tryz.prog 91 1 2 = true := by kernel_rfl
theorem ty_fl_91_2 : flB Tryz.prog 91 2 3 = true := by kernel_rfl
theorem ty_fl_91_3 : flB Tryz.prog 91 3 4 = true := by kernel_rfl
theorem ty_ze_91 : zeB Tryz.prog 91 ([.int .i32 0, .int .u32 0, .map none, .map none, .map none]) := by unfold zeB; kernel_rfl
theorem ty_sc_92 : scB Tryz.prog 92 = true := by kernel_rfl
theorem ty_sl_92 : slB Tryz.prog 92 67 22 64 = true := by kernel_rfl
theorem ty_ap_92 : apB Tryz.prog 67 22 = true := by kernel_rfl
theorem ty_src_92 : srcB Tryz.prog 92 = true := by kernel_rfl
theorem ty_lz_92 : ((Tryz.prog.info? 67).bind (·.zero)).map (·.cells.size) = some 22 := by kernel_rfl
theorem ty_sc_95 : scB Tryz.prog 95 = true := by kernel_rfl
theorem ty_sl_95 : slB Tryz.prog 95 63 55 320 = true := by kernel_rfl
theorem ty_lz_95 : ((Tryz.prog.info? 63).bind (·.zero)).map (·.cells.size) = some 55 := by kernel_rfl
theorem ty_sc_96 : scB Tryz.prog 96 = true := by kernel_rfl
theorem ty_sl_96 : slB Tryz.prog 96 110 58 128 = true := by kernel_rfl
theorem ty_ag_98 : agB Tryz.prog 98 3 = true := by kernel_rfl
theorem ty_fl_98_0 : flB Tryz.prog 98 0 0 = true := by kernel_rfl
theorem ty_fl_98_1 : flB Tryz.prog 98 1 1 = true := by kernel_rfl
theorem ty_fl_98_2 : flB Tryz.prog 98 2 2 = true := by kernel_rfl
theorem ty_sc_104 : scB Tryz.prog 104 = true := by kernel_rfl
theorem ty_sl_104 : slB Tryz.prog 104 220 1 8 = true := by kernel_rfl
theorem ty_ap_104 : apB Tryz.prog 220 1 = true := by kernel_rfl
theorem ty_src_104 : srcB Tryz.prog 104 = true := by kernel_rfl
theorem ty_lz_104 : ((Tryz.prog.info? 220).bind (·.zero)).map (·.cells.size) = some 1 := by kernel_rfl
theorem ty_ag_110 : agB Tryz.prog 110 58 = true := by kernel_rfl
theorem ty_fl_110_0 : flB Tryz.prog 110 0 0 = true := by kernel_rfl
theorem ty_fl_110_1 : flB Tryz.prog 110 1 1 = true := by kernel_rfl
theorem ty_fl_110_5 : flB Tryz.prog 110 5 57 = true := by kernel_rfl
theorem ty_ze_110 : zeB Tryz.prog 110 ([.int .i64 0, .int .i64 0] ++ List.replicate 5 (.int .u64 0) ++ List.replicate 16 (.int .u8 0) ++ [.int .i64 0] ++ List.replicate 32 (.int .u8 0) ++ [.int .i64 0, .int .u64 0]) := by unfold zeB; kernel_rfl
theorem ty_sc_116 : scB Tryz.prog 116 = true := by kernel_rfl
theorem ty_sc_126 : scB Tryz.prog 126 = true := by kernel_rfl
theorem ty_sl_126 : slB Tryz.prog 126 92 1 24 = true := by kernel_rfl
theorem ty_ap_126 : apB Tryz.prog 92 1 = true := by kernel_rfl
theorem ty_src_126 : srcB Tryz.prog 126 = true := by kernel_rfl
theorem ty_lz_126 : ((Tryz.prog.info? 92).bind (·.zero)).map (·.cells.size) = some 1 := by kernel_rfl
theorem ty_pl_135 : plB Tryz.prog 135 [(0, 1), (1, 1), (2, 1), (3, 1), (4, 1)] = true := by kernel_rfl
theorem ty_fl_135_0 : flB Tryz.prog 135 0 0 = true := by kernel_rfl
theorem ty_fl_135_1 : flB Tryz.prog 135 1 1 = true := by kernel_rfl
theorem ty_fl_135_2 : flB Tryz.prog 135 2 2 = true := by kernel_rfl
theorem ty_fl_135_3 : flB Tryz.prog 135 3 3 = true := by kernel_rfl
theorem ty_fl_135_4 : flB Tryz.prog 135 4 4 = true := by kernel_rfl
theorem ty_ze_135 : zeB Tryz.prog 135 ([.pointer none, .pointer none, .slice none 0 0, .slice none 0 0, .int .i64 0]) := by unfold zeB; kernel_rfl
theorem ty_ag_169 : agB Tryz.prog 169 2 = true := by kernel_rfl
theorem ty_pl_169 : plB Tryz.prog 169 [(0, 1), (1, 1)] = true := by kernel_rfl
theorem ty_fl_169_0 : flB Tryz.prog 169 0 0 = true := by kernel_rfl
theorem ty_fl_169_1 : flB Tryz.prog 169 1 1 = true := by kernel_rfl
theorem ty_ze_169 : zeB Tryz.prog 169 ([.int .u64 0, .int .u64 0]) := by unfold zeB; kernel_rfl
theorem ty_ag_175 : agB Tryz.prog 175 4 = true := by kernel_rfl
theorem ty_pl_175 : plB Tryz.prog 175 [(0, 1), (1, 1), (2, 1), (3, 1)] = true := by kernel_rfl
theorem ty_fl_175_0 : flB Tryz.prog 175 0 0 = true := by kernel_rfl
theorem ty_fl_175_1 : flB Tryz.prog 175 1 1 = true := by kernel_rfl
theorem ty_fl_175_2 : flB Tryz.prog 175 2 2 = true := by kernel_rfl
theorem ty_fl_175_3 : flB Tryz.prog 175 3 3 = true := by kernel_rfl
theorem ty_ze_175 : zeB Tryz.prog 175 ([.int .u64 0, .int .u64 0, .int .u64 0, .int .u64 0]) := by unfold zeB; kernel_rfl
theorem ty_sl_195 : slB Tryz.prog 195 198 1 24 = true := by kernel_rfl
theorem ty_lz_195 : ((Tryz.prog.info? 198).bind (·.zero)).map (·.cells.size) = some 1 := by kernel_rfl
theorem ty_sc_198 : scB Tryz.prog 198 = true := by kernel_rfl
theorem ty_sl_198 : slB Tryz.prog 198 5 1 1 = true := by kernel_rfl
theorem ty_ap_198 : apB Tryz.prog 5 1 = true := by kernel_rfl
theorem ty_src_198 : srcB Tryz.prog 198 = true := by kernel_rfl
theorem ty_lz_198 : ((Tryz.prog.info? 5).bind (·.zero)).map (·.cells.size) = some 1 := by kernel_rfl
theorem ty_sl_200 : slB Tryz.prog 200 3 1 8 = true := by kernel_rfl
theorem ty_lz_200 : ((Tryz.prog.info? 3).bind (·.zero)).map (·.cells.size) = some 1 := by kernel_rfl
theorem ty_ag_207 : agB Tryz.prog 207 2 = true := by kernel_rfl
theorem ty_pl_207 : plB Tryz.prog 207 [(0, 1), (1, 1)] = true := by kernel_rfl
theorem ty_fl_207_0 : flB Tryz.prog 207 0 0 = true := by kernel_rfl
theorem ty_fl_207_1 : flB Tryz.prog 207 1 1 = true := by kernel_rfl
theorem ty_ze_207 : zeB Tryz.prog 207 ([.int .u64 0, .int .u64 0]) := by unfold zeB; kernel_rfl
theorem ty_sc_220 : scB Tryz.prog 220 = true := by kernel_rfl
theorem ty_ptr_220 : Tryz.prog.underlying 220 = some (.pointer 305) := by kernel_rfl
theorem ty_int_271 : Tryz.prog.underlying 271 = some (.int .u64) := by kernel_rfl
theorem ty_ptr_272 : Tryz.prog.underlying 272 = some (.pointer 343) := by kernel_rfl
theorem ty_ag_285 : agB Tryz.prog 285 8 = true := by kernel_rfl
theorem ty_un_285 : Tryz.prog.underlying 285 = some (.array 8 82) := by kernel_rfl
theorem ty_map_292 : Tryz.prog.underlying 292 = some (.map 26 67) := by kernel_rfl
theorem ty_pl_294 : plB Tryz.prog 294 [(0, 1), (1, 1)] = true := by kernel_rfl
theorem ty_fl_294_0 : flB Tryz.prog 294 0 0 = true := by kernel_rfl
theorem ty_fl_294_1 : flB Tryz.prog 294 1 1 = true := by kernel_rfl
theorem ty_ze_294 : zeB Tryz.prog 294 ([.slice none 0 0, .nilFunc]) := by unfold zeB; kernel_rfl
theorem ty_map_295 : Tryz.prog.underlying 295 = some (.map 26 23) := by kernel_rfl
theorem ty_pl_305 : plB Tryz.prog 305 [(0, 1), (1, 1)] = true := by kernel_rfl
theorem ty_fl_305_0 : flB Tryz.prog 305 0 0 = true := by kernel_rfl
theorem ty_fl_305_1 : flB Tryz.prog 305 1 1 = true := by kernel_rfl
theorem ty_ze_305 : zeB Tryz.prog 305 ([.pointer none, .int .u64 0]) := by unfold zeB; kernel_rfl
theorem ty_ag_307 : agB Tryz.prog 307 2 = true := by kernel_rfl
theorem ty_pl_307 : plB Tryz.prog 307 [(0, 1), (1, 1)] = true := by kernel_rfl
theorem ty_fl_307_1 : flB Tryz.prog 307 1 1 = true := by kernel_rfl
theorem ty_ze_307 : zeB Tryz.prog 307 ([.int .u64 0, .string ByteArray.empty]) := by unfold zeB; kernel_rfl
theorem ty_sl_309 : slB Tryz.prog 309 9 1 16 = true := by kernel_rfl
theorem ty_ap_309 : apB Tryz.prog 9 1 = true := by kernel_rfl
theorem ty_src_309 : srcB Tryz.prog 309 = true := by kernel_rfl
theorem ty_lz_309 : ((Tryz.prog.info? 9).bind (·.zero)).map (·.cells.size) = some 1 := by kernel_rfl
theorem ty_pl_343 : plB Tryz.prog 343 [(0, 1), (1, 1), (2, 1)] = true := by kernel_rfl
theorem ty_fl_343_0 : flB Tryz.prog 343 0 0 = true := by kernel_rfl
theorem ty_fl_343_1 : flB Tryz.prog 343 1 1 = true := by kernel_rfl
theorem ty_fl_343_2 : flB Tryz.prog 343 2 2 = true := by kernel_rfl
theorem ty_ze_343 : zeB Tryz.prog 343 ([.bool false, .slice none 0 0, .int .i64 0]) := by unfold zeB; kernel_rfl
theorem ty_ar_352 : arB Tryz.prog 352 64 82 1 = true := by kernel_rfl
theorem ty_un_352 : Tryz.prog.underlying 352 = some (.array 64 82) := by kernel_rfl
theorem ty_ze_352 : zeB Tryz.prog 352 (List.replicate 64 (.int .u32 0)) := by unfold zeB; kernel_rfl
theorem ty_ar_373 : arB Tryz.prog 373 5 23 1 = true := by kernel_rfl
theorem ty_ze_373 : zeB Tryz.prog 373 (List.replicate 5 (.int .u64 0)) := by unfold zeB; kernel_rfl
theorem ty_ptr_383 : Tryz.prog.underlying 383 = some (.pointer 406) := by kernel_rfl
theorem ty_sl_387 : slB Tryz.prog 387 31 1 8 = true := by kernel_rfl
theorem ty_lz_387 : ((Tryz.prog.info? 31).bind (·.zero)).map (·.cells.size) = some 1 := by kernel_rfl
theorem ty_ptr_388 : Tryz.prog.underlying 388 = some (.pointer 84) := by kernel_rfl
theorem ty_ar_403 : arB Tryz.prog 403 8 82 1 = true := by kernel_rfl
theorem ty_ag_403 : agB Tryz.prog 403 8 = true := by kernel_rfl
theorem ty_ze_403 : zeB Tryz.prog 403 (List.replicate 8 (.int .u32 0)) := by unfold zeB; kernel_rfl
theorem ty_ar_404 : arB Tryz.prog 404 64 5 1 = true := by kernel_rfl
theorem ty_ag_404 : agB Tryz.prog 404 64 = true := by kernel_rfl
theorem ty_ag_406 : agB Tryz.prog 406 75 = true := by kernel_rfl
theorem ty_pl_406 : plB Tryz.prog 406 [(0, 1), (1, 8), (9, 64), (73, 1), (74, 1)] = true := by kernel_rfl
theorem ty_fl_406_0 : flB Tryz.prog 406 0 0 = true := by kernel_rfl
theorem ty_fl_406_1 : flB Tryz.prog 406 1 1 = true := by kernel_rfl
theorem ty_fl_406_2 : flB Tryz.prog 406 2 9 = true := by kernel_rfl
theorem ty_fl_406_3 : flB Tryz.prog 406 3 73 = true := by kernel_rfl
theorem ty_fl_406_4 : flB Tryz.prog 406 4 74 = true := by kernel_rfl
theorem ty_ze_406 : zeB Tryz.prog 406 ([.bool false] ++ List.replicate 8 (.int .u32 0) ++ List.replicate 64 (.int .u8 0) ++ [.int .i64 0, .int .u64 0]) := by unfold zeB; kernel_rfl
theorem ty_ar_408 : arB Tryz.prog 408 8 5 1 = true := by kernel_rfl
theorem ty_ze_408 : zeB Tryz.prog 408 (List.replicate 8 (.int .u8 0)) := by unfold zeB; kernel_rfl
theorem ty_zv_23 : (Tryz.prog.info? 23).bind (·.zero) = some (.int .u64 0) := by kernel_rfl
theorem ty_zv_67 : (Tryz.prog.info? 67).bind (·.zero) = some (.agg #[.int .i64 0, .int .u64 0, .int .u64 0, .int .u64 0, .int .u64 0, .int .u64 0, .int .u8 0, .int .u8 0, .int .u8 0, .int .u8 0, .int .u8 0, .int .u8 0, .int .u8 0, .int .u8 0, .int .u8 0, .int .u8 0, .int .u8 0, .int .u8 0, .int .u8 0, .int .u8 0, .int .u8 0, .int .u8 0]) := by kernel_rfl
theorem ty_zv_80 : (Tryz.prog.info? 80).bind (·.zero) = some (.agg #[]) := by kernel_rfl
theorem ty_zv_207 : (Tryz.prog.info? 207).bind (·.zero) = some (.agg #[.int .u64 0, .int .u64 0]) := by kernel_rfl
theorem ty_zv_220 : (Tryz.prog.info? 220).bind (·.zero) = some (.pointer none) := by kernel_rfl
theorem ty_zv_309 : (Tryz.prog.info? 309).bind (·.zero) = some (.slice none 0 0) := by kernel_rfl
theorem fn_ca_19 : callable Tryz.prog 19 = true := by kernel_rfl
theorem fn_ca_31 : callable Tryz.prog 31 = true := by kernel_rfl
theorem fn_ca_32 : callable Tryz.prog 32 = true := by kernel_rfl
theorem fn_ca_33 : callable Tryz.prog 33 = true := by kernel_rfl
theorem fn_ca_35 : callable Tryz.prog 35 = true := by kernel_rfl
theorem fn_ca_36 : callable Tryz.prog 36 = true := by kernel_rfl
theorem fn_ca_39 : callable Tryz.prog 39 = true := by kernel_rfl
theorem fn_ca_45 : callable Tryz.prog 45 = true := by kernel_rfl
theorem fn_ca_47 : callable Tryz.prog 47 = true := by kernel_rfl
theorem fn_ca_57 : callable Tryz.prog 57 = true := by kernel_rfl
theorem fn_ca_58 : callable Tryz.prog 58 = true := by kernel_rfl
theorem fn_ca_59 : callable Tryz.prog 59 = true := by kernel_rfl
theorem fn_ca_67 : callable Tryz.prog 67 = true := by kernel_rfl
theorem fn_ca_69 : callable Tryz.prog 69 = true := by kernel_rfl
theorem fn_ca_70 : callable Tryz.prog 70 = true := by kernel_rfl
theorem fn_ca_73 : callable Tryz.prog 73 = true := by kernel_rfl
theorem fn_ca_74 : callable Tryz.prog 74 = true := by kernel_rfl
theorem fn_ca_75 : callable Tryz.prog 75 = true := by kernel_rfl
theorem fn_ca_78 : callable Tryz.prog 78 = true := by kernel_rfl
theorem fn_ca_79 : callable Tryz.prog 79 = true := by kernel_rfl
theorem fn_ca_80 : callable Tryz.prog 80 = true := by kernel_rfl
theorem fn_ca_81 : callable Tryz.prog 81 = true := by kernel_rfl
theorem fn_ca_82 : callable Tryz.prog 82 = true := by kernel_rfl
theorem fn_ca_83 : callable Tryz.prog 83 = true := by kernel_rfl
theorem fn_ca_93 : callable Tryz.prog 93 = true := by kernel_rfl
theorem fn_ca_94 : callable Tryz.prog 94 = true := by kernel_rfl
theorem fn_ca_95 : callable Tryz.prog 95 = true := by kernel_rfl
theorem fn_ca_99 : callable Tryz.prog 99 = true := by kernel_rfl
theorem fn_ca_108 : callable Tryz.prog 108 = true := by kernel_rfl
theorem fn_ca_109 : callable Tryz.prog 109 = true := by kernel_rfl
theorem fn_ca_110 : callable Tryz.prog 110 = true := by kernel_rfl
theorem fn_ca_111 : callable Tryz.prog 111 = true := by kernel_rfl
theorem fn_ca_112 : callable Tryz.prog 112 = true := by kernel_rfl
theorem fn_ca_113 : callable Tryz.prog 113 = true := by kernel_rfl
theorem fn_ca_114 : callable Tryz.prog 114 = true := by kernel_rfl
theorem fn_ca_115 : callable Tryz.prog 115 = true := by kernel_rfl
theorem fn_ca_116 : callable Tryz.prog 116 = true := by kernel_rfl
theorem fn_ca_117 : callable Tryz.prog 117 = true := by kernel_rfl
theorem fn_ca_118 : callable Tryz.prog 118 = true := by kernel_rfl
theorem fn_ca_119 : callable Tryz.prog 119 = true := by kernel_rfl
theorem fn_ca_125 : callable Tryz.prog 125 = true := by kernel_rfl
theorem fn_ca_141 : callable Tryz.prog 141 = true := by kernel_rfl
theorem fn_ca_142 : callable Tryz.prog 142 = true := by kernel_rfl
theorem fn_ca_144 : callable Tryz.prog 144 = true := by kernel_rfl
theorem fn_ca_145 : callable Tryz.prog 145 = true := by kernel_rfl
theorem fn_ca_146 : callable Tryz.prog 146 = true := by kernel_rfl
theorem fn_ca_147 : callable Tryz.prog 147 = true := by kernel_rfl
theorem fn_ca_152 : callable Tryz.prog 152 = true := by kernel_rfl
theorem fn_ca_153 : callable Tryz.prog 153 = true := by kernel_rfl
theorem fn_ca_154 : callable Tryz.prog 154 = true := by kernel_rfl
theorem fn_ca_155 : callable Tryz.prog 155 = true := by kernel_rfl
theorem fn_ca_156 : callable Tryz.prog 156 = true := by kernel_rfl
theorem fn_ca_157 : callable Tryz.prog 157 = true := by kernel_rfl
theorem fn_ca_158 : callable Tryz.prog 158 = true := by kernel_rfl
theorem fn_ca_159 : callable Tryz.prog 159 = true := by kernel_rfl
theorem fn_ca_160 : callable Tryz.prog 160 = true := by kernel_rfl
theorem fn_ca_161 : callable Tryz.prog 161 = true := by kernel_rfl
theorem fn_ca_162 : callable Tryz.prog 162 = true := by kernel_rfl
theorem fn_ca_164 : callable Tryz.prog 164 = true := by kernel_rfl
theorem fn_ca_168 : callable Tryz.prog 168 = true := by kernel_rfl
theorem fn_ca_169 : callable Tryz.prog 169 = true := by kernel_rfl
theorem fn_ca_172 : callable Tryz.prog 172 = true := by kernel_rfl
theorem fn_ca_174 : callable Tryz.prog 174 = true := by kernel_rfl
theorem fn_ca_175 : callable Tryz.prog 175 = true := by kernel_rfl
theorem fn_ca_176 : callable Tryz.prog 176 = true := by kernel_rfl
theorem fn_ca_177 : callable Tryz.prog 177 = true := by kernel_rfl
theorem fn_ca_189 : callable Tryz.prog 189 = true := by kernel_rfl
theorem fn_ca_190 : callable Tryz.prog 190 = true := by kernel_rfl
theorem fn_ca_191 : callable Tryz.prog 191 = true := by kernel_rfl
theorem fn_ca_195 : callable Tryz.prog 195 = true := by kernel_rfl
theorem fn_ca_196 : callable Tryz.prog 196 = true := by kernel_rfl
theorem fn_ca_197 : callable Tryz.prog 197 = true := by kernel_rfl
theorem fn_ca_207 : callable Tryz.prog 207 = true := by kernel_rfl
theorem fn_ca_208 : callable Tryz.prog 208 = true := by kernel_rfl
theorem fn_ca_209 : callable Tryz.prog 209 = true := by kernel_rfl
theorem fn_ca_210 : callable Tryz.prog 210 = true := by kernel_rfl
theorem fn_ca_211 : callable Tryz.prog 211 = true := by kernel_rfl
theorem fn_ca_212 : callable Tryz.prog 212 = true := by kernel_rfl
theorem fn_ca_213 : callable Tryz.prog 213 = true := by kernel_rfl
theorem fn_ca_216 : callable Tryz.prog 216 = true := by kernel_rfl
theorem fn_ca_233 : callable Tryz.prog 233 = true := by kernel_rfl
theorem fn_ca_234 : callable Tryz.prog 234 = true := by kernel_rfl
theorem fn_ca_246 : callable Tryz.prog 246 = true := by kernel_rfl
theorem fn_ca_247 : callable Tryz.prog 247 = true := by kernel_rfl
theorem fn_ca_248 : callable Tryz.prog 248 = true := by kernel_rfl
theorem fn_ca_249 : callable Tryz.prog 249 = true := by kernel_rfl
theorem fn_ca_254 : callable Tryz.prog 254 = true := by kernel_rfl
theorem fn_ca_255 : callable Tryz.prog 255 = true := by kernel_rfl
theorem fn_ca_266 : callable Tryz.prog 266 = true := by kernel_rfl
theorem fn_ca_267 : callable Tryz.prog 267 = true := by kernel_rfl
theorem fn_ca_268 : callable Tryz.prog 268 = true := by kernel_rfl
theorem fn_ca_269 : callable Tryz.prog 269 = true := by kernel_rfl
theorem fn_ca_270 : callable Tryz.prog 270 = true := by kernel_rfl
theorem fn_ca_271 : callable Tryz.prog 271 = true := by kernel_rfl
theorem fn_ca_280 : callable Tryz.prog 280 = true := by kernel_rfl
theorem fn_ca_281 : callable Tryz.prog 281 = true := by kernel_rfl
theorem fn_ca_282 : callable Tryz.prog 282 = true := by kernel_rfl
theorem fn_ca_283 : callable Tryz.prog 283 = true := by kernel_rfl
theorem fn_ca_298 : callable Tryz.prog 298 = true := by kernel_rfl
theorem fn_ca_299 : callable Tryz.prog 299 = true := by kernel_rfl
theorem fn_ca_304 : callable Tryz.prog 304 = true := by kernel_rfl
theorem fn_ca_305 : callable Tryz.prog 305 = true := by kernel_rfl
theorem fn_ca_306 : callable Tryz.prog 306 = true := by kernel_rfl
theorem fn_ca_317 : callable Tryz.prog 317 = true := by kernel_rfl
theorem mixed : Tryz.prog.follows .mixedOrders = true := by kernel_rfl
end Go.Proofs.YtcngmkjdpoiiaaaGreatDoor

/- Walks: rotations and splits. Printed by gen.py. -/
set_option maxRecDepth 100000
namespace Go.Proofs.YtcngmkjdpoiiaaaGreatDoor
open Go Go.RowKit Go.Proofs
theorem bitI_nn {op : BinOp} {k : IntKind} (hk : k.signed = false) (a b : Int) : 0 ≤ bitI op k a b := by
 unfold bitI
 cases k <;> simp [IntKind.signed] at hk <;> cases op <;> simp [IntKind.wrap, IntKind.signed, IntKind.bits] <;> omega
theorem wrap_nn {k : IntKind} (hk : k.signed = false) (a : Int) : 0 ≤ k.wrap a := by
 cases k <;> simp [IntKind.signed] at hk <;> simp [IntKind.wrap, IntKind.signed, IntKind.bits] <;> omega
def rotS (k : Int) : Int := bitI .and .u64 (IntKind.u64.wrap k) 31
/-- math/bits.RotateLeft32 -/
def rotlI (x k : Int) : Int := bitI .or .u32 (shlI .u32 x (rotS k)) (shrI .u32 x (IntKind.u64.wrap (32 - rotS k)))
/-- the reference's turn -/
def turnI (x n : Int) : Int := bitI .or .u32 (shrI .u32 x n) (shlI .u32 x (IntKind.u64.wrap (32 - n)))
theorem rotl_ok (gl : Nat → Obj) (x k : Int) : SpecV (cx gl) 317 [.int .u32 x, .int .i64 k] noPre (.int .u32 (rotlI x k)) := by
 refine Spec.enter (C := cx gl) Tryz.func317 rfl 17 rfl rfl fun w0 h0 hsep hsub hpre => ?_
 obtain rfl : h0 = Heap.none := hsep
 show St (cx gl) _ [(0, .int .u32 x), (1, .int .i64 k)] _ _
 refine rT (lA (k:=?_))
 refine L_nil (qT (rT (lMv (k:=?_))))
 refine lP (P_conv rfl ty_int_3 ty_int_271 rfl) (k:=?_)
 refine lP (P_bit (op := .and) rfl rfl rfl rfl) (k:=lA (k:=?_))
 refine lQ (cE 0 rfl (cE 4 rfl (cE 5 rfl .nil))) (rT (lMv (k:=lMv (k:=?_))))
 refine lP (P_shl rfl rfl rfl (bitI_nn rfl _ _)) (k:=lMv (k:=lMv (k:=?_)))
 refine lP (P_sub rfl rfl rfl) (k:=?_)
 refine lP (P_shr rfl rfl rfl (wrap_nn rfl _)) (k:=?_)
 refine lP (P_bit (op := .or) rfl rfl rfl rfl) (k:=lA (k:=?_))
 refine lQ (cE 4 rfl .nil) (R_ret ?_)
 exact R_endV rfl rfl (.tmp rfl .nil) (rfl)
end Go.Proofs.YtcngmkjdpoiiaaaGreatDoor

/- Walks: one chunk is worked in, by the program and by the reference. Printed by gen.py. -/
set_option maxRecDepth 100000
namespace Go.Proofs.YtcngmkjdpoiiaaaGreatDoor
open Go Go.RowKit Go.Proofs
def addsK : List Int := [1116352408, 1899447441, 3049323471, 3921009573, 961987163, 1508970993, 2453635748, 2870763221, 3624381080, 310598401, 607225278, 1426881987, 1925078388, 2162078206, 2614888103, 3248222580, 3835390401, 4022224774, 264347078, 604807628, 770255983, 1249150122, 1555081692, 1996064986, 2554220882, 2821834349, 2952996808, 3210313671, 3336571891, 3584528711, 113926993, 338241895, 666307205, 773529912, 1294757372, 1396182291, 1695183700, 1986661051, 2177026350, 2456956037, 2730485921, 2820302411, 3259730800, 3345764771, 3516065817, 3600352804, 4094571909, 275423344, 430227734, 506948616, 659060556, 883997877, 958139571, 1322822218, 1537002063, 1747873779, 1955562222, 2024104815, 2227730452, 2361852424, 2428436474, 2756734187, 3204031479, 3329325298]
def beginK : List Int := [1779033703, 3144134277, 1013904242, 2773480762, 1359893119, 2600822924, 528734635, 1541459225]
theorem addsK_length : addsK.length = 64 := rfl
def addW (a b : Int) : Int := IntKind.u32.wrap (a + b)
def be32 (p : List Int) (i : Nat) : Int :=
 bitI .or .u32 (bitI .or .u32 (bitI .or .u32 (shlI .u32 (IntKind.u32.wrap (p.getD (4 * i) 0)) 24) (shlI .u32 (IntKind.u32.wrap (p.getD (4 * i + 1) 0)) 16)) (shlI .u32 (IntKind.u32.wrap (p.getD (4 * i + 2) 0)) 8)) (IntKind.u32.wrap (p.getD (4 * i + 3) 0))
def sch1 (p : List Int) : Nat → List Int
 | 0 => List.replicate 64 0
 | k + 1 => (sch1 p k).set k (be32 p k)
def sg0 (x : Int) : Int := bitI .xor .u32 (bitI .xor .u32 (turnI x 7) (turnI x 18)) (shrI .u32 x 3)
def sg1 (x : Int) : Int := bitI .xor .u32 (bitI .xor .u32 (turnI x 17) (turnI x 19)) (shrI .u32 x 10)
def sch2 (w : List Int) : Nat → List Int
 | 0 => w
 | k + 1 => (sch2 w k).set (16 + k) (addW (addW (addW ((sch2 w k).getD k 0) (sg0 ((sch2 w k).getD (k + 1) 0))) ((sch2 w k).getD (k + 9) 0)) (sg1 ((sch2 w k).getD (k + 14) 0)))
def bs0 (x : Int) : Int := bitI .xor .u32 (bitI .xor .u32 (turnI x 2) (turnI x 13)) (turnI x 22)
def bs1 (x : Int) : Int := bitI .xor .u32 (bitI .xor .u32 (turnI x 6) (turnI x 11)) (turnI x 25)
def chI (e f g : Int) : Int := bitI .xor .u32 (bitI .and .u32 e f) (bitI .and .u32 (bitI .xor .u32 (if IntKind.u32.signed then -1 else IntKind.u32.max) e) g)
def majI (a b c : Int) : Int := bitI .xor .u32 (bitI .xor .u32 (bitI .and .u32 a b) (bitI .and .u32 a c)) (bitI .and .u32 b c)
def rnd1 (K w : List Int) (i : Nat) : List Int → List Int
 | [a, b, c, d, e, f, g, h] =>
  [addW (addW (addW (addW (addW h (bs1 e)) (chI e f g)) (K.getD i 0)) (w.getD i 0)) (addW (bs0 a) (majI a b c)), a, b, c, addW d (addW (addW (addW (addW h (bs1 e)) (chI e f g)) (K.getD i 0)) (w.getD i 0)), e, f, g]
 | v => v
def rnds (K w s : List Int) : Nat → List Int
 | 0 => s
 | k + 1 => rnd1 K w k (rnds K w s k)
def fin8 (s v : List Int) : Nat → List Int
 | 0 => s
 | k + 1 => (fin8 s v k).set k (addW ((fin8 s v k).getD k 0) (v.getD k 0))
/-- One chunk of 64 bytes is worked into the eight words. -/
def mixF (K s p : List Int) : List Int := fin8 s (rnds K (sch2 (sch1 p 16) 48) s 64) 8
theorem sch1_length (p : List Int) (k : Nat) : (sch1 p k).length = 64 := by induction k <;> simp_all [sch1]
theorem sch2_length (w : List Int) (k : Nat) : (sch2 w k).length = w.length := by induction k <;> simp_all [sch2]
theorem rnd1_length (K w : List Int) (i : Nat) (v : List Int) : (rnd1 K w i v).length = v.length := by unfold rnd1; split <;> rfl
theorem rnds_length (K w s : List Int) (k : Nat) : (rnds K w s k).length = s.length := by induction k <;> simp_all [rnds, rnd1_length]
theorem fin8_length (s v : List Int) (k : Nat) : (fin8 s v k).length = s.length := by induction k <;> simp_all [fin8]
theorem mixF_length (K s p : List Int) : (mixF K s p).length = s.length := by simp [mixF, fin8_length]
theorem list8 {v : List Int} (h : v.length = 8) : ∃ a b c d e f g i, v = [a, b, c, d, e, f, g, i] := by
 match v, h with
 | [a, b, c, d, e, f, g, i], _ => exact ⟨a, b, c, d, e, f, g, i, rfl⟩
theorem bitI_or_comm (k : IntKind) (a b : Int) : bitI .or k a b = bitI .or k b a := by simp [bitI, BitVec.or_comm]
theorem rot2 (x : Int) : rotlI x (-2) = turnI x 2 := by unfold rotlI turnI; rw [bitI_or_comm]; rfl
theorem rot6 (x : Int) : rotlI x (-6) = turnI x 6 := by unfold rotlI turnI; rw [bitI_or_comm]; rfl
theorem rot7 (x : Int) : rotlI x (-7) = turnI x 7 := by unfold rotlI turnI; rw [bitI_or_comm]; rfl
theorem rot11 (x : Int) : rotlI x (-11) = turnI x 11 := by unfold rotlI turnI; rw [bitI_or_comm]; rfl
theorem rot13 (x : Int) : rotlI x (-13) = turnI x 13 := by unfold rotlI turnI; rw [bitI_or_comm]; rfl
theorem rot17 (x : Int) : rotlI x (-17) = turnI x 17 := by unfold rotlI turnI; rw [bitI_or_comm]; rfl
theorem rot18 (x : Int) : rotlI x (-18) = turnI x 18 := by unfold rotlI turnI; rw [bitI_or_comm]; rfl
theorem rot19 (x : Int) : rotlI x (-19) = turnI x 19 := by unfold rotlI turnI; rw [bitI_or_comm]; rfl
theorem rot22 (x : Int) : rotlI x (-22) = turnI x 22 := by unfold rotlI turnI; rw [bitI_or_comm]; rfl
theorem rot25 (x : Int) : rotlI x (-25) = turnI x 25 := by unfold rotlI turnI; rw [bitI_or_comm]; rfl
/-- Where the rounds' numbers lie. -/
structure Globs (gl : Nat → Obj) : Prop where
 begin_ : ∃ T fr, gl 3 = .cells (ints .u32 beginK).toArray T fr
 adds : ∃ T fr, gl 4 = .cells (ints .u32 addsK).toArray T fr
set_option maxHeartbeats 4000000 in
theorem mix_ok {gl : Nat → Obj} (hG : ∃ T fr, gl 4 = .cells (ints .u32 addsK).toArray T fr) (s p : List Int) (hs : s.length = 8) (hp : p.length = 64) : SpecV (cx gl) 306 [.agg (ints .u32 s).toArray, .agg (ints .u8 p).toArray] noPre (.agg (ints .u32 (mixF addsK s p)).toArray) := by
 refine Spec.enter (C := cx gl) Tryz.func306 rfl 191 rfl rfl fun w0 h0 hsep hsub hpre => ?_
 obtain rfl : h0 = Heap.none := hsep
 show St (cx gl) _ [(0, .agg (ints .u32 s).toArray), (1, .agg (ints .u8 p).toArray)] _ _
 refine rT ?_
 refine lO (W_box (_) rfl rfl rfl rfl rfl fun b2 => ?_)
 refine lO (W_box (_) rfl rfl rfl rfl rfl fun b3 => ?_)
 refine lO (W_alloc rfl rfl rfl ty_ze_403 fun b4 => ?_)
 refine lQ (cE 2 rfl (cE 3 rfl (cE 4 rfl .nil))) (rT ?_)
 refine lO (W_alloc rfl rfl rfl ty_ze_352 fun b5 => ?_)
 rw [rep_ints]
 refine L_nil (qT (rS (rT (lMv (k:=?_)))))
 refine L_nil (qT (R_block ?_))
 refine R_loop (G := Nat) (fun k => [(2, .pointer (some ⟨b2, 0, none⟩)), (3, .pointer (some ⟨b3, 0, none⟩)), (4, .pointer (some ⟨b4, 0, none⟩)), (5, .pointer (some ⟨b5, 0, none⟩)), (19, .int .i64 (k : Int))]) (fun k => [blk b5 (ints .u32 (sch1 p k)) 352, blk b4 (List.replicate 8 (.int .u32 0)) 403, blk b3 (ints .u8 p) 404, blk b2 (ints .u32 s) 403]) (fun k => k ≤ 16) (fun k => 16 - k) (0) (by omega) (by repeat (first | exact .nil | refine .cons rfl ?_)) (Weak.refl _) ?_
 intro k hk
 have hl := sch1_length p k
 refine rT (lP pLt (k:=?_))
 refine L_nil (qT (rS ?_))
 refine R_condP rfl (fun hlt => ?_) (fun hlt => ?_)
 ·skip
  refine R_skip (qT (rS (R_block (rT (lMv (k:=lA (k:=?_)))))))
  refine L_nil (qT ?_)
  refine R_open [(0, 0), (1, 0), (2, 0), (3, 0), (4, 1), (5, 0), (6, 0), (7, 0), (8, 0), (9, 0), (10, 0), (11, 1), (12, 0), (13, 0), (14, 0), (15, 0), (16, 0), (17, 0), (18, 0), (19, 1), (20, 0), (21, 0), (22, 0), (23, 0), (24, 0), (25, 0), (26, 0), (27, 1), (28, 0), (29, 0), (30, 0), (31, 3)] mixed (by kernel_rfl) (QOk.block (QOk.then (QOk.then (QOk.block (QOk.then QOk.body))))) (oP rfl pM (k:=oP rfl pM (k:=?_)))
  first | (refine O_pure rfl rfl rfl rfl (P_mulN rfl rfl rfl (by simp only [fits]; omega)) ?_) | (refine O_pure rfl rfl rfl rfl (P_mul rfl rfl rfl) ?_)
  first | (refine O_pure rfl rfl rfl rfl (P_ixa0 (4 * k) rfl ty_ar_404 rfl rfl (by first | rfl | omega) (by omega)) ?_) | (refine O_pure rfl rfl rfl rfl (P_ixa (4 * k) rfl ty_ar_404 rfl rfl (by first | rfl | omega) (by omega)) ?_)
  refine oV rfl (V_load rfl rfl ty_sc_5 (Rd.blk .h2 (ints_at (by omega)))) (k:=?_)
  refine oP rfl (P_conv rfl ty_int_5 ty_int_82 rfl) (k:=?_)
  refine oP rfl (P_shl rfl rfl rfl (by decide)) (k:=oP rfl pM (k:=?_))
  first | (refine O_pure rfl rfl rfl rfl (P_mulN rfl rfl rfl (by simp only [fits]; omega)) ?_) | (refine O_pure rfl rfl rfl rfl (P_mul rfl rfl rfl) ?_)
  first | (refine O_pure rfl rfl rfl rfl (P_addN rfl rfl rfl (by simp only [fits]; omega)) ?_) | (refine O_pure rfl rfl rfl rfl (P_add rfl rfl rfl) ?_)
  first | (refine O_pure rfl rfl rfl rfl (P_ixa0 (4 * k + 1) rfl ty_ar_404 rfl rfl (by first | rfl | omega) (by omega)) ?_) | (refine O_pure rfl rfl rfl rfl (P_ixa (4 * k + 1) rfl ty_ar_404 rfl rfl (by first | rfl | omega) (by omega)) ?_)
  refine oV rfl (V_load rfl rfl ty_sc_5 (Rd.blk .h2 (ints_at (by omega)))) (k:=?_)
  refine oP rfl (P_conv rfl ty_int_5 ty_int_82 rfl) (k:=?_)
  refine oP rfl (P_shl rfl rfl rfl (by decide)) (k:=?_)
  refine oP rfl (P_bit (op := .or) rfl rfl rfl rfl) (k:=oP rfl pM (k:=?_))
  first | (refine O_pure rfl rfl rfl rfl (P_mulN rfl rfl rfl (by simp only [fits]; omega)) ?_) | (refine O_pure rfl rfl rfl rfl (P_mul rfl rfl rfl) ?_)
  first | (refine O_pure rfl rfl rfl rfl (P_addN rfl rfl rfl (by simp only [fits]; omega)) ?_) | (refine O_pure rfl rfl rfl rfl (P_add rfl rfl rfl) ?_)
  first | (refine O_pure rfl rfl rfl rfl (P_ixa0 (4 * k + 2) rfl ty_ar_404 rfl rfl (by first | rfl | omega) (by omega)) ?_) | (refine O_pure rfl rfl rfl rfl (P_ixa (4 * k + 2) rfl ty_ar_404 rfl rfl (by first | rfl | omega) (by omega)) ?_)
  refine oV rfl (V_load rfl rfl ty_sc_5 (Rd.blk .h2 (ints_at (by omega)))) (k:=?_)
  refine oP rfl (P_conv rfl ty_int_5 ty_int_82 rfl) (k:=?_)
  refine oP rfl (P_shl rfl rfl rfl (by decide)) (k:=?_)
  refine oP rfl (P_bit (op := .or) rfl rfl rfl rfl) (k:=oP rfl pM (k:=?_))
  first | (refine O_pure rfl rfl rfl rfl (P_mulN rfl rfl rfl (by simp only [fits]; omega)) ?_) | (refine O_pure rfl rfl rfl rfl (P_mul rfl rfl rfl) ?_)
  first | (refine O_pure rfl rfl rfl rfl (P_addN rfl rfl rfl (by simp only [fits]; omega)) ?_) | (refine O_pure rfl rfl rfl rfl (P_add rfl rfl rfl) ?_)
  first | (refine O_pure rfl rfl rfl rfl (P_ixa0 (4 * k + 3) rfl ty_ar_404 rfl rfl (by first | rfl | omega) (by omega)) ?_) | (refine O_pure rfl rfl rfl rfl (P_ixa (4 * k + 3) rfl ty_ar_404 rfl rfl (by first | rfl | omega) (by omega)) ?_)
  refine oV rfl (V_load rfl rfl ty_sc_5 (Rd.blk .h2 (ints_at (by omega)))) (k:=?_)
  refine oP rfl (P_conv rfl ty_int_5 ty_int_82 rfl) (k:=?_)
  refine oP rfl (P_bit (op := .or) rfl rfl rfl rfl) (k:=?_)
  first | (refine O_pure rfl rfl rfl rfl (P_ixa0 (k) rfl ty_ar_352 rfl rfl (by first | rfl | omega) (by omega)) ?_) | (refine O_pure rfl rfl rfl rfl (P_ixa (k) rfl ty_ar_352 rfl rfl (by first | rfl | omega) (by omega)) ?_)
  refine O_new rfl rfl (W_store rfl rfl rfl rfl ty_sc_82 rfl .h0 (by rw [ints_length, hl]; omega) (K_new ?_))
  rw [ints_set]
  refine O_nil (Q_block (qT (rR ?_)))
  first | (refine L_val rfl rfl rfl (OpP.v (P_addN rfl rfl rfl (by simp only [fits]; omega))) ?_) | (refine L_val rfl rfl rfl (OpP.v (P_add rfl rfl rfl)) ?_)
  refine lMv (k:=?_)
  refine L_nil ?_
  refine E_nat (t := 19) (n := k + 1) rfl (by omega) ?_
  exact Q_round (k + 1) (by omega) (by omega) (by repeat (first | exact .nil | refine .cons rfl ?_)) (Weak.refl _)
 ·skip
  refine R_exit (Q_then_exit (Q_then_exit (Q_block_eq ?_)))
  refine St.env (cE 2 rfl (cE 4 rfl (cE 5 rfl .nil))) (qT (rS (rT (lA (k:=?_)))))
  refine L_nil (qT (R_block ?_))
  obtain rfl : k = 16 := by omega
  refine R_loop (G := Nat) (fun k => [(2, .pointer (some ⟨b2, 0, none⟩)), (4, .pointer (some ⟨b4, 0, none⟩)), (5, .pointer (some ⟨b5, 0, none⟩)), (7, .int .i64 ((16 + k : Nat) : Int))]) (fun k => [blk b5 (ints .u32 (sch2 (sch1 p 16) k)) 352, blk b4 (List.replicate 8 (.int .u32 0)) 403, blk b3 (ints .u8 p) 404, blk b2 (ints .u32 s) 403]) (fun k => k ≤ 48) (fun k => 48 - k) (0) (by omega) (by repeat (first | exact .nil | refine .cons rfl ?_)) (Weak.refl _) ?_
  intro k hk
  have hl : (sch2 (sch1 p 16) k).length = 64 := by rw [sch2_length, sch1_length]
  refine rS (rT (lMv (k:=lP pLt (k:=?_))))
  refine L_nil (qT ?_)
  refine R_condP rfl (fun hlt2 => ?_) (fun hlt2 => ?_)
  ·skip
   refine R_skip (qT (rS (R_block (rS ?_))))
   refine R_open [(0, 0), (1, 0), (2, 0), (3, 1), (4, 0), (5, 0), (6, 0), (7, 1), (8, 0), (9, 0)] mixed (by kernel_rfl) (QOk.then (QOk.block (QOk.then (QOk.then (QOk.block (QOk.then QOk.body)))))) (oP rfl pM (k:=?_))
   first | (refine O_pure rfl rfl rfl rfl (P_subN rfl rfl rfl (by simp only [fits]; omega)) ?_) | (refine O_pure rfl rfl rfl rfl (P_sub rfl rfl rfl) ?_)
   first | (refine O_pure rfl rfl rfl rfl (P_ixa0 (k + 1) rfl ty_ar_352 rfl rfl (by first | rfl | omega) (by omega)) ?_) | (refine O_pure rfl rfl rfl rfl (P_ixa (k + 1) rfl ty_ar_352 rfl rfl (by first | rfl | omega) (by omega)) ?_)
   refine oV rfl (V_load rfl rfl ty_sc_82 (Rd.blk .h0 (ints_at (by omega)))) (k:=oP rfl pM (k:=?_))
   first | (refine O_pure rfl rfl rfl rfl (P_subN rfl rfl rfl (by simp only [fits]; omega)) ?_) | (refine O_pure rfl rfl rfl rfl (P_sub rfl rfl rfl) ?_)
   first | (refine O_pure rfl rfl rfl rfl (P_ixa0 (k + 14) rfl ty_ar_352 rfl rfl (by first | rfl | omega) (by omega)) ?_) | (refine O_pure rfl rfl rfl rfl (P_ixa (k + 14) rfl ty_ar_352 rfl rfl (by first | rfl | omega) (by omega)) ?_)
   refine oV rfl (V_load rfl rfl ty_sc_82 (Rd.blk .h0 (ints_at (by omega)))) (k:=oP rfl pA (k:=oP rfl pA (k:=O_nil (qT (rT (lMv (k:=?_)))))))
   refine lO (W_callV rfl rfl rfl rfl fn_ca_317 (SpecV.mono (rotl_ok gl _ (-7)) (fun _ h => h) (by rw [rot7])) (fun _ _ => trivial) (lMv (k:=?_)))
   refine lO (W_callV rfl rfl rfl rfl fn_ca_317 (SpecV.mono (rotl_ok gl _ (-18)) (fun _ h => h) (by rw [rot18])) (fun _ _ => trivial) ?_)
   refine lP (P_bit (op := .xor) rfl rfl rfl rfl) (k:=lMv (k:=?_))
   refine lP (P_shr rfl rfl rfl (by decide)) (k:=?_)
   refine lP (P_bit (op := .xor) rfl rfl rfl rfl) (k:=lA (k:=?_))
   refine L_nil (qT (rT (lMv (k:=?_))))
   refine lO (W_callV rfl rfl rfl rfl fn_ca_317 (SpecV.mono (rotl_ok gl _ (-17)) (fun _ h => h) (by rw [rot17])) (fun _ _ => trivial) (lMv (k:=?_)))
   refine lO (W_callV rfl rfl rfl rfl fn_ca_317 (SpecV.mono (rotl_ok gl _ (-19)) (fun _ h => h) (by rw [rot19])) (fun _ _ => trivial) ?_)
   refine lP (P_bit (op := .xor) rfl rfl rfl rfl) (k:=lMv (k:=?_))
   refine lP (P_shr rfl rfl rfl (by decide)) (k:=?_)
   refine lP (P_bit (op := .xor) rfl rfl rfl rfl) (k:=lA (k:=?_))
   refine L_nil (qT ?_)
   refine R_open [(0, 0), (1, 0), (2, 0), (3, 0), (4, 1), (5, 0), (6, 0), (7, 0), (8, 0), (9, 0), (10, 1), (11, 0), (12, 0), (13, 0), (14, 0), (15, 3)] mixed (by kernel_rfl) (QOk.block (QOk.then (QOk.then (QOk.block (QOk.then QOk.body))))) (oP rfl pM (k:=oP rfl pM (k:=?_)))
   first | (refine O_pure rfl rfl rfl rfl (P_subN rfl rfl rfl (by simp only [fits]; omega)) ?_) | (refine O_pure rfl rfl rfl rfl (P_sub rfl rfl rfl) ?_)
   first | (refine O_pure rfl rfl rfl rfl (P_ixa0 (k) rfl ty_ar_352 rfl rfl (by first | rfl | omega) (by omega)) ?_) | (refine O_pure rfl rfl rfl rfl (P_ixa (k) rfl ty_ar_352 rfl rfl (by first | rfl | omega) (by omega)) ?_)
   refine oV rfl (V_load rfl rfl ty_sc_82 (Rd.blk .h0 (ints_at (by omega)))) (k:=oP rfl pM (k:=?_))
   refine oP rfl (P_add rfl rfl rfl) (k:=oP rfl pM (k:=?_))
   first | (refine O_pure rfl rfl rfl rfl (P_subN rfl rfl rfl (by simp only [fits]; omega)) ?_) | (refine O_pure rfl rfl rfl rfl (P_sub rfl rfl rfl) ?_)
   first | (refine O_pure rfl rfl rfl rfl (P_ixa0 (k + 9) rfl ty_ar_352 rfl rfl (by first | rfl | omega) (by omega)) ?_) | (refine O_pure rfl rfl rfl rfl (P_ixa (k + 9) rfl ty_ar_352 rfl rfl (by first | rfl | omega) (by omega)) ?_)
   refine oV rfl (V_load rfl rfl ty_sc_82 (Rd.blk .h0 (ints_at (by omega)))) (k:=?_)
   refine oP rfl (P_add rfl rfl rfl) (k:=oP rfl pM (k:=?_))
   refine oP rfl (P_add rfl rfl rfl) (k:=?_)
   first | (refine O_pure rfl rfl rfl rfl (P_ixa0 (16 + k) rfl ty_ar_352 rfl rfl (by first | rfl | omega) (by omega)) ?_) | (refine O_pure rfl rfl rfl rfl (P_ixa (16 + k) rfl ty_ar_352 rfl rfl (by first | rfl | omega) (by omega)) ?_)
   refine O_new rfl rfl (W_store rfl rfl rfl rfl ty_sc_82 rfl .h0 (by rw [ints_length, hl]; omega) (K_new ?_))
   rw [ints_set]
   refine O_nil (Q_block (qT (rR (lMv (k:=?_)))))
   first | (refine L_val rfl rfl rfl (OpP.v (P_addN rfl rfl rfl (by simp only [fits]; omega))) ?_) | (refine L_val rfl rfl rfl (OpP.v (P_add rfl rfl rfl)) ?_)
   refine lA (k:=?_)
   refine L_nil ?_
   refine E_nat (t := 7) (n := 16 + (k + 1)) rfl (by omega) ?_
   exact Q_round (k + 1) (by omega) (by omega) (by repeat (first | exact .nil | refine .cons rfl ?_)) (Weak.refl _)
  ·skip
   refine R_exit (Q_then_exit (Q_then_exit (Q_block_eq ?_)))
   refine St.env (cE 2 rfl (cE 4 rfl (cE 5 rfl .nil))) (qT (rT ?_))
   refine lV (V_loadAgg rfl rfl ty_ag_403 (Rds.blk .h3) (by rw [ints_length, hs])) (k:=?_)
   refine lO (W_alloc rfl rfl rfl ty_ze_403 fun b12 => ?_)
   refine lO (W_storeAll rfl rfl rfl rfl ty_ag_403 (by rw [ints_length, hs]) (ints_one) .h0 (by rw [ints_length, List.length_replicate]; exact hs) ?_)
   refine lQ (cE 2 rfl (cE 4 rfl (cE 5 rfl (cE 12 rfl .nil)))) (rS (rT (lMv (k:=?_))))
   refine L_nil (qT (R_block ?_))
   obtain rfl : k = 48 := by omega
   refine R_loop (G := Nat) (fun k => [(2, .pointer (some ⟨b2, 0, none⟩)), (4, .pointer (some ⟨b4, 0, none⟩)), (5, .pointer (some ⟨b5, 0, none⟩)), (12, .pointer (some ⟨b12, 0, none⟩)), (98, .int .i64 (k : Int))]) (fun k => [blk b12 (ints .u32 (rnds addsK (sch2 (sch1 p 16) 48) s k)) 403, blk b5 (ints .u32 (sch2 (sch1 p 16) 48)) 352, blk b4 (List.replicate 8 (.int .u32 0)) 403, blk b3 (ints .u8 p) 404, blk b2 (ints .u32 s) 403]) (fun k => k ≤ 64) (fun k => 64 - k) (0) (by omega) (by repeat (first | exact .nil | refine .cons rfl ?_)) (Weak.refl _) ?_
   intro k hk
   have hl : (sch2 (sch1 p 16) 48).length = 64 := by rw [sch2_length, sch1_length]
   have hr : (rnds addsK (sch2 (sch1 p 16) 48) s k).length = 8 := by rw [rnds_length, hs]
   obtain ⟨va, vb, vc, vd, ve, vf, vg, vh, e8⟩ := list8 hr
   rw [e8]
   refine rT (lP pLt (k:=?_))
   refine L_nil (qT (rS ?_))
   refine R_condP rfl (fun hlt3 => ?_) (fun hlt3 => ?_)
   ·skip
    refine R_skip (qT (rS (R_block (rT (lMv (k:=lA (k:=?_)))))))
    refine L_nil (qT (rS ?_))
    refine R_open [(0, 0), (1, 1), (2, 0), (3, 1), (4, 0), (5, 0)] mixed (by kernel_rfl) (QOk.then (QOk.block (QOk.then (QOk.then (QOk.block (QOk.then QOk.body)))))) ?_
    first | (refine O_pure rfl rfl rfl rfl (P_ixa0 (4) rfl ty_ar_403 rfl rfl (by first | rfl | omega) (by omega)) ?_) | (refine O_pure rfl rfl rfl rfl (P_ixa (4) rfl ty_ar_403 rfl rfl (by first | rfl | omega) (by omega)) ?_)
    refine oV rfl (V_load rfl rfl ty_sc_82 (by first | exact Rd.blk .h0 rfl | exact Rd.blk .h1 rfl | exact Rd.blk .h2 rfl | exact Rd.blk .h3 rfl | exact Rd.blk .h4 rfl | exact Rd.blk .h5 rfl | exact Rd.blk .h6 rfl | exact Rd.blk .h7 rfl)) (k:=?_)
    first | (refine O_pure rfl rfl rfl rfl (P_ixa0 (0) rfl ty_ar_403 rfl rfl (by first | rfl | omega) (by omega)) ?_) | (refine O_pure rfl rfl rfl rfl (P_ixa (0) rfl ty_ar_403 rfl rfl (by first | rfl | omega) (by omega)) ?_)
    refine oV rfl (V_load rfl rfl ty_sc_82 (by first | exact Rd.blk .h0 rfl | exact Rd.blk .h1 rfl | exact Rd.blk .h2 rfl | exact Rd.blk .h3 rfl | exact Rd.blk .h4 rfl | exact Rd.blk .h5 rfl | exact Rd.blk .h6 rfl | exact Rd.blk .h7 rfl)) (k:=oP rfl pA (k:=oP rfl pA (k:=O_nil (qT (rS ?_)))))
    refine R_open [(0, 0), (1, 1), (2, 0), (4, 0), (7, 0), (11, 0), (12, 0), (13, 1), (14, 0), (15, 0), (16, 0), (17, 0), (18, 1), (19, 0), (20, 0), (22, 0), (23, 0), (24, 1), (26, 0), (27, 0), (28, 1), (3, 2), (5, 2), (6, 0), (8, 2), (9, 0), (10, 0), (21, 0), (25, 0), (29, 0), (30, 0)] mixed (by kernel_rfl) (QOk.then (QOk.block (QOk.then (QOk.then (QOk.block (QOk.then QOk.body)))))) ?_
    first | (refine O_pure rfl rfl rfl rfl (P_ixa0 (7) rfl ty_ar_403 rfl rfl (by first | rfl | omega) (by omega)) ?_) | (refine O_pure rfl rfl rfl rfl (P_ixa (7) rfl ty_ar_403 rfl rfl (by first | rfl | omega) (by omega)) ?_)
    refine oV rfl (V_load rfl rfl ty_sc_82 (by first | exact Rd.blk .h0 rfl | exact Rd.blk .h1 rfl | exact Rd.blk .h2 rfl | exact Rd.blk .h3 rfl | exact Rd.blk .h4 rfl | exact Rd.blk .h5 rfl | exact Rd.blk .h6 rfl | exact Rd.blk .h7 rfl)) (k:=oP rfl pM (k:=oP rfl pM (k:=oP rfl pM (k:=oP rfl pM (k:=?_)))))
    first | (refine O_pure rfl rfl rfl rfl (P_ixa0 (5) rfl ty_ar_403 rfl rfl (by first | rfl | omega) (by omega)) ?_) | (refine O_pure rfl rfl rfl rfl (P_ixa (5) rfl ty_ar_403 rfl rfl (by first | rfl | omega) (by omega)) ?_)
    refine oV rfl (V_load rfl rfl ty_sc_82 (by first | exact Rd.blk .h0 rfl | exact Rd.blk .h1 rfl | exact Rd.blk .h2 rfl | exact Rd.blk .h3 rfl | exact Rd.blk .h4 rfl | exact Rd.blk .h5 rfl | exact Rd.blk .h6 rfl | exact Rd.blk .h7 rfl)) (k:=?_)
    refine oP rfl (P_bit (op := .and) rfl rfl rfl rfl) (k:=oP rfl pM (k:=?_))
    refine oP rfl (P_compl rfl rfl) (k:=?_)
    first | (refine O_pure rfl rfl rfl rfl (P_ixa0 (6) rfl ty_ar_403 rfl rfl (by first | rfl | omega) (by omega)) ?_) | (refine O_pure rfl rfl rfl rfl (P_ixa (6) rfl ty_ar_403 rfl rfl (by first | rfl | omega) (by omega)) ?_)
    refine oV rfl (V_load rfl rfl ty_sc_82 (by first | exact Rd.blk .h0 rfl | exact Rd.blk .h1 rfl | exact Rd.blk .h2 rfl | exact Rd.blk .h3 rfl | exact Rd.blk .h4 rfl | exact Rd.blk .h5 rfl | exact Rd.blk .h6 rfl | exact Rd.blk .h7 rfl)) (k:=?_)
    refine oP rfl (P_bit (op := .and) rfl rfl rfl rfl) (k:=?_)
    refine oP rfl (P_bit (op := .xor) rfl rfl rfl rfl) (k:=oP rfl pM (k:=?_))
    first | (refine O_pure rfl rfl rfl rfl (P_ixa0 (k) rfl ty_ar_352 rfl rfl (by first | rfl | omega) (by omega)) ?_) | (refine O_pure rfl rfl rfl rfl (P_ixa (k) rfl ty_ar_352 rfl rfl (by first | rfl | omega) (by omega)) ?_)
    refine oV rfl (V_load rfl rfl ty_sc_82 (hG.elim fun T h => h.elim fun fr h => Rd.glob rfl h (ints_at (by rw [addsK_length]; omega)))) (k:=oP rfl pM (k:=?_))
    first | (refine O_pure rfl rfl rfl rfl (P_ixa0 (k) rfl ty_ar_352 rfl rfl (by first | rfl | omega) (by omega)) ?_) | (refine O_pure rfl rfl rfl rfl (P_ixa (k) rfl ty_ar_352 rfl rfl (by first | rfl | omega) (by omega)) ?_)
    refine oV rfl (V_load rfl rfl ty_sc_82 (Rd.blk .h1 (ints_at (by omega)))) (k:=?_)
    refine O_keep rfl rfl (W_callV rfl rfl rfl rfl fn_ca_317 (SpecV.mono (rotl_ok gl _ (-6)) (fun _ h => h) (by rw [rot6])) (fun _ _ => trivial) (K_keep (Weak.refl _) ?_))
    refine O_keep rfl rfl (W_callV rfl rfl rfl rfl fn_ca_317 (SpecV.mono (rotl_ok gl _ (-11)) (fun _ h => h) (by rw [rot11])) (fun _ _ => trivial) (K_keep (Weak.refl _) ?_))
    refine oP rfl (P_bit (op := .xor) rfl rfl rfl rfl) (k:=?_)
    refine O_keep rfl rfl (W_callV rfl rfl rfl rfl fn_ca_317 (SpecV.mono (rotl_ok gl _ (-25)) (fun _ h => h) (by rw [rot25])) (fun _ _ => trivial) (K_keep (Weak.refl _) ?_))
    refine oP rfl (P_bit (op := .xor) rfl rfl rfl rfl) (k:=?_)
    refine oP rfl (P_add rfl rfl rfl) (k:=?_)
    refine oP rfl (P_add rfl rfl rfl) (k:=?_)
    refine oP rfl (P_add rfl rfl rfl) (k:=?_)
    refine oP rfl (P_add rfl rfl rfl) (k:=oP rfl pA (k:=O_nil (qT (rS ?_))))
    refine R_open [(0, 0), (2, 0), (5, 0), (8, 0), (9, 0), (10, 1), (11, 0), (12, 0), (13, 0), (14, 1), (15, 0), (16, 0), (17, 0), (18, 1), (19, 0), (20, 1), (21, 0), (22, 0), (1, 2), (3, 2), (4, 0), (6, 2), (7, 0), (23, 0), (24, 0)] mixed (by kernel_rfl) (QOk.then (QOk.block (QOk.then (QOk.then (QOk.block (QOk.then QOk.body)))))) (oP rfl pM (k:=oP rfl pM (k:=oP rfl pM (k:=oP rfl pM (k:=?_)))))
    first | (refine O_pure rfl rfl rfl rfl (P_ixa0 (1) rfl ty_ar_403 rfl rfl (by first | rfl | omega) (by omega)) ?_) | (refine O_pure rfl rfl rfl rfl (P_ixa (1) rfl ty_ar_403 rfl rfl (by first | rfl | omega) (by omega)) ?_)
    refine oV rfl (V_load rfl rfl ty_sc_82 (by first | exact Rd.blk .h0 rfl | exact Rd.blk .h1 rfl | exact Rd.blk .h2 rfl | exact Rd.blk .h3 rfl | exact Rd.blk .h4 rfl | exact Rd.blk .h5 rfl | exact Rd.blk .h6 rfl | exact Rd.blk .h7 rfl)) (k:=?_)
    refine oP rfl (P_bit (op := .and) rfl rfl rfl rfl) (k:=oP rfl pM (k:=?_))
    first | (refine O_pure rfl rfl rfl rfl (P_ixa0 (2) rfl ty_ar_403 rfl rfl (by first | rfl | omega) (by omega)) ?_) | (refine O_pure rfl rfl rfl rfl (P_ixa (2) rfl ty_ar_403 rfl rfl (by first | rfl | omega) (by omega)) ?_)
    refine oV rfl (V_load rfl rfl ty_sc_82 (by first | exact Rd.blk .h0 rfl | exact Rd.blk .h1 rfl | exact Rd.blk .h2 rfl | exact Rd.blk .h3 rfl | exact Rd.blk .h4 rfl | exact Rd.blk .h5 rfl | exact Rd.blk .h6 rfl | exact Rd.blk .h7 rfl)) (k:=?_)
    refine oP rfl (P_bit (op := .and) rfl rfl rfl rfl) (k:=?_)
    refine oP rfl (P_bit (op := .xor) rfl rfl rfl rfl) (k:=?_)
    first | (refine O_pure rfl rfl rfl rfl (P_ixa0 (1) rfl ty_ar_403 rfl rfl (by first | rfl | omega) (by omega)) ?_) | (refine O_pure rfl rfl rfl rfl (P_ixa (1) rfl ty_ar_403 rfl rfl (by first | rfl | omega) (by omega)) ?_)
    refine oV rfl (V_load rfl rfl ty_sc_82 (by first | exact Rd.blk .h0 rfl | exact Rd.blk .h1 rfl | exact Rd.blk .h2 rfl | exact Rd.blk .h3 rfl | exact Rd.blk .h4 rfl | exact Rd.blk .h5 rfl | exact Rd.blk .h6 rfl | exact Rd.blk .h7 rfl)) (k:=?_)
    first | (refine O_pure rfl rfl rfl rfl (P_ixa0 (2) rfl ty_ar_403 rfl rfl (by first | rfl | omega) (by omega)) ?_) | (refine O_pure rfl rfl rfl rfl (P_ixa (2) rfl ty_ar_403 rfl rfl (by first | rfl | omega) (by omega)) ?_)
    refine oV rfl (V_load rfl rfl ty_sc_82 (by first | exact Rd.blk .h0 rfl | exact Rd.blk .h1 rfl | exact Rd.blk .h2 rfl | exact Rd.blk .h3 rfl | exact Rd.blk .h4 rfl | exact Rd.blk .h5 rfl | exact Rd.blk .h6 rfl | exact Rd.blk .h7 rfl)) (k:=?_)
    refine oP rfl (P_bit (op := .and) rfl rfl rfl rfl) (k:=?_)
    refine oP rfl (P_bit (op := .xor) rfl rfl rfl rfl) (k:=?_)
    refine O_keep rfl rfl (W_callV rfl rfl rfl rfl fn_ca_317 (SpecV.mono (rotl_ok gl _ (-2)) (fun _ h => h) (by rw [rot2])) (fun _ _ => trivial) (K_keep (Weak.refl _) ?_))
    refine O_keep rfl rfl (W_callV rfl rfl rfl rfl fn_ca_317 (SpecV.mono (rotl_ok gl _ (-13)) (fun _ h => h) (by rw [rot13])) (fun _ _ => trivial) (K_keep (Weak.refl _) ?_))
    refine oP rfl (P_bit (op := .xor) rfl rfl rfl rfl) (k:=?_)
    refine O_keep rfl rfl (W_callV rfl rfl rfl rfl fn_ca_317 (SpecV.mono (rotl_ok gl _ (-22)) (fun _ h => h) (by rw [rot22])) (fun _ _ => trivial) (K_keep (Weak.refl _) ?_))
    refine oP rfl (P_bit (op := .xor) rfl rfl rfl rfl) (k:=?_)
    refine oP rfl (P_add rfl rfl rfl) (k:=oP rfl pA (k:=O_nil (qT (rR (lMv (k:=lMv (k:=?_)))))))
    refine lP (P_add rfl rfl rfl) (k:=lMv (k:=?_))
    first | (refine L_val rfl rfl rfl (OpP.v (P_ixa0 (1) rfl ty_ar_403 rfl rfl (by first | rfl | omega) (by omega))) ?_) | (refine L_val rfl rfl rfl (OpP.v (P_ixa (1) rfl ty_ar_403 rfl rfl (by first | rfl | omega) (by omega))) ?_)
    refine lV (V_load rfl rfl ty_sc_82 (by first | exact Rd.blk .h0 rfl | exact Rd.blk .h1 rfl | exact Rd.blk .h2 rfl | exact Rd.blk .h3 rfl | exact Rd.blk .h4 rfl | exact Rd.blk .h5 rfl | exact Rd.blk .h6 rfl | exact Rd.blk .h7 rfl)) (k:=?_)
    first | (refine L_val rfl rfl rfl (OpP.v (P_ixa0 (2) rfl ty_ar_403 rfl rfl (by first | rfl | omega) (by omega))) ?_) | (refine L_val rfl rfl rfl (OpP.v (P_ixa (2) rfl ty_ar_403 rfl rfl (by first | rfl | omega) (by omega))) ?_)
    refine lV (V_load rfl rfl ty_sc_82 (by first | exact Rd.blk .h0 rfl | exact Rd.blk .h1 rfl | exact Rd.blk .h2 rfl | exact Rd.blk .h3 rfl | exact Rd.blk .h4 rfl | exact Rd.blk .h5 rfl | exact Rd.blk .h6 rfl | exact Rd.blk .h7 rfl)) (k:=?_)
    first | (refine L_val rfl rfl rfl (OpP.v (P_ixa0 (3) rfl ty_ar_403 rfl rfl (by first | rfl | omega) (by omega))) ?_) | (refine L_val rfl rfl rfl (OpP.v (P_ixa (3) rfl ty_ar_403 rfl rfl (by first | rfl | omega) (by omega))) ?_)
    refine lV (V_load rfl rfl ty_sc_82 (by first | exact Rd.blk .h0 rfl | exact Rd.blk .h1 rfl | exact Rd.blk .h2 rfl | exact Rd.blk .h3 rfl | exact Rd.blk .h4 rfl | exact Rd.blk .h5 rfl | exact Rd.blk .h6 rfl | exact Rd.blk .h7 rfl)) (k:=lMv (k:=?_))
    refine lP (P_add rfl rfl rfl) (k:=lMv (k:=?_))
    first | (refine L_val rfl rfl rfl (OpP.v (P_ixa0 (5) rfl ty_ar_403 rfl rfl (by first | rfl | omega) (by omega))) ?_) | (refine L_val rfl rfl rfl (OpP.v (P_ixa (5) rfl ty_ar_403 rfl rfl (by first | rfl | omega) (by omega))) ?_)
    refine lV (V_load rfl rfl ty_sc_82 (by first | exact Rd.blk .h0 rfl | exact Rd.blk .h1 rfl | exact Rd.blk .h2 rfl | exact Rd.blk .h3 rfl | exact Rd.blk .h4 rfl | exact Rd.blk .h5 rfl | exact Rd.blk .h6 rfl | exact Rd.blk .h7 rfl)) (k:=?_)
    first | (refine L_val rfl rfl rfl (OpP.v (P_ixa0 (6) rfl ty_ar_403 rfl rfl (by first | rfl | omega) (by omega))) ?_) | (refine L_val rfl rfl rfl (OpP.v (P_ixa (6) rfl ty_ar_403 rfl rfl (by first | rfl | omega) (by omega))) ?_)
    refine lV (V_load rfl rfl ty_sc_82 (by first | exact Rd.blk .h0 rfl | exact Rd.blk .h1 rfl | exact Rd.blk .h2 rfl | exact Rd.blk .h3 rfl | exact Rd.blk .h4 rfl | exact Rd.blk .h5 rfl | exact Rd.blk .h6 rfl | exact Rd.blk .h7 rfl)) (k:=?_)
    refine lP (P_buildArr rfl ty_ar_403 ty_ze_403 rfl rfl rfl rfl (by simp [Value.oneCell'])) (k:=?_)
    refine lO (W_storeAll rfl rfl rfl rfl ty_ag_403 (by first | rfl | simp [ints]) (by intro v hv; simp at hv; rcases hv with rfl | rfl | rfl | rfl | rfl | rfl | rfl | rfl <;> rfl) .h0 (by first | rfl | simp [ints]) ?_)
    refine L_nil (Q_block (qT (rR ?_)))
    first | (refine L_val rfl rfl rfl (OpP.v (P_addN rfl rfl rfl (by simp only [fits]; omega))) ?_) | (refine L_val rfl rfl rfl (OpP.v (P_add rfl rfl rfl)) ?_)
    refine lMv (k:=?_)
    refine L_nil ?_
    refine E_nat (t := 98) (n := k + 1) rfl (by omega) ?_
    exact Q_round (k + 1) (by omega) (by omega) (by repeat (first | exact .nil | refine .cons rfl ?_)) (by rw [rnds, e8]; exact Weak.refl _)
   ·skip
    refine R_exit (Q_then_exit (Q_then_exit (Q_block_eq ?_)))
    refine St.env (cE 2 rfl (cE 4 rfl (cE 12 rfl .nil))) (qT (rS (rT (lMv (k:=?_)))))
    refine L_nil (qT (R_block ?_))
    obtain rfl : k = 64 := by omega
    rw [← e8]
    refine R_loop (G := Nat) (fun k => [(2, .pointer (some ⟨b2, 0, none⟩)), (4, .pointer (some ⟨b4, 0, none⟩)), (12, .pointer (some ⟨b12, 0, none⟩)), (178, .int .i64 (k : Int))]) (fun k => [blk b12 (ints .u32 (rnds addsK (sch2 (sch1 p 16) 48) s 64)) 403, blk b5 (ints .u32 (sch2 (sch1 p 16) 48)) 352, blk b4 (List.replicate 8 (.int .u32 0)) 403, blk b3 (ints .u8 p) 404, blk b2 (ints .u32 (fin8 s (rnds addsK (sch2 (sch1 p 16) 48) s 64) k)) 403]) (fun k => k ≤ 8) (fun k => 8 - k) (0) (by omega) (by repeat (first | exact .nil | refine .cons rfl ?_)) (Weak.refl _) ?_
    intro k hk
    have hf : (fin8 s (rnds addsK (sch2 (sch1 p 16) 48) s 64) k).length = 8 := by rw [fin8_length, hs]
    have hr : (rnds addsK (sch2 (sch1 p 16) 48) s 64).length = 8 := by rw [rnds_length, hs]
    refine rT (lP pLt (k:=?_))
    refine L_nil (qT (rS ?_))
    refine R_condP rfl (fun hlt4 => ?_) (fun hlt4 => ?_)
    ·skip
     refine R_skip (qT (rS (R_block (rT (lMv (k:=lA (k:=?_)))))))
     refine L_nil (qT ?_)
     refine R_open [(0, 0), (1, 0), (2, 1), (3, 0), (4, 0), (5, 1), (6, 0), (7, 0), (8, 3)] mixed (by kernel_rfl) (QOk.block (QOk.then (QOk.then (QOk.block (QOk.then QOk.body))))) (oP rfl pM (k:=?_))
     first | (refine O_pure rfl rfl rfl rfl (P_ixa0 (k) rfl ty_ar_403 rfl rfl (by first | rfl | omega) (by omega)) ?_) | (refine O_pure rfl rfl rfl rfl (P_ixa (k) rfl ty_ar_403 rfl rfl (by first | rfl | omega) (by omega)) ?_)
     refine oV rfl (V_load rfl rfl ty_sc_82 (Rd.blk .h4 (ints_at (by omega)))) (k:=oP rfl pM (k:=?_))
     first | (refine O_pure rfl rfl rfl rfl (P_ixa0 (k) rfl ty_ar_403 rfl rfl (by first | rfl | omega) (by omega)) ?_) | (refine O_pure rfl rfl rfl rfl (P_ixa (k) rfl ty_ar_403 rfl rfl (by first | rfl | omega) (by omega)) ?_)
     refine oV rfl (V_load rfl rfl ty_sc_82 (Rd.blk .h0 (ints_at (by omega)))) (k:=?_)
     refine oP rfl (P_add rfl rfl rfl) (k:=?_)
     first | (refine O_pure rfl rfl rfl rfl (P_ixa0 (k) rfl ty_ar_403 rfl rfl (by first | rfl | omega) (by omega)) ?_) | (refine O_pure rfl rfl rfl rfl (P_ixa (k) rfl ty_ar_403 rfl rfl (by first | rfl | omega) (by omega)) ?_)
     refine O_new rfl rfl (W_store rfl rfl rfl rfl ty_sc_82 rfl .h4 (by rw [ints_length, hf]; omega) (K_new ?_))
     rw [ints_set]
     refine O_nil (Q_block (qT (rR ?_)))
     first | (refine L_val rfl rfl rfl (OpP.v (P_addN rfl rfl rfl (by simp only [fits]; omega))) ?_) | (refine L_val rfl rfl rfl (OpP.v (P_add rfl rfl rfl)) ?_)
     refine lMv (k:=?_)
     refine L_nil ?_
     refine E_nat (t := 178) (n := k + 1) rfl (by omega) ?_
     exact Q_round (k + 1) (by omega) (by omega) (by repeat (first | exact .nil | refine .cons rfl ?_)) (Weak.refl _)
    ·skip
     refine R_exit (Q_then_exit (Q_then_exit (Q_block_eq ?_)))
     refine St.env (cE 2 rfl (cE 4 rfl .nil)) (qT (rT ?_))
     obtain rfl : k = 8 := by omega
     refine lV (V_loadAgg rfl rfl ty_ag_403 (Rds.blk .h4) (by rw [ints_length, hf])) (k:=?_)
     refine lO (W_storeAll rfl rfl rfl rfl ty_ag_403 (by rw [ints_length, hf]) (ints_one) .h2 (by rw [ints_length, hf]; rfl) ?_)
     refine lQ (cE 4 rfl .nil) (R_ret ?_)
     exact R_endV rfl rfl (.cell rfl (Rds.loadVar ty_ag_403 (Rds.blk .h2) (by rw [ints_length, hf])) .nil) (rfl)
end Go.Proofs.YtcngmkjdpoiiaaaGreatDoor

/- Plain: how the digest is made of all bytes, piece by piece and at once. -/
namespace Go.Proofs.YtcngmkjdpoiiaaaGreatDoor
open Go Go.RowKit

/-- k chunks worked in. -/
def cmpN : Nat → List Int → List Int → List Int
 | 0, s, _ => s
 | k + 1, s, xs => cmpN k (mixF addsK s (xs.take 64)) (xs.drop 64)
/-- all whole chunks -/
def cmp (xs : List Int) : List Int := cmpN (xs.length / 64) beginK xs
theorem cmpN_length (k : Nat) (s xs : List Int) : (cmpN k s xs).length = s.length := by
 induction k generalizing s xs with
 | zero => rfl
 | succ k ih => rw [cmpN, ih, mixF_length]
theorem cmp_length (xs : List Int) : (cmp xs).length = 8 := by rw [cmp, cmpN_length]; rfl
theorem cmpN_add (k m : Nat) (s xs : List Int) : cmpN (k + m) s xs = cmpN m (cmpN k s xs) (xs.drop (64 * k)) := by
 induction k generalizing s xs with
 | zero => simp [cmpN]
 | succ k ih =>
  rw [show k + 1 + m = (k + m) + 1 by omega, cmpN, ih, cmpN, List.drop_drop]
  congr 2
  omega
theorem cmpN_succ (k : Nat) (s xs : List Int) : cmpN (k + 1) s xs = mixF addsK (cmpN k s xs) ((xs.drop (64 * k)).take 64) := by
 rw [cmpN_add k 1]; rfl
theorem cmpN_append (k : Nat) (s xs ys : List Int) (h : 64 * k ≤ xs.length) : cmpN k s (xs ++ ys) = cmpN k s xs := by
 induction k generalizing s xs with
 | zero => rfl
 | succ k ih =>
  rw [cmpN, cmpN, List.take_append_of_le_length (by omega), List.drop_append_of_le_length (by omega), ih _ _ (by rw [List.length_drop]; omega)]
/-- What has not been worked in yet. -/
def rem64 (xs : List Int) : List Int := xs.drop (64 * (xs.length / 64))
theorem rem64_length (xs : List Int) : (rem64 xs).length = xs.length % 64 := by rw [rem64, List.length_drop]; omega
theorem cmp_small (xs zs : List Int) (h : xs.length % 64 + zs.length < 64) : cmp (xs ++ zs) = cmp xs ∧ rem64 (xs ++ zs) = rem64 xs ++ zs ∧ (xs ++ zs).length % 64 = xs.length % 64 + zs.length := by
 have e : (xs ++ zs).length / 64 = xs.length / 64 := by rw [List.length_append]; omega
 refine ⟨?_, ?_, by rw [List.length_append]; omega⟩
 ·rw [cmp, e, cmpN_append _ _ _ _ (by omega)]; rfl
 ·rw [rem64, e, List.drop_append_of_le_length (by omega)]; rfl
theorem cmp_full (xs zs : List Int) (h : xs.length % 64 + zs.length = 64) : cmp (xs ++ zs) = mixF addsK (cmp xs) (rem64 xs ++ zs) ∧ rem64 (xs ++ zs) = [] ∧ (xs ++ zs).length % 64 = 0 := by
 have e : (xs ++ zs).length / 64 = xs.length / 64 + 1 := by rw [List.length_append]; omega
 refine ⟨?_, ?_, by rw [List.length_append]; omega⟩
 ·rw [cmp, e, cmpN_succ, cmpN_append _ _ _ _ (by omega), List.drop_append_of_le_length (by omega), List.take_of_length_le (by rw [List.length_append, List.length_drop]; omega)]; rfl
 ·rw [rem64, e]
  apply List.drop_eq_nil_of_le
  rw [List.length_append]; omega
/-- How many zero bytes. -/
def padZ (n : Nat) : Nat := (119 - n % 64) % 64
/-- The eight bytes of the length in bits. -/
def lenB (n : Nat) : List Int := (List.range 8).map fun (j : Nat) => IntKind.u8.wrap (shrI .u64 (IntKind.u64.wrap (IntKind.u64.wrap (n : Int) * 8)) (56 - 8 * (j : Int)))
def padded (xs : List Int) : List Int := xs ++ [128] ++ List.replicate (padZ xs.length) 0 ++ lenB xs.length
theorem lenB_length (n : Nat) : (lenB n).length = 8 := by simp [lenB]
/-- The words as bytes. -/
def outB (ws : List Int) : List Int := (List.range 32).map fun (i : Nat) => IntKind.u8.wrap (shrI .u32 (ws.getD (i / 4) 0) (24 - 8 * ((i % 4 : Nat) : Int)))
theorem outB_length (ws : List Int) : (outB ws).length = 32 := by simp [outB]
/-- The digest of bytes. -/
def sha (xs : List Int) : List Int := outB (cmp (padded xs))
theorem sha_length (xs : List Int) : (sha xs).length = 32 := outB_length _
theorem wrap64_add (a b : Int) : IntKind.u64.wrap (IntKind.u64.wrap a + IntKind.u64.wrap b) = IntKind.u64.wrap (a + b) := by
 simp [IntKind.wrap, IntKind.signed, IntKind.bits]

/-- A Hasher's cells. -/
def hcells (made : Bool) (ws part : List Int) (held taken : Int) : List Value := [.bool made] ++ ints .u32 ws ++ ints .u8 part ++ [.int .i64 held, .int .u64 taken]
section
variable {made : Bool} {ws part : List Int} {held taken : Int} (hw : ws.length = 8) (hp : part.length = 64)
include hw hp
theorem hcells_length : (hcells made ws part held taken).length = 75 := by simp [hcells, ints, hw, hp]
theorem hcells_73 : (hcells made ws part held taken)[73]? = some (.int .i64 held) := by
 simp only [hcells]
 rw [List.getElem?_append_right (by simp [ints, hw, hp])]
 simp [ints, hw, hp]
theorem hcells_74 : (hcells made ws part held taken)[74]? = some (.int .u64 taken) := by
 simp only [hcells]
 rw [List.getElem?_append_right (by simp [ints, hw, hp])]
 simp [ints, hw, hp]
theorem hcells_set73 (n : Int) : (hcells made ws part held taken).set 73 (.int .i64 n) = hcells made ws part n taken := by
 simp only [hcells]
 rw [List.set_append_right _ _ (by simp [ints, hw, hp])]
 simp [ints, hw, hp]
theorem hcells_set74 (n : Int) : (hcells made ws part held taken).set 74 (.int .u64 n) = hcells made ws part held n := by
 simp only [hcells]
 rw [List.set_append_right _ _ (by simp [ints, hw, hp])]
 simp [ints, hw, hp]
theorem hcells_words (i : Nat) (v : Value) (h : (ints .u32 ws)[i]? = some v) : (hcells made ws part held taken)[1 + i]? = some v := by
 have hi : i < 8 := by have := (List.getElem?_eq_some_iff.1 h).1; rwa [ints_length, hw] at this
 simp only [hcells]
 rw [List.append_assoc, List.append_assoc, List.getElem?_append_right (by simp), List.getElem?_append_left (by simp [ints, hw]; omega)]
 simpa using h
theorem hcells_part (i : Nat) (v : Value) (h : (ints .u8 part)[i]? = some v) : (hcells made ws part held taken)[9 + i]? = some v := by
 have hi : i < 64 := by have := (List.getElem?_eq_some_iff.1 h).1; rwa [ints_length, hp] at this
 simp only [hcells]
 rw [List.append_assoc, List.getElem?_append_right (by simp [ints, hw]), List.getElem?_append_left (by simp [ints, hw, hp]; omega)]
 simp [ints, hw] at h ⊢
 exact h
theorem hcells_setWords (us : List Int) (hu : us.length = 8) : splice (hcells made ws part held taken) 1 (ints .u32 us) = hcells made us part held taken := by
 simp [splice, hcells, ints, hw, hu, List.drop_append]
theorem hcells_setPart (o : Nat) (us : List Int) (hu : o + us.length ≤ 64) : splice (hcells made ws part held taken) (9 + o) (ints .u8 us) = hcells made ws (part.take o ++ us ++ part.drop (o + us.length)) held taken := by
 have e : hcells made ws part held taken = ([.bool made] ++ ints .u32 ws) ++ (ints .u8 part ++ [.int .i64 held, .int .u64 taken]) := by simp [hcells]
 have l1 : ([Value.bool made] ++ ints .u32 ws).length = 9 := by simp [ints, hw]
 rw [e, splice, List.take_append, List.drop_append, l1]
 simp only [ints_length, Nat.add_sub_cancel_left, show 9 + o + us.length - 9 = o + us.length by omega]
 rw [List.take_of_length_le (by rw [l1]; omega), List.drop_eq_nil_of_le (by rw [l1]; omega), List.take_append_of_le_length (by rw [ints_length, hp]; omega), List.drop_append_of_le_length (by rw [ints_length, hp]; omega), ints_take, ints_drop]
 simp [hcells, ints]
end
end Go.Proofs.YtcngmkjdpoiiaaaGreatDoor

/- The seventh part of the program logic: rows of cells that a callee may read, wherever they lie; slices of bytes; small helpers. -/
namespace Go.Proofs.YtcngmkjdpoiiaaaGreatDoor
open Go Go.RowKit

/-- A row that a callee may read: none of its cells lies in what the callee takes. -/
def Seen (w : World) (h : Heap) (base : Option Addr) (cs : List Value) : Prop := ∀ (j : Nat) (v : Value), cs[j]? = some v → ∃ ad, base = some ad ∧ w.cell? (ad.add j) = some v ∧ h ad.block = .none
theorem Seen.row {w : World} {h : Heap} {base : Option Addr} {cs : List Value} (s : Seen w h base cs) : Row w base cs := fun j v hv => (s j v hv).imp fun _ x => ⟨x.1, x.2.1⟩
theorem Row.seen {w : World} {base : Option Addr} {cs : List Value} (s : Row w base cs) : Seen w Heap.none base cs := fun j v hv => (s j v hv).imp fun _ x => ⟨x.1, x.2, rfl⟩
theorem add_block (ad : Addr) (n : Nat) : (ad.add n).block = ad.block := by unfold Addr.add; split <;> rfl
theorem cell_block_lt {w : World} {ad : Addr} {n : Nat} {v : Value} (h : w.cell? (ad.add n) = some v) : ad.block < w.heap.size := by
 have := block_lt_of_cell h; rwa [add_block] at this
theorem Seen.nil {w : World} {h : Heap} {base : Option Addr} : Seen w h base [] := fun _ _ h => by cases h
theorem Seen.part {w : World} {h : Heap} {base base' : Option Addr} {cs us : List Value} (s : Seen w h base cs) (f : ∀ (j : Nat) (v : Value), us[j]? = some v → ∃ ad ad', base = some ad ∧ base' = some ad' ∧ ad'.block = ad.block ∧ ∃ i, ad'.add j = ad.add i ∧ cs[i]? = some v) : Seen w h base' us := fun j v hv => by
 obtain ⟨ad, ad', e, e', eb, i, ea, hc⟩ := f j v hv
 obtain ⟨ad2, e2, h1, h2⟩ := s i v hc
 rw [e, Option.some.injEq] at e2
 subst e2
 exact ⟨ad', e', by rw [ea]; exact h1, by rw [eb]; exact h2⟩
/-- x[p:q] of a row. -/
theorem part_sliced {base : Option Addr} {cs : List Value} {sz p q c : Nat} (hq : q ≤ c) (hcs : cs.length = c * sz ∨ q * sz ≤ cs.length) (hb : ∀ (j : Nat) (v : Value), cs[j]? = some v → base ≠ none) :
  ∀ (j : Nat) (v : Value), ((cs.drop (p * sz)).take ((q - p) * sz))[j]? = some v → ∃ ad ad', base = some ad ∧ (if c = p then base else base.map (·.add (p * sz))) = some ad' ∧ ad'.block = ad.block ∧ ∃ i, ad'.add j = ad.add i ∧ cs[i]? = some v := fun j v hv => by
 rw [List.getElem?_take] at hv
 split at hv
 ·rename_i hj
  rw [List.getElem?_drop] at hv
  cases base with
  | none => exact absurd rfl (hb _ v hv)
  | some ad =>
   have hne : ¬ c = p := by
    intro e; subst e
    have : (q - c) * sz = 0 := by rw [Nat.sub_eq_zero_of_le hq]; simp
    omega
   refine ⟨ad, ad.add (p * sz), rfl, by rw [if_neg hne]; rfl, add_block _ _, p * sz + j, ?_, hv⟩
   unfold Addr.add
   by_cases h1 : p * sz = 0 <;> by_cases h2 : j = 0 <;> simp [h1, h2, Nat.add_assoc]
 ·cases hv
theorem Seen.sliced {w : World} {h : Heap} {base : Option Addr} {cs : List Value} {sz p q c : Nat} (s : Seen w h base cs) (hq : q ≤ c) (hcs : cs.length = c * sz ∨ q * sz ≤ cs.length) : Seen w h (if c = p then base else base.map (·.add (p * sz))) ((cs.drop (p * sz)).take ((q - p) * sz)) :=
 s.part (part_sliced hq hcs fun j v hv => by obtain ⟨ad, rfl, _⟩ := s j v hv; simp)

section
variable {C : Cx} {F : Fx} {l : Env} {rs rs' : List HP} {K : Act → World → Prop} {o : Oper} {Q : Exit → Act → World → Prop} {d : Nat}
/-- A row in every fitting world: it was there when the body was entered, or it lies in what the body owns. -/
def Sn (C : Cx) (F : Fx) (rs : List HP) (base : Option Addr) (cs : List Value) : Prop := ∀ w h, Sep rs h → Move C F.w F.h w h → ∀ (j : Nat) (v : Value), cs[j]? = some v →
 ∃ ad, base = some ad ∧ w.cell? (ad.add j) = some v ∧ ((ad.block < F.w.heap.size ∧ F.h ad.block = .none) ∨ h ad.block ≠ .none ∨ ad.block < C.ng)
theorem Sn.rw_ {base : Option Addr} {cs : List Value} (s : Sn C F rs base cs) : Rw C F rs base cs := fun w ⟨h, hs, m⟩ j v hv => (s w h hs m j v hv).imp fun _ x => ⟨x.1, x.2.1⟩
theorem Sn.old {base : Option Addr} {cs : List Value} (s : Seen F.w F.h base cs) : Sn C F rs base cs := fun w h hs m j v hv => by
 obtain ⟨ad, e, hc, hn⟩ := s j v hv
 have hlt := cell_block_lt hc
 refine ⟨ad, e, ?_, .inl ⟨hlt, hn⟩⟩
 rw [← hc]
 have hb := m.keep ad.block hlt hn
 simp only [World.cell?, add_block, hb]
theorem Sn.row {base : Option Addr} {cs : List Value} (s : Row F.w base cs) (hf : F.h = Heap.none) : Sn C F rs base cs := Sn.old (by rw [hf]; exact s.seen)
theorem Sn.nil {base : Option Addr} : Sn C F rs base [] := fun _ _ _ _ _ _ h => by cases h
theorem Sn.part {base base' : Option Addr} {cs us : List Value} (s : Sn C F rs base cs) (f : ∀ (j : Nat) (v : Value), us[j]? = some v → ∃ ad ad', base = some ad ∧ base' = some ad' ∧ ad'.block = ad.block ∧ ∃ i, ad'.add j = ad.add i ∧ cs[i]? = some v) : Sn C F rs base' us := fun w h hs m j v hv => by
 obtain ⟨ad, ad', e, e', eb, i, ea, hc⟩ := f j v hv
 obtain ⟨ad2, e2, h1, h2⟩ := s w h hs m i v hc
 rw [e, Option.some.injEq] at e2
 subst e2
 exact ⟨ad', e', by rw [ea]; exact h1, by rw [eb]; exact h2⟩
theorem Sn.ofBlk {b T : Nat} {cs : List Value} (m : Has rs (blk b cs T) (blk b cs T) rs) : Sn C F rs (some ⟨b, 0, none⟩) cs := fun w h hs mv j v hv => by
 obtain ⟨a, c, ⟨fr, hf, rfl⟩, dj, rfl, _⟩ := Sep.take m hs
 have hone : (Heap.one b (.cells cs.toArray T fr)).join c b = some (.cells cs.toArray T fr) := Heap.le_join_left _ _ b _ (Heap.one_same _ _)
 refine ⟨_, rfl, ?_, .inr (.inl (by rw [hone]; simp))⟩
 have := mv.sub b _ hone
 rw [add_zero_off]
 simp [World.cell?, this, hv]
theorem Sn.ofBlkAt {b T k : Nat} {cs us : List Value} (m : Has rs (blk b cs T) (blk b cs T) rs) (hu : ∀ (i : Nat) (v : Value), us[i]? = some v → cs[k + i]? = some v) : Sn C F rs (some ⟨b, k, none⟩) us :=
 (Sn.ofBlk (C := C) (F := F) m).part fun j v hv => ⟨_, _, rfl, rfl, rfl, k + j, by rw [add_zero_off, add_zero_off]; simp, hu j v hv⟩
theorem Sn.own {T sz n c : Nat} {base : Option Addr} {v : Value} {cs : List Value} (m : Has rs (ownS T sz v n cs) (ownS T sz v n cs) rs) (e : v = .slice base n c) : Sn C F rs base cs := fun w h hs mv j u hu => by
 obtain ⟨a, c', hv, dj, rfl, _⟩ := Sep.take m hs
 subst e
 rcases hv.2 with ⟨_, rfl, _⟩ | ⟨b, cap, junk, e, _, _, _, fr, hf, rfl⟩
 ·have := hv.1
  have : cs = [] := List.eq_nil_of_length_eq_zero (by simpa using this)
  subst this; cases hu
 ·simp only [Value.slice.injEq] at e
  obtain ⟨rfl, _, _⟩ := e
  have hone : (Heap.one b (.cells (cs ++ junk).toArray T fr)).join c' b = some (.cells (cs ++ junk).toArray T fr) := Heap.le_join_left _ _ b _ (Heap.one_same _ _)
  refine ⟨_, rfl, ?_, .inr (.inl (by rw [hone]; simp))⟩
  have h2 := mv.sub b _ hone
  have hj := (List.getElem?_eq_some_iff.1 hu).1
  rw [add_zero_off]
  simp only [World.cell?, h2]
  simp only [Option.isSome_none, Bool.false_eq_true, if_false, List.getElem?_toArray, Nat.zero_add]
  rw [List.getElem?_append_left hj]; exact hu
theorem Sn.sliced {base : Option Addr} {cs : List Value} {sz p q c : Nat} (s : Sn C F rs base cs) (hq : q ≤ c) (hcs : cs.length = c * sz ∨ q * sz ≤ cs.length) : Sn C F rs (if c = p then base else base.map (·.add (p * sz))) ((cs.drop (p * sz)).take ((q - p) * sz)) := fun w h hs m j v hv => by
 refine Sn.part (C := C) (F := F) (rs := rs) s (part_sliced (sz := sz) (p := p) hq hcs ?_) w h hs m j v hv
 intro i u hu
 obtain ⟨ad, rfl, _⟩ := s w h hs m i u hu
 simp
theorem Sn.take {base : Option Addr} {cs : List Value} (s : Sn C F rs base cs) (n : Nat) : Sn C F rs base (cs.take n) := fun w h hs m j v hv => by
 rw [List.getElem?_take] at hv
 split at hv
 ·exact s w h hs m j v hv
 ·cases hv
/-- What a call asks for. -/
theorem Sn.pre {R0 rest : List HP} {base : Option Addr} {cs : List Value} (s : Sn C F rest base cs) : ∀ w a b, Sep R0 a → Sep rest b → a.Disj b → Move C F.w F.h w (a.join b) → Seen w a base cs := fun w a b ha hb dj m j v hv => by
 obtain ⟨ad, e, hc, hx⟩ := s w b hb (m.le (Heap.le_join_right dj)) j v hv
 refine ⟨ad, e, hc, ?_⟩
 cases hq : a ad.block with
 | none => rfl
 | some o =>
  exfalso
  have hj := Heap.le_join_left a b _ _ hq
  rcases hx with ⟨h1, h2⟩ | h2 | h2
  ·exact m.dom _ _ hj h1 h2
  ·rcases dj ad.block with e1 | e1
   ·rw [e1] at hq; cases hq
   ·exact h2 e1
  ·exact absurd (m.low _ _ hj) (by omega)

/-- A function whose value and whose resources behind it are known beforehand. -/
def SpecR (C : Cx) (f : FuncId) (args : List Value) (pre : World → Heap → Prop) (R0 : List HP) (v : Value) (RS : List HP) : Prop := Spec C f args pre R0 (fun u rs => u = v ∧ rs = RS)
theorem W_callR {xs : List Operand} {ts : Array TypeId} {f : FuncId} {vs : List Value} {v : Value} {pre : World → Heap → Prop} {R0 RS rest : List HP}
  (ho : o.op = .call { callee := .value (.func f), args := xs.toArray, argTypes := ts }) (hd : o.dst = some d) (hn : Nat.blt d F.n = true) (hx : evL l xs = some vs) (hc : callable C.P f = true) (hs : SpecR C f vs pre R0 v RS)
  (sp : Split rs R0 rest) (hp : ∀ w a b, Sep R0 a → Sep rest b → a.Disj b → Move C F.w F.h w (a.join b) → pre w a) (k : St C F ((d, v) :: l) (RS ++ rest) K) : OpW C F l rs o K Q :=
 W_call ho hd hn hx hc hs sp hp fun u rs1 ⟨h1, h2⟩ => by subst h1; subst h2; exact k
end

/-! ### Slices of bytes -/
/-- v is a slice of these bytes, in world w. -/
def Bytes (w : World) (v : Value) (xs : List Int) : Prop := ∃ base c, v = .slice base xs.length c ∧ xs.length ≤ c ∧ Row w base (ints .u8 xs)
/-- A row of slices of bytes. -/
def BytesL (w : World) (vs : List Value) (xss : List (List Int)) : Prop := vs.length = xss.length ∧ ∀ (i : Nat) (v : Value) (xs : List Int), vs[i]? = some v → xss[i]? = some xs → Bytes w v xs

theorem Row.some_ {w : World} {base : Option Addr} {cs : List Value} (h : Row w base cs) (hl : 0 < cs.length) : ∃ b j, base = some ⟨b, j, none⟩ ∧ RowAt w ⟨b, j, none⟩ cs := by
 rcases h.cases with rfl | h
 ·cases hl
 ·exact h
/-- The first k of n places are filled. -/
def fillN (f : Nat → Int) (n k : Nat) : List Int := (List.range n).map fun i => if i < k then f i else 0
theorem fillN_length (f : Nat → Int) (n k : Nat) : (fillN f n k).length = n := by simp [fillN]
theorem fillN_zero (f : Nat → Int) (n : Nat) : fillN f n 0 = List.replicate n 0 := by
 apply List.ext_getElem (by simp [fillN])
 intro i h1 h2; simp [fillN]
theorem fillN_full (f : Nat → Int) (n : Nat) : fillN f n n = (List.range n).map f := by
 apply List.ext_getElem (by simp [fillN])
 intro i h1 h2
 simp only [fillN, List.length_map, List.length_range] at h1
 simp [fillN, h1]
theorem fillN_set (f : Nat → Int) (n k : Nat) : (fillN f n k).set k (f k) = fillN f n (k + 1) := by
 apply List.ext_getElem (by simp [fillN])
 intro i h1 h2
 rw [List.getElem_set]
 by_cases hik : k = i
 ·subst hik; simp [fillN]
 ·have : (i < k) ↔ (i < k + 1) := by omega
  simp [fillN, hik, this]
end Go.Proofs.YtcngmkjdpoiiaaaGreatDoor

/- Walks: the Hasher. Printed by gen.py. -/
set_option maxRecDepth 100000
namespace Go.Proofs.YtcngmkjdpoiiaaaGreatDoor
open Go Go.RowKit Go.Proofs
/-- A Hasher that New or Copy made, which was given xs; 'taken' is its count. -/
def hcore (b : Nat) (xs : List Int) (taken : Int) : HP := ExP (fun p : List Int => p.length = 64 ∧ p.take (xs.length % 64) = rem64 xs) fun p => blk b (hcells true (cmp xs) p (xs.length % 64 : Nat) taken) 406
def hasher (b : Nat) (xs : List Int) : HP := hcore b xs (IntKind.u64.wrap xs.length)
theorem hcore_in {b : Nat} {X W P : List Int} {T H : Int} {rs : List HP} (hW : W = cmp X) (hP : P.length = 64) (hT : P.take (X.length % 64) = rem64 X) (hH : H = ((X.length % 64 : Nat) : Int)) :
  Weak (blk b (hcells true W P H T) 406 :: rs) (hcore b X T :: rs) := by
 subst hW; subst hH
 exact Weak.turn .h0 fun a ha => ⟨P, ⟨hP, hT⟩, ha⟩
theorem writeSmall {X zs P : List Int} (hP : P.length = 64) (hT : P.take (X.length % 64) = rem64 X) (h : X.length % 64 + zs.length < 64) :
  cmp X = cmp (X ++ zs) ∧ (P.take (X.length % 64) ++ zs ++ P.drop (X.length % 64 + zs.length)).length = 64 ∧ (P.take (X.length % 64) ++ zs ++ P.drop (X.length % 64 + zs.length)).take ((X ++ zs).length % 64) = rem64 (X ++ zs) ∧ (((X.length % 64 : Nat) : Int) + (zs.length : Nat)) = (((X ++ zs).length % 64 : Nat) : Int) := by
 obtain ⟨h1, h2, h3⟩ := cmp_small X zs h
 refine ⟨h1.symm, by simp [hP]; omega, ?_, by rw [h3]; omega⟩
 rw [h3, h2, hT, List.take_left' (by rw [List.length_append, rem64_length])]
theorem writeFull {X zs P : List Int} (hP : P.length = 64) (hT : P.take (X.length % 64) = rem64 X) (h : X.length % 64 + zs.length = 64) :
  mixF addsK (cmp X) (P.take (X.length % 64) ++ zs ++ P.drop (X.length % 64 + zs.length)) = cmp (X ++ zs) ∧ (P.take (X.length % 64) ++ zs ++ P.drop (X.length % 64 + zs.length)).length = 64 ∧ (P.take (X.length % 64) ++ zs ++ P.drop (X.length % 64 + zs.length)).take ((X ++ zs).length % 64) = rem64 (X ++ zs) ∧ (0 : Int) = (((X ++ zs).length % 64 : Nat) : Int) := by
 obtain ⟨h1, h2, h3⟩ := cmp_full X zs h
 have e : P.drop (X.length % 64 + zs.length) = [] := List.drop_eq_nil_of_le (by omega)
 refine ⟨by rw [h1, e, List.append_nil, hT], by simp [hP]; omega, by rw [h3, h2]; simp, by rw [h3]; rfl⟩
theorem good_ok (gl : Nat → Obj) (b : Nat) (m : Bool) : SpecV (cx gl) 305 [.pointer (some ⟨b, 0, none⟩)] (fun w => w.cell? ⟨b, 0, none⟩ = some (.bool m)) (.bool m) := by
 refine Spec.enter (C := cx gl) Tryz.func305 rfl 11 rfl rfl fun w0 h0 hsep hsub hpre => ?_
 obtain rfl : h0 = Heap.none := hsep
 show St (cx gl) _ [(0, .pointer (some ⟨b, 0, none⟩))] _ _
 refine rT (lA (k:=?_))
 refine L_nil (qT (rT (lMv (k:=?_))))
 refine lP (P_neNil rfl ty_ptr_383 rfl rfl) (k:=lMv (k:=lMv (k:=lP pN (k:=lP (pF ty_fl_406_0) (k:=?_)))))
 refine lV (V_load rfl rfl ty_sc_4 (Rd.old hpre rfl)) (k:=lP pK (k:=lA (k:=?_)))
 refine lQ (cE 2 rfl .nil) (R_ret ?_)
 exact R_endV rfl rfl (.tmp rfl .nil) (rfl)
theorem new_ok {gl : Nat → Obj} (hG : Globs gl) : Spec (cx gl) 281 [] (fun _ _ => True) [] (fun v rs => ∃ b, v = .pointer (some ⟨b, 0, none⟩) ∧ rs = [hasher b []]) := by
 obtain ⟨T, fr, hg⟩ := hG.begin_
 refine Spec.enter (C := cx gl) Tryz.func281 rfl 4 rfl rfl fun w0 h0 hsep hsub hpre => ?_
 show St (cx gl) _ [] _ _
 refine rT (lA (k:=?_))
 refine L_nil (qT (rT ?_))
 refine lV (V_loadAgg rfl rfl ty_ag_285 (Rds.glob rfl hg) (rfl)) (k:=?_)
 refine lP (P_buildStruct rfl ty_pl_406 ty_ze_406 rfl rfl (rfl)) (k:=?_)
 refine lO (W_box (hcells true beginK (List.replicate 64 0) 0 0) rfl rfl rfl rfl rfl fun b3 => lA (k:=?_))
 refine lQ (cE 0 rfl .nil) (R_ret ?_)
 exact R_end (rs2 := _) rfl rfl (.tmp rfl .nil) (⟨_, rfl, rfl⟩) (hcore_in (T := 0) (H := 0) (X := []) rfl rfl rfl rfl)
set_option maxHeartbeats 1000000 in
theorem write_ok {gl : Nat → Obj} (hG : Globs gl) (b : Nat) (xs ys : List Int) (base : Option Addr) (c : Nat) (hcap : ys.length ≤ c) : SpecR (cx gl) 282 [.pointer (some ⟨b, 0, none⟩), .slice base ys.length c] (fun w h => Seen w h base (ints .u8 ys)) [hasher b xs] (.tuple #[]) [hasher b (xs ++ ys)] := by
 refine Spec.enter (C := cx gl) Tryz.func282 rfl 62 rfl rfl fun w0 h0 hsep hsub hpre => ?_
 show St (cx gl) _ [(0, .pointer (some ⟨b, 0, none⟩)), (1, .slice base ys.length c)] _ _
 refine St.openP [] fun part hpart => ?_
 obtain ⟨hpl, hpr⟩ := hpart
 refine rS (rT (lMv (k:=?_)))
 refine lO (W_callV rfl rfl rfl rfl fn_ca_305 (good_ok gl b true) (fun w nw => Rd.blk .h0 rfl w nw) (lP pO (k:=?_)))
 refine lQ (cE 0 rfl (cE 1 rfl (cE 7 rfl .nil))) (kF (k:=R_skip (qT (rT (lMv (k:=lP pN (k:=lP (pF ty_fl_406_4) (k:=?_))))))))
 refine lV (V_load rfl rfl ty_sc_23 (Rd.blk .h0 (hcells_74 (cmp_length _) hpl))) (k:=lMv (k:=lP (pL ty_sl_198) (k:=?_)))
 refine lP (P_conv rfl ty_int_3 ty_int_23 rfl) (k:=?_)
 refine lP (P_add rfl rfl rfl) (k:=?_)
 refine E_as (t := 15) (v' := .int .u64 (IntKind.u64.wrap ((xs.length : Int) + (ys.length : Int)))) rfl (by rw [wrap64_add]) (lP pN (k:=lP (pF ty_fl_406_4) (k:=?_)))
 refine lO (W_store rfl rfl rfl rfl ty_sc_23 rfl .h0 (by rw [hcells_length (cmp_length _) hpl]; decide) ?_)
 rw [hcells_set74 (cmp_length _) hpl]
 refine lQ (cE 0 rfl (cE 1 rfl .nil)) (R_block ?_)
 refine R_loop (G := Nat × Option Addr × Nat) (fun g => [(0, .pointer (some ⟨b, 0, none⟩)), (1, .slice g.2.1 (ys.length - g.1) g.2.2)]) (fun g => [hcore b (xs ++ ys.take g.1) (IntKind.u64.wrap ((xs.length : Int) + (ys.length : Int)))]) (fun g => g.1 ≤ ys.length ∧ ys.length - g.1 ≤ g.2.2 ∧ Seen w0 h0 g.2.1 (ints .u8 (ys.drop g.1))) (fun g => ys.length - g.1) ((0, base, c)) (⟨Nat.zero_le _, hcap, hpre⟩) (by repeat (first | exact .nil | refine .cons rfl ?_)) (by rw [List.take_zero, List.append_nil]; exact hcore_in rfl hpl hpr rfl) ?_
 rintro ⟨j, base', c'⟩ ⟨hj, hc', hs⟩
 simp only at hj hc' hs
 show St (cx gl) _ [(0, .pointer (some ⟨b, 0, none⟩)), (1, .slice base' (ys.length - j) c')] [hcore b (xs ++ ys.take j) (IntKind.u64.wrap ((xs.length : Int) + (ys.length : Int)))] _
 refine rS (rT (lMv (k:=lP (pL ty_sl_198) (k:=lP pGt (k:=?_)))))
 refine L_nil (qT ?_)
 refine R_condP rfl (fun hgt => ?_) (fun hgt => ?_)
 ·skip
  refine St.openP [] fun part hpart => ?_
  obtain ⟨hpl, hpr⟩ := hpart
  obtain ⟨k, hk⟩ : ∃ k, k = Nat.min (ys.length - j) (64 - (xs ++ ys.take j).length % 64) := ⟨_, rfl⟩
  have hmin : k = min (ys.length - j) (64 - (xs ++ ys.take j).length % 64) := hk
  have hx64 : (xs ++ ys.take j).length % 64 < 64 := Nat.mod_lt _ (by decide)
  have hzl : ((ys.drop j).take k).length = k := by rw [List.length_take, List.length_drop]; omega
  have hxe : xs ++ ys.take (j + k) = (xs ++ ys.take j) ++ ((ys.drop j).take k) := by rw [List.take_add, List.append_assoc]
  have hs2 := Seen.sliced (sz := 1) (p := k) (q := ys.length - j) hs hc' (.inr (by rw [ints_length, List.length_drop]; omega))
  have hnext : Seen w0 h0 (if c' = k then base' else base'.map (·.add (k * 1))) (ints .u8 (ys.drop (j + k))) := by have h := hs2; simp only [Nat.mul_one, ints_drop, List.drop_drop, ints_take] at h; rw [List.take_of_length_le (by rw [List.length_drop]; omega)] at h; rw [Nat.mul_one]; exact h
  refine R_skip (qT (R_block (rS ?_)))
  refine R_open [(0, 0), (1, 0), (2, 0), (3, 0), (4, 0), (5, 0), (6, 1), (7, 0), (8, 0), (9, 3), (10, 0)] mixed (by kernel_rfl) (QOk.then (QOk.block (QOk.then (QOk.block QOk.body)))) (oP rfl pM (k:=oP rfl pN (k:=oP rfl (pF ty_fl_406_2) (k:=oP rfl pM (k:=oP rfl pN (k:=oP rfl (pF ty_fl_406_3) (k:=?_)))))))
  refine oV rfl (V_load rfl rfl ty_sc_3 (Rd.blk .h0 (hcells_73 (cmp_length _) hpl))) (k:=?_)
  refine oP rfl (P_sliceArr ((xs ++ ys.take j).length % 64) 64 rfl ty_ar_404 rfl ⟨_, rfl⟩ rfl (by omega) (by omega)) (k:=?_)
  refine E_as (t := 28) (v' := .slice (some ⟨b, 9 + (xs ++ ys.take j).length % 64, none⟩) (64 - (xs ++ ys.take j).length % 64) (64 - (xs ++ ys.take j).length % 64)) rfl (by rw [if_neg (by omega), Nat.mul_one]) (oP rfl pM (k:=?_))
  refine O_new rfl rfl (W_copy (k := k) (news := ints .u8 ((ys.drop j).take k)) rfl rfl rfl ty_sl_198 rfl rfl rfl (hk) (fun w nw => by have := Src.part (C := cx gl) (sz := 1) (k := k) (m := ys.length - j) (c := c') (Sn.old hs).rw_ (by rw [ints_length, List.length_drop]; omega) w nw; rwa [Nat.mul_one, ints_take] at this) (ints_one) .h0 (by rw [hcells_length (cmp_length _) hpl, ints_length, hzl]; omega) (K_new ?_))
  rw [hcells_setPart (cmp_length _) hpl _ _ (by rw [hzl]; omega)]
  refine oP rfl pA (k:=O_nil (qT (rT ?_)))
  have hpl2 : (part.take ((xs ++ ys.take j).length % 64) ++ ((ys.drop j).take k) ++ part.drop ((xs ++ ys.take j).length % 64 + ((ys.drop j).take k).length)).length = 64 := by rw [List.length_append, List.length_append, List.length_take, List.length_drop, hzl, hpl]; omega
  refine lMv (k:=lP pN (k:=lP (pF ty_fl_406_3) (k:=?_)))
  refine lV (V_load rfl rfl ty_sc_3 (Rd.blk .h0 (hcells_73 (cmp_length _) hpl2))) (k:=lMv (k:=?_))
  first | (refine L_val rfl rfl rfl (OpP.v (P_addN rfl rfl rfl (by simp only [fits]; omega))) ?_) | (refine L_val rfl rfl rfl (OpP.v (P_add rfl rfl rfl)) ?_)
  refine lP pN (k:=lP (pF ty_fl_406_3) (k:=?_))
  refine lO (W_store rfl rfl rfl rfl ty_sc_3 rfl .h0 (by rw [hcells_length (cmp_length _) hpl2]; decide) ?_)
  rw [hcells_set73 (cmp_length _) hpl2]
  refine L_nil (qT (rT (lMv (k:=lMv (k:=?_)))))
  refine lP (P_slice k (ys.length - j) rfl ty_sl_198 rfl ⟨_, rfl⟩ rfl (by omega) (by omega)) (k:=?_)
  refine E_as (t := 41) (v' := .slice (if c' = k then base' else base'.map (·.add (k * 1))) (ys.length - (j + k)) (c' - k)) rfl (by unfold sliced; rw [Nat.sub_sub]) (lA (k:=?_))
  refine L_nil (qT (rT (lMv (k:=lP pN (k:=lP (pF ty_fl_406_3) (k:=?_))))))
  refine lV (V_load rfl rfl ty_sc_3 (Rd.blk .h0 (hcells_73 (cmp_length _) hpl2))) (k:=lP pEq (k:=?_))
  refine L_nil (qT ?_)
  refine R_condP rfl (fun hfull => ?_) (fun hfull => ?_)
  ·skip
   refine R_open [(0, 0), (1, 0), (2, 0), (3, 0), (4, 0), (5, 1), (6, 0), (7, 0), (8, 0), (9, 1), (10, 2), (11, 0), (12, 0), (13, 3), (14, 0), (15, 0), (16, 3)] mixed (by kernel_rfl) (QOk.block (QOk.then (QOk.block QOk.body))) (oP rfl pM (k:=oP rfl pM (k:=oP rfl pM (k:=oP rfl pN (k:=oP rfl (pF ty_fl_406_1) (k:=?_))))))
   refine oV rfl (V_loadAgg rfl rfl ty_ag_403 (Rds.part (Rds.blk .h0) 1 fun i v hv => hcells_words (cmp_length _) hpl2 i v hv) (by rw [ints_length, cmp_length])) (k:=oP rfl pM (k:=oP rfl pN (k:=oP rfl (pF ty_fl_406_2) (k:=?_))))
   refine oV rfl (V_loadAgg rfl rfl ty_ag_404 (Rds.part (Rds.blk .h0) 9 fun i v hv => hcells_part (cmp_length _) hpl2 i v hv) (by rw [ints_length, hpl2])) (k:=?_)
   refine O_keep rfl rfl (W_callV rfl rfl rfl rfl fn_ca_306 (mix_ok hG.adds (cmp (xs ++ ys.take j)) (part.take ((xs ++ ys.take j).length % 64) ++ ((ys.drop j).take k) ++ part.drop ((xs ++ ys.take j).length % 64 + ((ys.drop j).take k).length)) (cmp_length _) hpl2) (fun _ _ => trivial) (K_keep (Weak.refl _) (oP rfl pN (k:=oP rfl (pF ty_fl_406_1) (k:=?_)))))
   refine O_new rfl rfl (W_storeAgg rfl rfl rfl rfl ty_ag_403 (by rw [ints_length, mixF_length, cmp_length]) (ints_one) .h0 (by rw [hcells_length (cmp_length _) hpl2, ints_length, mixF_length, cmp_length]; decide) (K_new ?_))
   rw [hcells_setWords (cmp_length _) hpl2 _ (by rw [mixF_length, cmp_length])]
   refine oP rfl pN (k:=oP rfl (pF ty_fl_406_3) (k:=?_))
   refine O_new rfl rfl (W_store rfl rfl rfl rfl ty_sc_3 rfl .h0 (by rw [hcells_length (by rw [mixF_length, cmp_length]) hpl2]; decide) (K_new ?_))
   rw [hcells_set73 (by rw [mixF_length, cmp_length]) hpl2]
   refine O_nil (Q_block ?_)
   show St (cx gl) _ _ _ _
   exact Q_round (j + k, (if c' = k then base' else base'.map (·.add (k * 1))), c' - k) (⟨by simp only; omega, by simp only; omega, hnext⟩) (by simp only; omega) (by repeat (first | exact .nil | refine .cons rfl ?_)) (by simp only; rw [hxe]; first | (obtain ⟨e1, e2, e3, e4⟩ := writeFull (zs := ((ys.drop j).take k)) hpl hpr (by omega); exact hcore_in e1 e2 e3 e4) | (obtain ⟨e1, e2, e3, e4⟩ := writeSmall (zs := ((ys.drop j).take k)) hpl hpr (by omega); exact hcore_in e1 e2 e3 (by rw [← e4, hzl])))
  ·skip
   refine R_skip (Q_block ?_)
   show St (cx gl) _ _ _ _
   exact Q_round (j + k, (if c' = k then base' else base'.map (·.add (k * 1))), c' - k) (⟨by simp only; omega, by simp only; omega, hnext⟩) (by simp only; omega) (by repeat (first | exact .nil | refine .cons rfl ?_)) (by simp only; rw [hxe]; first | (obtain ⟨e1, e2, e3, e4⟩ := writeFull (zs := ((ys.drop j).take k)) hpl hpr (by omega); exact hcore_in e1 e2 e3 e4) | (obtain ⟨e1, e2, e3, e4⟩ := writeSmall (zs := ((ys.drop j).take k)) hpl hpr (by omega); exact hcore_in e1 e2 e3 (by rw [← e4, hzl])))
 ·skip
  refine R_exit (Q_then_exit (Q_then_exit (Q_block_eq ?_)))
  refine St.env (.nil) ?_
  have hje : j = ys.length := by omega
  subst hje
  rw [List.take_length]
  exact R_end0 (rs2 := [hasher b (xs ++ ys)]) rfl rfl (.nil) (⟨rfl, rfl⟩) (by unfold hasher; rw [List.length_append, Int.natCast_add]; exact Weak.refl _)
end Go.Proofs.YtcngmkjdpoiiaaaGreatDoor

/- Walks: the Hasher's Sum and Copy. Printed by gen.py. -/
set_option maxRecDepth 100000
namespace Go.Proofs.YtcngmkjdpoiiaaaGreatDoor
open Go Go.RowKit Go.Proofs
theorem hcells_one {made : Bool} {ws part : List Int} {held taken : Int} : ∀ v ∈ hcells made ws part held taken, v.oneCell' = true := fun v hv => by
 simp only [hcells, List.mem_append, List.mem_singleton, List.mem_cons, List.not_mem_nil, or_false] at hv
 rcases hv with ((rfl | h) | h) | (rfl | rfl)
 ·rfl
 ·exact ints_one v h
 ·exact ints_one v h
 ·rfl
 ·rfl
def lenF (n : Nat) (j : Nat) : Int := IntKind.u8.wrap (shrI .u64 (IntKind.u64.wrap (IntKind.u64.wrap (n : Int) * 8)) (56 - 8 * (j : Int)))
def outF (ws : List Int) (i : Nat) : Int := IntKind.u8.wrap (shrI .u32 (ws.getD (i / 4) 0) (24 - 8 * ((i % 4 : Nat) : Int)))
theorem outF_at (ws : List Int) (i k : Nat) (h : k < 4) : outF ws (4 * i + k) = IntKind.u8.wrap (shrI .u32 (ws.getD i 0) (24 - 8 * (k : Int))) := by
 unfold outF
 rw [show (4 * i + k) / 4 = i by omega, show (4 * i + k) % 4 = k by omega]
set_option maxHeartbeats 1000000 in
theorem hsum_ok {gl : Nat → Obj} (hG : Globs gl) (b : Nat) (xs : List Int) : SpecR (cx gl) 283 [.pointer (some ⟨b, 0, none⟩)] (fun _ _ => True) [hasher b xs] (.agg (ints .u8 (sha xs)).toArray) [hasher b xs] := by
 refine Spec.enter (C := cx gl) Tryz.func283 rfl 65 rfl rfl fun w0 h0 hsep hsub hpre => ?_
 show St (cx gl) _ [(0, .pointer (some ⟨b, 0, none⟩))] _ _
 refine St.openP [] fun part hpart => ?_
 obtain ⟨hpl, hpr⟩ := hpart
 refine rT ?_
 refine lO (W_alloc rfl rfl rfl ty_ze_40 fun b2 => ?_)
 refine L_nil (qT (rS (rT (lMv (k:=?_)))))
 refine lO (W_callV rfl rfl rfl rfl fn_ca_305 (good_ok gl b true) (fun w nw => Rd.blk .h1 rfl w nw) (lP pO (k:=?_)))
 refine lQ (cE 0 rfl (cE 2 rfl (cE 13 rfl .nil))) (kF (k:=R_skip (qT (rT (lMv (k:=lP pN (k:=?_)))))))
 refine lV (V_loadAgg rfl rfl ty_ag_406 (Rds.blk .h1) (hcells_length (cmp_length _) hpl)) (k:=?_)
 refine lO (W_alloc rfl rfl rfl ty_ze_406 fun b3 => ?_)
 refine lO (W_storeAll rfl rfl rfl rfl ty_ag_406 (hcells_length (cmp_length _) hpl) (hcells_one) .h0 (by rw [hcells_length (cmp_length _) hpl]; rfl) ?_)
 refine lQ (cE 2 rfl (cE 3 rfl .nil)) (rT (lP (pF ty_fl_406_4) (k:=?_)))
 refine lV (V_load rfl rfl ty_sc_23 (Rd.blk .h0 (hcells_74 (cmp_length _) hpl))) (k:=?_)
 refine lP (P_mul rfl rfl rfl) (k:=lA (k:=?_))
 refine lQ (cE 2 rfl (cE 3 rfl (cE 4 rfl .nil))) (rT ?_)
 refine lO (W_lit (z := .nilIface) (ints .u8 [128]) rfl rfl rfl ty_sl_198 ty_lz_198 rfl rfl rfl (by decide) (by decide) (by simp [Value.cells]) (rfl) fun b21 => ?_)
 refine St.res (rs' := [blk b21 (ints .u8 [128]) 5, hasher b3 xs, blk b2 (List.replicate 32 (.int .u8 0)) 40, blk b (hcells true (cmp xs) part (xs.length % 64 : Nat) (IntKind.u64.wrap xs.length)) 406]) (Weak.keep (hcore_in rfl hpl hpr rfl)) ?_
 refine lO (W_callR rfl rfl rfl rfl fn_ca_282 (write_ok hG b3 xs [128] (some ⟨b21, 0, none⟩) 1 (by decide)) (Split.one (p := [_])) (Sn.pre (Sn.ofBlk .h0)) ?_)
 refine St.res (rs' := [hasher b3 (xs ++ [128]), blk b2 (List.replicate 32 (.int .u8 0)) 40, blk b (hcells true (cmp xs) part (xs.length % 64 : Nat) (IntKind.u64.wrap xs.length)) 406]) (Weak.keep (Weak.drop (Weak.refl _))) ?_
 refine lQ (cE 2 rfl (cE 3 rfl (cE 4 rfl .nil))) (rS (R_block ?_))
 refine R_loop (G := Nat) (fun k => [(2, .pointer (some ⟨b2, 0, none⟩)), (3, .pointer (some ⟨b3, 0, none⟩)), (4, .int .u64 (IntKind.u64.wrap (IntKind.u64.wrap xs.length * 8)))]) (fun k => [hasher b3 (xs ++ [128] ++ List.replicate k 0), blk b2 (List.replicate 32 (.int .u8 0)) 40, blk b (hcells true (cmp xs) part (xs.length % 64 : Nat) (IntKind.u64.wrap xs.length)) 406]) (fun k => k ≤ padZ xs.length) (fun k => padZ xs.length - k) (0) (by omega) (by repeat (first | exact .nil | refine .cons rfl ?_)) (by simp only [List.replicate_zero, List.append_nil]; exact Weak.refl _) ?_
 intro k hk
 have hYl : (xs ++ [128] ++ List.replicate k 0).length = xs.length + 1 + k := by simp only [List.length_append, List.length_cons, List.length_nil, List.length_replicate]
 refine St.openP [] fun p2 hp2 => ?_
 obtain ⟨h2l, h2r⟩ := hp2
 refine rS (rT (lP (pF ty_fl_406_3) (k:=?_)))
 refine lV (V_load rfl rfl ty_sc_3 (Rd.blk .h0 (hcells_73 (cmp_length _) h2l))) (k:=lP pNe (k:=?_))
 refine L_nil (qT ?_)
 refine R_condP rfl (fun hne => ?_) (fun hne => ?_)
 ·skip
  refine R_skip (qT (R_block (rR ?_)))
  refine lO (W_lit (z := .nilIface) (ints .u8 [0]) rfl rfl rfl ty_sl_198 ty_lz_198 rfl rfl rfl (by decide) (by decide) (by simp [Value.cells]) (rfl) fun b26 => ?_)
  refine St.res (rs' := [blk b26 (ints .u8 [0]) 5, hasher b3 (xs ++ [128] ++ List.replicate k 0), blk b2 (List.replicate 32 (.int .u8 0)) 40, blk b (hcells true (cmp xs) part (xs.length % 64 : Nat) (IntKind.u64.wrap xs.length)) 406]) (Weak.keep (hcore_in rfl h2l h2r rfl)) ?_
  refine lO (W_callR rfl rfl rfl rfl fn_ca_282 (write_ok hG b3 (xs ++ [128] ++ List.replicate k 0) [0] (some ⟨b26, 0, none⟩) 1 (by decide)) (Split.one (p := [_])) (Sn.pre (Sn.ofBlk .h0)) ?_)
  refine St.res (rs' := [hasher b3 ((xs ++ [128] ++ List.replicate k 0) ++ [0]), blk b2 (List.replicate 32 (.int .u8 0)) 40, blk b (hcells true (cmp xs) part (xs.length % 64 : Nat) (IntKind.u64.wrap xs.length)) 406]) (Weak.keep (Weak.drop (Weak.refl _))) ?_
  refine lE (cE 2 rfl (cE 3 rfl (cE 4 rfl (cE 23 rfl (cE 24 rfl (cE 25 rfl (cE 26 rfl .nil))))))) (Q_block ?_)
  have hYn : (xs ++ [128] ++ List.replicate k 0) ++ [0] = xs ++ [128] ++ List.replicate (k + 1) 0 := by rw [List.replicate_succ', ← List.append_assoc]
  exact Q_round (k + 1) (by unfold padZ at *; omega) (by unfold padZ at *; omega) (by repeat (first | exact .nil | refine .cons rfl ?_)) (by rw [← hYn]; exact Weak.refl _)
 ·skip
  obtain rfl : k = padZ xs.length := by unfold padZ at *; omega
  refine St.res (rs' := [hasher b3 (xs ++ [128] ++ List.replicate (padZ xs.length) 0), blk b2 (List.replicate 32 (.int .u8 0)) 40, blk b (hcells true (cmp xs) part (xs.length % 64 : Nat) (IntKind.u64.wrap xs.length)) 406]) (hcore_in rfl h2l h2r rfl) (R_exit (Q_then_exit (Q_then_exit (Q_block_eq ?_))))
  refine St.env (cE 2 rfl (cE 3 rfl (cE 4 rfl .nil))) (qT (rT ?_))
  refine lO (W_alloc rfl rfl rfl ty_ze_408 fun b5 => ?_)
  refine L_nil (qT (rS (rT (lMv (k:=?_)))))
  refine L_nil (qT (R_block ?_))
  refine R_loop (G := Nat) (fun k => [(2, .pointer (some ⟨b2, 0, none⟩)), (3, .pointer (some ⟨b3, 0, none⟩)), (4, .int .u64 (IntKind.u64.wrap (IntKind.u64.wrap xs.length * 8))), (5, .pointer (some ⟨b5, 0, none⟩)), (28, .int .i64 (k : Int))]) (fun k => [blk b5 (ints .u8 (fillN (lenF xs.length) 8 k)) 408, hasher b3 (xs ++ [128] ++ List.replicate (padZ xs.length) 0), blk b2 (List.replicate 32 (.int .u8 0)) 40, blk b (hcells true (cmp xs) part (xs.length % 64 : Nat) (IntKind.u64.wrap xs.length)) 406]) (fun k => k ≤ 8) (fun k => 8 - k) (0) (by omega) (by repeat (first | exact .nil | refine .cons rfl ?_)) (by rw [fillN_zero]; exact Weak.refl _) ?_
  intro k hk
  refine rT (lP pLt (k:=?_))
  refine L_nil (qT (rS ?_))
  refine R_condP rfl (fun hlt => ?_) (fun hlt => ?_)
  ·skip
   refine R_skip (qT (rS (R_block (rT (lMv (k:=lA (k:=?_)))))))
   refine L_nil (qT (rR (lMv (k:=lMv (k:=lMv (k:=?_))))))
   first | (refine L_val rfl rfl rfl (OpP.v (P_mulN rfl rfl rfl (by simp only [fits]; omega))) ?_) | (refine L_val rfl rfl rfl (OpP.v (P_mul rfl rfl rfl)) ?_)
   first | (refine L_val rfl rfl rfl (OpP.v (P_subN rfl rfl rfl (by simp only [fits]; omega))) ?_) | (refine L_val rfl rfl rfl (OpP.v (P_sub rfl rfl rfl)) ?_)
   refine lP (P_shr rfl rfl rfl (by omega)) (k:=?_)
   refine lP (P_conv rfl ty_int_23 ty_int_5 rfl) (k:=?_)
   first | (refine L_val rfl rfl rfl (OpP.v (P_ixa0 (k) rfl ty_ar_408 rfl rfl (by first | rfl | omega) (by omega))) ?_) | (refine L_val rfl rfl rfl (OpP.v (P_ixa (k) rfl ty_ar_408 rfl rfl (by first | rfl | omega) (by omega))) ?_)
   refine lO (W_store rfl rfl rfl rfl ty_sc_5 rfl .h0 (by rw [ints_length, fillN_length]; omega) ?_)
   rw [ints_set]
   refine L_nil (Q_block (qT (rR ?_)))
   first | (refine L_val rfl rfl rfl (OpP.v (P_addN rfl rfl rfl (by simp only [fits]; omega))) ?_) | (refine L_val rfl rfl rfl (OpP.v (P_add rfl rfl rfl)) ?_)
   refine lMv (k:=?_)
   refine L_nil ?_
   refine E_nat (t := 28) (n := k + 1) rfl (by omega) ?_
   exact Q_round (k + 1) (by omega) (by omega) (by repeat (first | exact .nil | refine .cons rfl ?_)) (by rw [← fillN_set]; exact Weak.refl _)
  ·skip
   obtain rfl : k = 8 := by omega
   rw [fillN_full]
   refine R_exit (Q_then_exit (Q_then_exit (Q_block_eq ?_)))
   refine St.env (cE 2 rfl (cE 3 rfl (cE 5 rfl .nil))) (qT (rT ?_))
   refine lP (P_sliceAll rfl ty_ar_408 rfl) (k:=?_)
   refine lO (W_callR rfl rfl rfl rfl fn_ca_282 (write_ok hG b3 (xs ++ [128] ++ List.replicate (padZ xs.length) 0) (lenB xs.length) (some ⟨b5, 0, none⟩) 8 (by rw [lenB_length]; decide)) (Split.one (p := [_])) (Sn.pre (Sn.ofBlk .h0)) ?_)
   refine St.res (rs' := [hasher b3 (padded xs), blk b2 (List.replicate 32 (.int .u8 0)) 40, blk b (hcells true (cmp xs) part (xs.length % 64 : Nat) (IntKind.u64.wrap xs.length)) 406]) (Weak.keep (Weak.drop (Weak.refl _))) ?_
   refine lQ (cE 2 rfl (cE 3 rfl .nil)) (rT ?_)
   refine lO (W_alloc rfl rfl rfl ty_ze_40 fun b7 => ?_)
   refine St.openP [_] fun p3 hp3 => ?_
   obtain ⟨h3l, h3r⟩ := hp3
   refine L_nil (qT (rS (rT (lP (pF ty_fl_406_1) (k:=?_)))))
   refine lV (V_loadAgg rfl rfl ty_ag_403 (Rds.part (Rds.blk .h1) 1 fun i v hv => hcells_words (cmp_length _) h3l i v hv) (by rw [ints_length, cmp_length])) (k:=lMv (k:=?_))
   refine lQ (cE 2 rfl (cE 7 rfl (cE 43 rfl (cE 44 rfl .nil)))) (R_block ?_)
   refine R_loop (G := Nat) (fun i => [(2, .pointer (some ⟨b2, 0, none⟩)), (7, .pointer (some ⟨b7, 0, none⟩)), (43, .agg (ints .u32 (cmp (padded xs))).toArray), (44, .int .i64 (i : Int))]) (fun i => [blk b7 (ints .u8 (fillN (outF (cmp (padded xs))) 32 (4 * i))) 40, blk b3 (hcells true (cmp (padded xs)) p3 ((padded xs).length % 64 : Nat) (IntKind.u64.wrap (padded xs).length)) 406, blk b2 (List.replicate 32 (.int .u8 0)) 40, blk b (hcells true (cmp xs) part (xs.length % 64 : Nat) (IntKind.u64.wrap xs.length)) 406]) (fun i => i ≤ 8) (fun i => 8 - i) (0) (by omega) (by repeat (first | exact .nil | refine .cons rfl ?_)) (by rw [Nat.mul_zero, fillN_zero]; exact Weak.refl _) ?_
   intro i hi
   refine rT (lP pLt (k:=?_))
   refine L_nil (qT (rS ?_))
   refine R_condP rfl (fun hli => ?_) (fun hli => ?_)
   ·skip
    refine R_skip (qT (rS (R_block (rT (lMv (k:=?_))))))
    refine lP (P_index (i) rfl ty_ar_403 ty_sc_82 rfl rfl (by first | rfl | omega) (by omega) (ints_at (by rw [cmp_length]; omega))) (k:=lA (k:=lA (k:=?_)))
    refine L_nil (qT (rT (lMv (k:=?_))))
    refine L_nil (qT (R_block ?_))
    refine R_loop (G := Nat) (fun k => [(2, .pointer (some ⟨b2, 0, none⟩)), (7, .pointer (some ⟨b7, 0, none⟩)), (8, .int .i64 (i : Int)), (9, .int .u32 ((cmp (padded xs)).getD i 0)), (43, .agg (ints .u32 (cmp (padded xs))).toArray), (44, .int .i64 (i : Int)), (46, .int .i64 (i : Int)), (47, .int .u32 ((cmp (padded xs)).getD i 0)), (48, .int .i64 (k : Int))]) (fun k => [blk b7 (ints .u8 (fillN (outF (cmp (padded xs))) 32 (4 * i + k))) 40, blk b3 (hcells true (cmp (padded xs)) p3 ((padded xs).length % 64 : Nat) (IntKind.u64.wrap (padded xs).length)) 406, blk b2 (List.replicate 32 (.int .u8 0)) 40, blk b (hcells true (cmp xs) part (xs.length % 64 : Nat) (IntKind.u64.wrap xs.length)) 406]) (fun k => k ≤ 4) (fun k => 4 - k) (0) (by omega) (by repeat (first | exact .nil | refine .cons rfl ?_)) (Weak.refl _) ?_
    intro k hk
    refine rT (lP pLt (k:=?_))
    refine L_nil (qT (rS ?_))
    refine R_condP rfl (fun hlk => ?_) (fun hlk => ?_)
    ·skip
     refine R_skip (qT (rS (R_block (rT (lMv (k:=lA (k:=?_)))))))
     refine L_nil (qT (rR (lMv (k:=?_))))
     first | (refine L_val rfl rfl rfl (OpP.v (P_mulN rfl rfl rfl (by simp only [fits]; omega))) ?_) | (refine L_val rfl rfl rfl (OpP.v (P_mul rfl rfl rfl)) ?_)
     refine lMv (k:=?_)
     first | (refine L_val rfl rfl rfl (OpP.v (P_addN rfl rfl rfl (by simp only [fits]; omega))) ?_) | (refine L_val rfl rfl rfl (OpP.v (P_add rfl rfl rfl)) ?_)
     refine lMv (k:=lMv (k:=?_))
     first | (refine L_val rfl rfl rfl (OpP.v (P_mulN rfl rfl rfl (by simp only [fits]; omega))) ?_) | (refine L_val rfl rfl rfl (OpP.v (P_mul rfl rfl rfl)) ?_)
     first | (refine L_val rfl rfl rfl (OpP.v (P_subN rfl rfl rfl (by simp only [fits]; omega))) ?_) | (refine L_val rfl rfl rfl (OpP.v (P_sub rfl rfl rfl)) ?_)
     refine lP (P_shr rfl rfl rfl (by omega)) (k:=?_)
     refine lP (P_conv rfl ty_int_82 ty_int_5 rfl) (k:=?_)
     first | (refine L_val rfl rfl rfl (OpP.v (P_ixa0 (4 * i + k) rfl ty_ar_40 rfl rfl (by first | rfl | omega) (by omega))) ?_) | (refine L_val rfl rfl rfl (OpP.v (P_ixa (4 * i + k) rfl ty_ar_40 rfl rfl (by first | rfl | omega) (by omega))) ?_)
     refine lO (W_store rfl rfl rfl rfl ty_sc_5 rfl .h0 (by rw [ints_length, fillN_length]; omega) ?_)
     rw [ints_set]
     refine L_nil (Q_block (qT (rR ?_)))
     first | (refine L_val rfl rfl rfl (OpP.v (P_addN rfl rfl rfl (by simp only [fits]; omega))) ?_) | (refine L_val rfl rfl rfl (OpP.v (P_add rfl rfl rfl)) ?_)
     refine lMv (k:=?_)
     refine L_nil ?_
     refine E_nat (t := 48) (n := k + 1) rfl (by omega) ?_
     exact Q_round (k + 1) (by omega) (by omega) (by repeat (first | exact .nil | refine .cons rfl ?_)) (by rw [← Nat.add_assoc, ← fillN_set, outF_at _ _ _ (by omega)]; exact Weak.refl _)
    ·skip
     obtain rfl : k = 4 := by omega
     refine R_exit (Q_then_exit (Q_then_exit (Q_block_eq (Q_block (qT (rR ?_))))))
     first | (refine L_val rfl rfl rfl (OpP.v (P_addN rfl rfl rfl (by simp only [fits]; omega))) ?_) | (refine L_val rfl rfl rfl (OpP.v (P_add rfl rfl rfl)) ?_)
     refine lMv (k:=?_)
     refine L_nil ?_
     refine E_nat (t := 44) (n := i + 1) rfl (by omega) ?_
     exact Q_round (i + 1) (by omega) (by omega) (by repeat (first | exact .nil | refine .cons rfl ?_)) (Weak.refl _)
   ·skip
    obtain rfl : i = 8 := by omega
    rw [show 4 * 8 = 32 from rfl, fillN_full]
    refine St.res (rs' := [blk b7 (ints .u8 (sha xs)) 40, blk b3 (hcells true (cmp (padded xs)) p3 ((padded xs).length % 64 : Nat) (IntKind.u64.wrap (padded xs).length)) 406, blk b2 (List.replicate 32 (.int .u8 0)) 40, blk b (hcells true (cmp xs) part (xs.length % 64 : Nat) (IntKind.u64.wrap xs.length)) 406]) (Weak.refl _) (R_exit (Q_then_exit (Q_then_exit (Q_block_eq ?_))))
    refine St.env (cE 2 rfl (cE 7 rfl .nil)) (qT (rT ?_))
    refine lV (V_loadAgg rfl rfl ty_ag_40 (Rds.blk .h0) (by rw [ints_length, sha_length])) (k:=?_)
    refine lO (W_storeAll rfl rfl rfl rfl ty_ag_40 (by rw [ints_length, sha_length]) (ints_one) .h2 (by rw [ints_length, sha_length]; rfl) ?_)
    refine lQ (cE 2 rfl .nil) (R_ret ?_)
    exact R_end (rs2 := [hasher b xs]) rfl rfl (.cell rfl (Rds.loadVar ty_ag_40 (Rds.blk .h2) (by rw [ints_length, sha_length])) .nil) (⟨rfl, rfl⟩) (Weak.drop (Weak.drop (Weak.drop (hcore_in rfl hpl hpr rfl))))
end Go.Proofs.YtcngmkjdpoiiaaaGreatDoor

/- Walks: digests of bytes, of items and of two digests. Printed by gen.py. -/
set_option maxRecDepth 100000
namespace Go.Proofs.YtcngmkjdpoiiaaaGreatDoor
open Go Go.RowKit Go.Proofs
theorem BytesL.nil {w : World} : BytesL w [] [] := ⟨rfl, fun _ _ _ h => by cases h⟩
theorem BytesL.cons {w : World} {v : Value} {vs : List Value} {xs : List Int} {xss : List (List Int)} (h : Bytes w v xs) (t : BytesL w vs xss) : BytesL w (v :: vs) (xs :: xss) :=
 ⟨by rw [List.length_cons, List.length_cons, t.1], fun i u us h1 h2 => by
  cases i with
  | zero =>
   simp only [List.getElem?_cons_zero, Option.some.injEq] at h1 h2
   subst h1; subst h2; exact h
  | succ i => exact t.2 i u us h1 h2⟩
theorem BytesL.at_ {w : World} {vs : List Value} {xss : List (List Int)} (h : BytesL w vs xss) {k : Nat} (hk : k < xss.length) : ∃ base c ys, vs[k]? = some (.slice base ys.length c) ∧ xss[k]? = some ys ∧ ys.length ≤ c ∧ Row w base (ints .u8 ys) := by
 have hk' : k < vs.length := by rw [h.1]; exact hk
 obtain ⟨base, c, e, h1, h2⟩ := h.2 k vs[k] xss[k] (List.getElem?_eq_getElem hk') (List.getElem?_eq_getElem hk)
 exact ⟨base, c, xss[k], by rw [List.getElem?_eq_getElem hk', e], List.getElem?_eq_getElem hk, h1, h2⟩
theorem flatten_next {xss : List (List Int)} {k : Nat} {ys : List Int} (h : xss[k]? = some ys) : (xss.take (k + 1)).flatten = (xss.take k).flatten ++ ys := by
 rw [List.take_add_one, h]; simp
theorem joined_ok {gl : Nat → Obj} (hG : Globs gl) (base : Option Addr) (c : Nat) (vs : List Value) (xss : List (List Int)) (hvs : vs.length = xss.length) (hc : vs.length ≤ c) (hmax : vs.length ≤ 9223372036854775806) : SpecV (cx gl) 234 [.slice base vs.length c] (fun w => Row w base vs ∧ BytesL w vs xss) (.agg (ints .u8 (sha xss.flatten)).toArray) := by
 refine Spec.enter (C := cx gl) Tryz.func234 rfl 19 rfl rfl fun w0 h0 hsep hsub hpre => ?_
 obtain rfl : h0 = Heap.none := hsep
 show St (cx gl) _ [(0, .slice base vs.length c)] _ _
 refine rT ?_
 refine lO (W_alloc rfl rfl rfl ty_ze_40 fun b2 => ?_)
 refine L_nil (qT (rT ?_))
 refine lO (W_call rfl rfl rfl rfl fn_ca_281 (new_ok hG) (Split.nil _) (fun _ _ _ _ _ _ _ => trivial) fun v rs1 ⟨b3, e1, e2⟩ => ?_)
 subst e1; subst e2
 refine St.res (rs' := [hasher b3 [], blk b2 (List.replicate 32 (.int .u8 0)) 40]) (Weak.refl _) (lA (k:=?_))
 refine lQ (cE 0 rfl (cE 2 rfl (cE 3 rfl .nil))) (rS (rT (lMv (k:=lP (pL ty_sl_195) (k:=lMv (k:=?_))))))
 refine lQ (cE 2 rfl (cE 3 rfl (cE 7 rfl (cE 8 rfl (cE 9 rfl .nil))))) (R_block ?_)
 refine R_loop (G := Nat) (fun k => [(2, .pointer (some ⟨b2, 0, none⟩)), (3, .pointer (some ⟨b3, 0, none⟩)), (7, .slice base vs.length c), (8, .int .i64 ((vs.length : Nat) : Int)), (9, .int .i64 (k : Int))]) (fun k => [hasher b3 (xss.take k).flatten, blk b2 (List.replicate 32 (.int .u8 0)) 40]) (fun k => k ≤ vs.length) (fun k => vs.length - k) (0) (by omega) (by repeat (first | exact .nil | refine .cons rfl ?_)) (Weak.refl _) ?_
 intro k hk
 refine rT (lP pLt (k:=?_))
 refine L_nil (qT (rS ?_))
 refine R_condP rfl (fun hlt => ?_) (fun hlt => ?_)
 ·skip
  obtain ⟨pb, pj, rfl, hrow⟩ := hpre.1.some_ (by omega)
  obtain ⟨bb, bc, ys, hvk, hxk, hbc, hbr⟩ := hpre.2.at_ (k := k) (by omega)
  refine R_skip (qT (rS (R_block (rT ?_))))
  refine lP (P_ixs (k) rfl ty_sl_195 rfl rfl (by first | rfl | omega) (by omega)) (k:=?_)
  refine lV (V_load rfl rfl ty_sc_198 (Rd.row hrow rfl hvk)) (k:=lA (k:=?_))
  refine L_nil (qT (rR (lMv (k:=lMv (k:=?_)))))
  refine lO (W_callR rfl rfl rfl rfl fn_ca_282 (write_ok hG b3 (xss.take k).flatten ys bb bc hbc) (Split.one (p := [])) (Sn.pre (Sn.row hbr rfl)) ?_)
  refine St.res (rs' := [hasher b3 ((xss.take k).flatten ++ ys), blk b2 (List.replicate 32 (.int .u8 0)) 40]) (Weak.refl _) ?_
  refine lE (cE 2 rfl (cE 3 rfl (cE 5 rfl (cE 7 rfl (cE 8 rfl (cE 9 rfl (cE 10 rfl (cE 11 rfl (cE 12 rfl (cE 13 rfl (cE 14 rfl .nil))))))))))) (Q_block (qT (rR ?_)))
  first | (refine L_val rfl rfl rfl (OpP.v (P_addN rfl rfl rfl (by simp only [fits]; omega))) ?_) | (refine L_val rfl rfl rfl (OpP.v (P_add rfl rfl rfl)) ?_)
  refine lMv (k:=?_)
  refine L_nil ?_
  refine E_nat (t := 9) (n := k + 1) rfl (by omega) ?_
  exact Q_round (k + 1) (by omega) (by omega) (by repeat (first | exact .nil | refine .cons rfl ?_)) (by rw [flatten_next hxk]; exact Weak.refl _)
 ·skip
  obtain rfl : k = vs.length := by omega
  rw [hvs, List.take_length]
  refine R_exit (Q_then_exit (Q_then_exit (Q_block_eq ?_)))
  refine St.env (cE 2 rfl (cE 3 rfl .nil)) (qT (rT (lMv (k:=?_))))
  refine lO (W_callR rfl rfl rfl rfl fn_ca_283 (hsum_ok hG b3 xss.flatten) (Split.one (p := [])) (fun _ _ _ _ _ _ _ => trivial) ?_)
  refine St.res (rs' := [blk b2 (List.replicate 32 (.int .u8 0)) 40]) (Weak.drop (Weak.refl _)) ?_
  refine lO (W_storeAll rfl rfl rfl rfl ty_ag_40 (by rw [ints_length, sha_length]) (ints_one) .h0 (by rw [ints_length, sha_length]; rfl) ?_)
  refine lQ (cE 2 rfl .nil) (R_ret ?_)
  exact R_endV rfl rfl (.cell rfl (Rds.loadVar ty_ag_40 (Rds.blk .h0) (by rw [ints_length, sha_length])) .nil) (rfl)
theorem sum_ok {gl : Nat → Obj} (hG : Globs gl) (base : Option Addr) (c : Nat) (xs : List Int) (hc : xs.length ≤ c) : SpecV (cx gl) 175 [.slice base xs.length c] (fun w => Row w base (ints .u8 xs)) (.agg (ints .u8 (sha xs)).toArray) := by
 refine Spec.enter (C := cx gl) Tryz.func175 rfl 6 rfl rfl fun w0 h0 hsep hsub hpre => ?_
 obtain rfl : h0 = Heap.none := hsep
 show St (cx gl) _ [(0, .slice base xs.length c)] _ _
 refine rT ?_
 refine lO (W_alloc rfl rfl rfl ty_ze_40 fun b2 => ?_)
 refine L_nil (qT (rT (lMv (k:=?_))))
 refine lO (W_lit (z := .nilIface) ([.slice base xs.length c]) rfl rfl rfl ty_sl_195 ty_lz_195 rfl rfl rfl (by decide) (by decide) (by simp [Value.cells]) (rfl) fun b4 => ?_)
 refine lO (W_callV rfl rfl rfl rfl fn_ca_234 (SpecV.mono (joined_ok hG (some ⟨b4, 0, none⟩) _ [.slice base xs.length c] [xs] rfl (Nat.le_refl _) (by simp)) (fun _ h => h) (v' := .agg (ints .u8 (sha xs)).toArray) (by simp)) (fun w nw => ⟨(Sn.ofBlk .h0).rw_ w nw, BytesL.cons ⟨_, _, rfl, hc, (Sn.row hpre rfl).rw_ w nw⟩ BytesL.nil⟩) ?_)
 refine lO (W_storeAll rfl rfl rfl rfl ty_ag_40 (by rw [ints_length, sha_length]) (ints_one) .h1 (by rw [ints_length, sha_length]; rfl) ?_)
 refine lQ (cE 2 rfl .nil) (R_ret ?_)
 exact R_endV rfl rfl (.cell rfl (Rds.loadVar ty_ag_40 (Rds.blk .h1) (by rw [ints_length, sha_length])) .nil) (rfl)
end Go.Proofs.YtcngmkjdpoiiaaaGreatDoor

/- Walks: the reference's Sum, the texts under a digest. Printed by gen.py. -/
set_option maxRecDepth 100000
namespace Go.Proofs.YtcngmkjdpoiiaaaGreatDoor
open Go Go.RowKit Go.Proofs
theorem ownS.to {T sz n n' : Nat} {v : Value} {cs cs' : List Value} {rs : List HP} (hn : n = n') (hc : cs = cs') : Weak (ownS T sz v n cs :: rs) (ownS T sz v n' cs' :: rs) := by subst hn; subst hc; exact Weak.refl _
end Go.Proofs.YtcngmkjdpoiiaaaGreatDoor
