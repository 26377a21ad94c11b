/- Texts that ledgerKeeps_holds leans on, part 1: each says at its head what it holds; no condition beyond its theorems' own. -/
import Derived.Tactics
import Derived.KernelRfl
import Derived.Below
import Derived.OrdersHeld
import Derived.Laws.Append
import Derived.Laws.CopyRow
import Derived.Laws.Slices
import Derived.Laws.Pointers
import Derived.Laws.StructEq
import Derived.Laws.AppendOwn
import Derived.Laws.MakeOwn
import Derived.Laws.BytesArg
import Derived.Deep.Quiet
import Derived.ChangeKeysEq
import Derived.Test.YtcngmkjdpoiiaaaGreatDoorProg
import Derived.Test.YtcngmkjdpoiiaaaGreatDoorRows
import Derived.ProofKit
import Derived.LaidMore
import Derived.OpenShut
import Derived.Stop.Joined
import Derived.Carry
import Derived.ChangeOld
import Derived.ChangeSlices
import Derived.MakeChecks
import Derived.SizedLaws
import Derived.FnData
import Derived.Laws.Cover1
import Derived.Laws.LoneSync
import Derived.MapKept
import Derived.Defers
set_option linter.unusedVariables false
set_option linter.unusedSimpArgs false
set_option linter.unusedSectionVars false
/- The first part of a small program logic over the model: heaplets, lists of separate resources, and what a call may change. -/
namespace Go.Proofs.YtcngmkjdpoiiaaaGreatDoor
open Go Go.RowKit

/-! ### Heaplets -/
abbrev Heap := Nat → Option Obj
abbrev HP := Heap → Prop
def Heap.none : Heap := fun _ => .none
def Heap.one (b : Nat) (o : Obj) : Heap := fun i => if i = b then some o else .none
def Heap.join (h k : Heap) : Heap := fun i => match h i with | some o => some o | .none => k i
def Heap.Disj (h k : Heap) : Prop := ∀ i, h i = .none ∨ k i = .none
def Heap.Le (h k : Heap) : Prop := ∀ i o, h i = some o → k i = some o

theorem Heap.Disj.symm {h k : Heap} (d : h.Disj k) : k.Disj h := fun i => (d i).symm
theorem Heap.Le.refl (h : Heap) : h.Le h := fun _ _ x => x
theorem Heap.Le.trans {a b c : Heap} (x : a.Le b) (y : b.Le c) : a.Le c := fun i o h => y i o (x i o h)
theorem Heap.le_join_left (h k : Heap) : h.Le (h.join k) := fun i o x => by simp [Heap.join, x]
theorem Heap.le_join_right {h k : Heap} (d : h.Disj k) : k.Le (h.join k) := fun i o x => by
 rcases d i with e | e
 ·simp [Heap.join, e, x]
 ·rw [e] at x; cases x
theorem Heap.join_some {h k : Heap} {i : Nat} {o : Obj} (x : (h.join k) i = some o) : h i = some o ∨ k i = some o := by
 unfold Heap.join at x
 cases e : h i with
 | none => rw [e] at x; exact .inr x
 | some u => rw [e] at x; exact .inl x
theorem Heap.join_none {h k : Heap} {i : Nat} : (h.join k) i = .none ↔ h i = .none ∧ k i = .none := by
 unfold Heap.join
 cases h i <;> simp
theorem Heap.join_comm {h k : Heap} (d : h.Disj k) : h.join k = k.join h := by
 funext i
 unfold Heap.join
 rcases d i with e | e <;> simp [e]
 ·cases k i <;> rfl
 ·cases h i <;> rfl
theorem Heap.join_assoc (a b c : Heap) : (a.join b).join c = a.join (b.join c) := by
 funext i
 unfold Heap.join
 cases a i <;> rfl
theorem Heap.none_join (h : Heap) : Heap.none.join h = h := by funext i; rfl
theorem Heap.join_none' (h : Heap) : h.join Heap.none = h := by
 funext i
 unfold Heap.join
 cases h i <;> rfl
theorem Heap.disj_none (h : Heap) : Heap.none.Disj h := fun _ => .inl rfl
theorem Heap.disj_none' (h : Heap) : h.Disj Heap.none := fun _ => .inr rfl
theorem Heap.disj_join {a b c : Heap} : a.Disj (b.join c) ↔ a.Disj b ∧ a.Disj c := by
 constructor
 ·intro h
  refine ⟨fun i => ?_, fun i => ?_⟩ <;> rcases h i with e | e
  ·exact .inl e
  ·exact .inr (Heap.join_none.1 e).1
  ·exact .inl e
  ·exact .inr (Heap.join_none.1 e).2
 ·rintro ⟨h, k⟩ i
  rcases h i with e | e
  ·exact .inl e
  ·rcases k i with f | f
   ·exact .inl f
   ·exact .inr (Heap.join_none.2 ⟨e, f⟩)
theorem Heap.join_disj {a b c : Heap} : (a.join b).Disj c ↔ a.Disj c ∧ b.Disj c := by
 constructor
 ·intro h
  obtain ⟨x, y⟩ := Heap.disj_join.1 h.symm
  exact ⟨x.symm, y.symm⟩
 ·rintro ⟨h, k⟩
  exact (Heap.disj_join.2 ⟨h.symm, k.symm⟩).symm
theorem Heap.Disj.mono {a b c : Heap} (d : a.Disj b) (l : c.Le b) : a.Disj c := fun i => by
 rcases d i with e | e
 ·exact .inl e
 ·refine .inr ?_
  cases hc : c i with
  | none => rfl
  | some o => rw [l i o hc] at e; cases e
theorem Heap.one_same (b : Nat) (o : Obj) : Heap.one b o b = some o := by simp [Heap.one]
theorem Heap.one_some {b i : Nat} {o u : Obj} (h : Heap.one b o i = some u) : i = b ∧ u = o := by
 unfold Heap.one at h
 split at h
 ·rename_i e; exact ⟨e, (Option.some.inj h).symm⟩
 ·cases h
theorem Heap.one_disj {b : Nat} {o : Obj} {h : Heap} (e : h b = .none) : (Heap.one b o).Disj h := fun i => by
 by_cases hi : i = b
 ·subst hi; exact .inr e
 ·exact .inl (by simp [Heap.one, hi])
theorem Heap.disj_one {b : Nat} {o : Obj} {h : Heap} (d : (Heap.one b o).Disj h) : h b = .none := by
 rcases d b with e | e
 ·rw [Heap.one_same] at e; cases e
 ·exact e

/-! ### Lists of separate resources -/
def Sep : List HP → HP
 | [] => fun h => h = Heap.none
 | r :: rs => fun h => ∃ a b, r a ∧ Sep rs b ∧ a.Disj b ∧ h = a.join b

/-- 'rs' holds 'r' at some place; with 's' in its stead it is 'rs''. -/
def Has (rs : List HP) (r s : HP) (rs' : List HP) : Prop := ∃ p q, rs = p ++ r :: q ∧ rs' = p ++ s :: q

theorem Has.h0 {r s : HP} {t : List HP} : Has (r :: t) r s (s :: t) := ⟨[], t, rfl, rfl⟩
theorem Has.cons {a r s : HP} {t t' : List HP} (h : Has t r s t') : Has (a :: t) r s (a :: t') := by
 obtain ⟨p, q, rfl, rfl⟩ := h
 exact ⟨a :: p, q, rfl, rfl⟩
theorem Has.h1 {a r s : HP} {t : List HP} : Has (a :: r :: t) r s (a :: s :: t) := Has.h0.cons
theorem Has.h2 {a b r s : HP} {t : List HP} : Has (a :: b :: r :: t) r s (a :: b :: s :: t) := Has.h1.cons
theorem Has.h3 {a b c r s : HP} {t : List HP} : Has (a :: b :: c :: r :: t) r s (a :: b :: c :: s :: t) := Has.h2.cons
theorem Has.h4 {a b c d r s : HP} {t : List HP} : Has (a :: b :: c :: d :: r :: t) r s (a :: b :: c :: d :: s :: t) := Has.h3.cons
theorem Has.h5 {a b c d e r s : HP} {t : List HP} : Has (a :: b :: c :: d :: e :: r :: t) r s (a :: b :: c :: d :: e :: s :: t) := Has.h4.cons
theorem Has.h6 {a b c d e f r s : HP} {t : List HP} : Has (a :: b :: c :: d :: e :: f :: r :: t) r s (a :: b :: c :: d :: e :: f :: s :: t) := Has.h5.cons
theorem Has.h7 {a b c d e f g r s : HP} {t : List HP} : Has (a :: b :: c :: d :: e :: f :: g :: r :: t) r s (a :: b :: c :: d :: e :: f :: g :: s :: t) := Has.h6.cons
theorem Has.h8 {a b c d e f g i r s : HP} {t : List HP} : Has (a :: b :: c :: d :: e :: f :: g :: i :: r :: t) r s (a :: b :: c :: d :: e :: f :: g :: i :: s :: t) := Has.h7.cons
theorem Has.h9 {a b c d e f g i j r s : HP} {t : List HP} : Has (a :: b :: c :: d :: e :: f :: g :: i :: j :: r :: t) r s (a :: b :: c :: d :: e :: f :: g :: i :: j :: s :: t) := Has.h8.cons
theorem Has.at_ {p q : List HP} {r s : HP} : Has (p ++ r :: q) r s (p ++ s :: q) := ⟨p, q, rfl, rfl⟩

theorem Sep.append {p q : List HP} {h : Heap} : Sep (p ++ q) h ↔ ∃ a b, Sep p a ∧ Sep q b ∧ a.Disj b ∧ h = a.join b := by
 induction p generalizing h with
 | nil =>
  constructor
  ·intro s
   exact ⟨Heap.none, h, rfl, s, Heap.disj_none h, rfl⟩
  ·rintro ⟨a, b, ha, hb, _, rfl⟩
   have : a = Heap.none := ha
   subst this
   exact hb
 | cons r p ih =>
  constructor
  ·rintro ⟨a, b, ha, hb, d, rfl⟩
   obtain ⟨c, e, hc, he, d2, rfl⟩ := ih.1 hb
   obtain ⟨d3, d4⟩ := Heap.disj_join.1 d
   exact ⟨a.join c, e, ⟨a, c, ha, hc, d3, rfl⟩, he, Heap.join_disj.2 ⟨d4, d2⟩, (Heap.join_assoc _ _ _).symm⟩
  ·rintro ⟨a, b, ⟨c, e, hc, he, d, rfl⟩, hb, d2, rfl⟩
   obtain ⟨d3, d4⟩ := Heap.join_disj.1 d2
   exact ⟨c, e.join b, hc, ih.2 ⟨e, b, he, hb, d4, rfl⟩, Heap.disj_join.2 ⟨d, d3⟩, Heap.join_assoc _ _ _⟩

theorem Sep.single {r : HP} {h : Heap} : Sep [r] h ↔ r h := by
 constructor
 ·rintro ⟨a, b, ha, hb, _, rfl⟩
  have : b = Heap.none := hb
  subst this
  rw [Heap.join_none']
  exact ha
 ·exact fun x => ⟨h, Heap.none, x, rfl, Heap.disj_none' h, (Heap.join_none' h).symm⟩

/-- One resource is taken out, and may be put back changed. -/
theorem Sep.take {rs rs' : List HP} {r s : HP} (m : Has rs r s rs') {h : Heap} (x : Sep rs h) :
  ∃ a b, r a ∧ a.Disj b ∧ h = a.join b ∧ ∀ a', s a' → a'.Disj b → Sep rs' (a'.join b) := by
 obtain ⟨p, q, rfl, rfl⟩ := m
 obtain ⟨c, d, hc, ⟨a, b, ha, hb, d1, rfl⟩, d2, rfl⟩ := Sep.append.1 x
 obtain ⟨d3, d4⟩ := Heap.disj_join.1 d2
 refine ⟨a, c.join b, ha, Heap.disj_join.2 ⟨d3.symm, d1⟩, ?_, ?_⟩
 ·rw [← Heap.join_assoc, ← Heap.join_assoc, Heap.join_comm d3]
 ·intro a' ha' da
  obtain ⟨d5, d6⟩ := Heap.disj_join.1 da
  refine Sep.append.2 ⟨c, a'.join b, hc, ⟨a', b, ha', hb, d6, rfl⟩, Heap.disj_join.2 ⟨d5.symm, d4⟩, ?_⟩
  rw [← Heap.join_assoc, ← Heap.join_assoc, Heap.join_comm d5]

/-- What is left when some resources are forgotten. -/
def Weak (rs rs' : List HP) : Prop := ∀ h, Sep rs h → ∃ h', Sep rs' h' ∧ Heap.Le h' h
theorem Weak.refl (rs : List HP) : Weak rs rs := fun h x => ⟨h, x, Heap.Le.refl h⟩
theorem Weak.nil (rs : List HP) : Weak rs [] := fun _ _ => ⟨Heap.none, rfl, fun _ _ h => by cases h⟩
theorem Weak.trans {a b c : List HP} (x : Weak a b) (y : Weak b c) : Weak a c := fun h hs => by
 obtain ⟨h1, s1, l1⟩ := x h hs
 obtain ⟨h2, s2, l2⟩ := y h1 s1
 exact ⟨h2, s2, l2.trans l1⟩
theorem Weak.keep {r : HP} {rs rs' : List HP} (w : Weak rs rs') : Weak (r :: rs) (r :: rs') := by
 rintro h ⟨a, b, ha, hb, d, rfl⟩
 obtain ⟨b', hb', l⟩ := w b hb
 refine ⟨a.join b', ⟨a, b', ha, hb', d.mono l, rfl⟩, fun i o x => ?_⟩
 rcases Heap.join_some x with x | x
 ·exact Heap.le_join_left _ _ i o x
 ·exact Heap.le_join_right d i o (l i o x)
theorem Weak.drop {r : HP} {rs rs' : List HP} (w : Weak rs rs') : Weak (r :: rs) rs' := by
 rintro h ⟨a, b, ha, hb, d, rfl⟩
 obtain ⟨b', hb', l⟩ := w b hb
 exact ⟨b', hb', l.trans (Heap.le_join_right d)⟩
/-- One resource is told otherwise. -/
theorem Weak.turn {rs rs' : List HP} {r s : HP} (m : Has rs r s rs') (t : ∀ a, r a → s a) : Weak rs rs' := fun h x => by
 obtain ⟨a, b, ha, d, rfl, back⟩ := Sep.take m x
 exact ⟨_, back a (t a ha) d, Heap.Le.refl _⟩
/-- A resource comes to the front. -/
theorem Weak.front {r : HP} {p q : List HP} : Weak (p ++ r :: q) (r :: (p ++ q)) := fun h x => by
 obtain ⟨c, d, hc, ⟨a, b, ha, hb, d1, rfl⟩, d2, rfl⟩ := Sep.append.1 x
 obtain ⟨d3, d4⟩ := Heap.disj_join.1 d2
 refine ⟨_, ⟨a, c.join b, ha, Sep.append.2 ⟨c, b, hc, hb, d4, rfl⟩, Heap.disj_join.2 ⟨d3.symm, d1⟩, rfl⟩, ?_⟩
 rw [← Heap.join_assoc, ← Heap.join_assoc, Heap.join_comm d3]
 exact Heap.Le.refl _
/-- A resource out of any place is kept first. -/
theorem Weak.pick {r : HP} {p q rs' : List HP} (w : Weak (p ++ q) rs') : Weak (p ++ r :: q) (r :: rs') := Weak.front.trans w.keep
theorem Weak.p1 {a r : HP} {t rs' : List HP} (w : Weak (a :: t) rs') : Weak (a :: r :: t) (r :: rs') := Weak.pick (p := [a]) w
theorem Weak.p2 {a b r : HP} {t rs' : List HP} (w : Weak (a :: b :: t) rs') : Weak (a :: b :: r :: t) (r :: rs') := Weak.pick (p := [a, b]) w
theorem Weak.p3 {a b c r : HP} {t rs' : List HP} (w : Weak (a :: b :: c :: t) rs') : Weak (a :: b :: c :: r :: t) (r :: rs') := Weak.pick (p := [a, b, c]) w
theorem Weak.p4 {a b c d r : HP} {t rs' : List HP} (w : Weak (a :: b :: c :: d :: t) rs') : Weak (a :: b :: c :: d :: r :: t) (r :: rs') := Weak.pick (p := [a, b, c, d]) w
theorem Weak.p5 {a b c d e r : HP} {t rs' : List HP} (w : Weak (a :: b :: c :: d :: e :: t) rs') : Weak (a :: b :: c :: d :: e :: r :: t) (r :: rs') := Weak.pick (p := [a, b, c, d, e]) w
theorem Weak.p6 {a b c d e f r : HP} {t rs' : List HP} (w : Weak (a :: b :: c :: d :: e :: f :: t) rs') : Weak (a :: b :: c :: d :: e :: f :: r :: t) (r :: rs') := Weak.pick (p := [a, b, c, d, e, f]) w

/-! ### One block -/
/-- Block b is a row of these cells; none of them is frozen. -/
def blk (b : Nat) (cs : List Value) (T : TypeId) : HP := fun h => ∃ fr : Nat × Nat, (fr.1 = fr.2 ∨ cs.length ≤ fr.1) ∧ h = Heap.one b (.cells cs.toArray T fr)

/-! ### What a call may change -/
structure Cx where
 P : Program
 ng : Nat
 gl : Nat → Obj

/-- The package-level variables are as they were laid. -/
def Cx.ok (C : Cx) (w : World) : Prop := ∀ i, i < C.ng → w.heap[i]? = some (C.gl i)

structure Move (C : Cx) (w0 : World) (h0 : Heap) (w : World) (h : Heap) : Prop where
 os : w.os = w0.os
 tape : w.tape = w0.tape
 output : w.output = w0.output
 drawn : w0.drawn ≤ w.drawn
 size : w0.heap.size ≤ w.heap.size
 keep : ∀ i, i < w0.heap.size → h0 i = .none → w.heap[i]? = w0.heap[i]?
 sub : ∀ i o, h i = some o → w.heap[i]? = some o
 low : ∀ i o, h i = some o → C.ng ≤ i
 dom : ∀ i o, h i = some o → i < w0.heap.size → h0 i ≠ .none
 ok : C.ok w

structure Sub (C : Cx) (w : World) (h : Heap) : Prop where
 sub : ∀ i o, h i = some o → w.heap[i]? = some o
 low : ∀ i o, h i = some o → C.ng ≤ i
 ok : C.ok w

theorem Move.start {C : Cx} {w : World} {h : Heap} (s : Sub C w h) : Move C w h w h :=
 ⟨rfl, rfl, rfl, Nat.le_refl _, Nat.le_refl _, fun _ _ _ => rfl, s.sub, s.low, fun i o hi _ => by rw [hi]; simp, s.ok⟩
theorem Move.subOf {C : Cx} {w0 w : World} {h0 h : Heap} (m : Move C w0 h0 w h) : Sub C w h := ⟨m.sub, m.low, m.ok⟩
theorem Move.le {C : Cx} {w0 w : World} {h0 h k : Heap} (m : Move C w0 h0 w h) (l : k.Le h) : Move C w0 h0 w k :=
 ⟨m.os, m.tape, m.output, m.drawn, m.size, m.keep, fun i o x => m.sub i o (l i o x), fun i o x => m.low i o (l i o x), fun i o x => m.dom i o (l i o x), m.ok⟩
theorem lt_of_some {w : World} {i : Nat} {o : Obj} (h : w.heap[i]? = some o) : i < w.heap.size := (Array.getElem?_eq_some_iff.1 h).1

/-- A call that took the heaplet 'a' out of 'a.join b' and left 'a''. -/
theorem Move.call {C : Cx} {w0 w w' : World} {h0 a b a' : Heap} (m : Move C w0 h0 w (a.join b)) (d : a.Disj b) (n : Move C w a w' a') :
  a'.Disj b ∧ Move C w0 h0 w' (a'.join b) := by
 have hb : ∀ i o, b i = some o → i < w.heap.size ∧ a i = .none := fun i o x => by
  refine ⟨lt_of_some (m.sub i o (Heap.le_join_right d i o x)), ?_⟩
  rcases d i with e | e
  ·exact e
  ·rw [e] at x; cases x
 have dj : a'.Disj b := fun i => by
  cases e : b i with
  | none => exact .inr rfl
  | some o =>
   obtain ⟨hlt, ha⟩ := hb i o e
   refine .inl ?_
   cases e' : a' i with
   | none => rfl
   | some u => exact absurd ha (n.dom i u e' hlt)
 refine ⟨dj, ⟨n.os.trans m.os, n.tape.trans m.tape, n.output.trans m.output, Nat.le_trans m.drawn n.drawn, Nat.le_trans m.size n.size, ?_, ?_, ?_, ?_, n.ok⟩⟩
 ·intro i hi h0i
  have hi' : i < w.heap.size := Nat.lt_of_lt_of_le hi m.size
  have ha : a i = .none := by
   cases e : a i with
   | none => rfl
   | some o => exact absurd h0i (m.dom i o (Heap.le_join_left _ _ i o e) hi)
  exact (n.keep i hi' ha).trans (m.keep i hi h0i)
 ·intro i o x
  rcases Heap.join_some x with x | x
  ·exact n.sub i o x
  ·obtain ⟨hlt, ha⟩ := hb i o x
   exact (n.keep i hlt ha).trans (m.sub i o (Heap.le_join_right d i o x))
 ·intro i o x
  rcases Heap.join_some x with x | x
  ·exact n.low i o x
  ·exact m.low i o (Heap.le_join_right d i o x)
 ·intro i o x hi
  rcases Heap.join_some x with x | x
  ·have ha : a i ≠ .none := n.dom i o x (Nat.lt_of_lt_of_le hi m.size)
   cases e : a i with
   | none => exact absurd e ha
   | some u => exact m.dom i u (Heap.le_join_left _ _ i u e) hi
  ·exact m.dom i o (Heap.le_join_right d i o x) hi

/-- A new block. -/
theorem Move.alloc {C : Cx} {w0 w : World} {h0 h : Heap} (m : Move C w0 h0 w h) (hng : C.ng ≤ w.heap.size) (o : Obj) :
  (Heap.one w.heap.size o).Disj h ∧ Move C w0 h0 (w.alloc o) ((Heap.one w.heap.size o).join h) := by
 have hn : h w.heap.size = .none := by
  cases e : h w.heap.size with
  | none => rfl
  | some u => exact absurd (lt_of_some (m.sub _ _ e)) (Nat.lt_irrefl _)
 have hnew : (w.alloc o).heap[w.heap.size]? = some o := heap_alloc_new w o
 have hold : ∀ i, i < w.heap.size → (w.alloc o).heap[i]? = w.heap[i]? := fun i hi => Below.heap_alloc w o i hi
 refine ⟨Heap.one_disj hn, ⟨m.os, m.tape, m.output, m.drawn, ?_, ?_, ?_, ?_, ?_, ?_⟩⟩
 ·have := m.size; simp; omega
 ·intro i hi h0i
  exact (hold i (Nat.lt_of_lt_of_le hi m.size)).trans (m.keep i hi h0i)
 ·intro i u x
  rcases Heap.join_some x with x | x
  ·obtain ⟨rfl, rfl⟩ := Heap.one_some x; exact hnew
  ·exact (hold i (lt_of_some (m.sub i u x))).trans (m.sub i u x)
 ·intro i u x
  rcases Heap.join_some x with x | x
  ·obtain ⟨rfl, rfl⟩ := Heap.one_some x; exact hng
  ·exact m.low i u x
 ·intro i u x hi
  rcases Heap.join_some x with x | x
  ·obtain ⟨rfl, rfl⟩ := Heap.one_some x; exact absurd m.size (by omega)
  ·exact m.dom i u x hi
 ·intro i hi
  exact (hold i (by omega)).trans (m.ok i hi)

/-- Block b of the heaplet is written; all else stays. -/
theorem Move.put {C : Cx} {w0 w w' : World} {h0 b : Heap} {g : Nat} {o u : Obj} (m : Move C w0 h0 w ((Heap.one g o).join b)) (d : (Heap.one g o).Disj b)
  (hos : w'.os = w.os) (htape : w'.tape = w.tape) (hout : w'.output = w.output) (hdrawn : w'.drawn = w.drawn) (hsize : w'.heap.size = w.heap.size)
  (hg : w'.heap[g]? = some u) (hk : ∀ i, i ≠ g → w'.heap[i]? = w.heap[i]?) : (Heap.one g u).Disj b ∧ Move C w0 h0 w' ((Heap.one g u).join b) := by
 have hb : b g = .none := Heap.disj_one d
 have hgo := Heap.le_join_left (Heap.one g o) b g o (Heap.one_same g o)
 refine ⟨Heap.one_disj hb, ⟨hos.trans m.os, htape.trans m.tape, hout.trans m.output, hdrawn ▸ m.drawn, hsize ▸ m.size, ?_, ?_, ?_, ?_, ?_⟩⟩
 ·intro i hi h0i
  have hne : i ≠ g := fun e => by subst e; exact absurd h0i (m.dom i o hgo hi)
  exact (hk i hne).trans (m.keep i hi h0i)
 ·intro i v x
  rcases Heap.join_some x with y | y
  ·obtain ⟨rfl, rfl⟩ := Heap.one_some y; exact hg
  ·have hne : i ≠ g := fun e => by subst e; rw [hb] at y; cases y
   exact (hk i hne).trans (m.sub i v (Heap.le_join_right d i v y))
 ·intro i v x
  rcases Heap.join_some x with y | y
  ·obtain ⟨rfl, rfl⟩ := Heap.one_some y; exact m.low i o hgo
  ·exact m.low i v (Heap.le_join_right d i v y)
 ·intro i v x hi
  rcases Heap.join_some x with y | y
  ·obtain ⟨rfl, rfl⟩ := Heap.one_some y; exact m.dom i o hgo hi
  ·exact m.dom i v (Heap.le_join_right d i v y) hi
 ·intro i hi
  have hne : i ≠ g := fun e => by subst e; have := m.low i o hgo; omega
  exact (hk i hne).trans (m.ok i hi)

theorem Move.drew {C : Cx} {w0 w : World} {h0 h : Heap} (m : Move C w0 h0 w h) (n : Nat) (hn : w.drawn ≤ n) : Move C w0 h0 { w with drawn := n } h :=
 ⟨m.os, m.tape, m.output, Nat.le_trans m.drawn hn, m.size, m.keep, m.sub, m.low, m.dom, m.ok⟩

end Go.Proofs.YtcngmkjdpoiiaaaGreatDoor

/- The second part of the program logic: environments of temporaries, the judgement 'St', its rules for code, loops and calls. -/
namespace Go.Proofs.YtcngmkjdpoiiaaaGreatDoor
open Go Go.RowKit

/-! ### Environments -/
abbrev Env := List (Nat × Value)
def Env.get? : Env → Nat → Option Value
 | [], _ => none
 | (k, v) :: l, t => bif Nat.beq k t then some v else Env.get? l t
def ev (l : Env) : Operand → Option Value
 | .tmp t => l.get? t
 | .const v => some v
 | .global g => some (.pointer (some ⟨g, 0, none⟩))
 | .func f => some (.func (.func f) #[] #[])
def evL (l : Env) : List Operand → Option (List Value)
 | [] => some []
 | x :: xs => match ev l x, evL l xs with
  | some v, some vs => some (v :: vs)
  | _, _ => none

structure Rep (n : Nat) (ds : List Deferred) (l : Env) (a : Act) : Prop where
 size : a.tmps.size = n
 defers : a.defers = ds
 get : ∀ t v, l.get? t = some v → a.tmps[t]? = some v

theorem Rep.ev {n : Nat} {ds : List Deferred} {l : Env} {a : Act} (h : Rep n ds l a) {x : Operand} {v : Value} (hx : ev l x = some v) : a.eval x = v := by
 cases x with
 | tmp t =>
  have := h.get t v hx
  simp [Act.eval, this]
 | const u => exact Option.some.inj hx
 | global g => exact Option.some.inj hx
 | func f => exact Option.some.inj hx
theorem Rep.evL {n : Nat} {ds : List Deferred} {l : Env} {a : Act} (h : Rep n ds l a) : ∀ {xs : List Operand} {vs : List Value}, evL l xs = some vs → xs.map a.eval = vs
 | [], vs, hx => Option.some.inj hx
 | x :: xs, vs, hx => by
  unfold Go.Proofs.YtcngmkjdpoiiaaaGreatDoor.evL at hx
  split at hx
  ·rename_i v us hv hus
   rw [List.map_cons, h.ev hv, Rep.evL h hus]
   exact Option.some.inj hx
  ·cases hx
theorem Rep.put {n : Nat} {ds : List Deferred} {l : Env} {a : Act} (h : Rep n ds l a) {d : Nat} (hd : Nat.blt d n = true) (v : Value) : Rep n ds ((d, v) :: l) (a.put (some d) v) := by
 have hd' : d < a.tmps.size := by rw [h.size]; exact Nat.le_of_ble_eq_true hd
 refine ⟨by simp [Act.put, h.size], h.defers, fun t u ht => ?_⟩
 unfold Env.get? at ht
 cases e : Nat.beq d t with
 | true =>
  rw [e] at ht
  obtain rfl := Nat.eq_of_beq_eq_true e
  simp only [cond_true, Option.some.injEq] at ht
  simp [Act.put, hd', ht]
 | false =>
  rw [e] at ht
  have hne : d ≠ t := Nat.ne_of_beq_eq_false e
  simp only [cond_false] at ht
  simp [Act.put, Array.getElem?_setIfInBounds_ne hne, h.get t u ht]
def EnvLe (l l' : Env) : Prop := ∀ t v, l'.get? t = some v → l.get? t = some v
theorem EnvLe.refl (l : Env) : EnvLe l l := fun _ _ h => h
theorem EnvLe.nil {l : Env} : EnvLe l [] := fun _ _ h => by cases h
theorem EnvLe.cons {l l' : Env} {t : Nat} {v : Value} (h : l.get? t = some v) (hl : EnvLe l l') : EnvLe l ((t, v) :: l') := fun s u hs => by
 unfold Env.get? at hs
 cases e : Nat.beq t s with
 | true =>
  rw [e] at hs
  obtain rfl := Nat.eq_of_beq_eq_true e
  simp only [cond_true, Option.some.injEq] at hs
  subst hs; exact h
 | false =>
  rw [e] at hs
  simp only [cond_false] at hs
  exact hl s u hs
theorem Rep.le {n : Nat} {ds : List Deferred} {l l' : Env} {a : Act} (h : Rep n ds l a) (le : EnvLe l l') : Rep n ds l' a := ⟨h.size, h.defers, fun t v ht => h.get t v (le t v ht)⟩

/-! ### The judgement -/
/-- What is fixed while a body runs: how many temporaries, what is deferred, the world and the heaplet with which it was entered. -/
structure Fx where
 n : Nat
 ds : List Deferred
 w : World
 h : Heap

def Now (C : Cx) (F : Fx) (rs : List HP) (w : World) : Prop := ∃ h, Sep rs h ∧ Move C F.w F.h w h

theorem Now.weak {C : Cx} {F : Fx} {rs rs' : List HP} {w : World} (n : Now C F rs w) (k : Weak rs rs') : Now C F rs' w := by
 obtain ⟨h, s, m⟩ := n
 obtain ⟨h', s', l⟩ := k h s
 exact ⟨h', s', m.le l⟩
theorem Now.drew {C : Cx} {F : Fx} {rs : List HP} {w : World} (n : Now C F rs w) (k : Nat) (hk : w.drawn ≤ k) : Now C F rs { w with drawn := k } := by
 obtain ⟨h, s, m⟩ := n
 exact ⟨h, s, m.drew k hk⟩
theorem Now.ok {C : Cx} {F : Fx} {rs : List HP} {w : World} (n : Now C F rs w) : C.ok w := n.elim fun _ x => x.2.ok

/-- From whatever frame and world fits: K. -/
def St (C : Cx) (F : Fx) (l : Env) (rs : List HP) (K : Act → World → Prop) : Prop := ∀ a w, Rep F.n F.ds l a → Now C F rs w → K a w

section
variable {C : Cx} {F : Fx} {l l' : Env} {rs rs' : List HP} {K K' : Act → World → Prop}

theorem St.mono (h : St C F l rs K) (k : ∀ a w, K a w → K' a w) : St C F l rs K' := fun a w r n => k a w (h a w r n)
theorem St.prune (h : St C F l' rs' K) (he : EnvLe l l') (hw : Weak rs rs') : St C F l rs K := fun a w r n => h a w (r.le he) (n.weak hw)
theorem St.env (he : EnvLe l l') (h : St C F l' rs K) : St C F l rs K := h.prune he (Weak.refl rs)
theorem St.res (hw : Weak rs rs') (h : St C F l rs' K) : St C F l rs K := h.prune (EnvLe.refl l) hw
/-- A resource is opened at its place (give 'p' as a list of blanks). -/
theorem St.openAt {X : Type} (p : List HP) {q : List HP} {r : HP} {s : X → HP} (o : ∀ a, r a → ∃ x, s x a) (h : ∀ x, St C F l (p ++ s x :: q) K) : St C F l (p ++ r :: q) K := by
 intro a w hr ⟨hp, hs, hm⟩
 obtain ⟨c, d, hc, ⟨u, v, hu, hv, d1, rfl⟩, d2, rfl⟩ := Sep.append.1 hs
 obtain ⟨x, hx⟩ := o u hu
 exact h x a w hr ⟨_, Sep.append.2 ⟨c, u.join v, hc, ⟨u, v, hx, hv, d1, rfl⟩, d2, rfl⟩, hm⟩
/-- A resource of which something is hidden, with what is known of it. -/
def ExP {X : Type} (p : X → Prop) (s : X → HP) : HP := fun h => ∃ x, p x ∧ s x h
theorem St.openP {X : Type} {f : X → Prop} {s : X → HP} (p : List HP) {q : List HP} (h : ∀ x, f x → St C F l (p ++ s x :: q) K) : St C F l (p ++ ExP f s :: q) K := by
 intro a w hr ⟨hp, hs, hm⟩
 obtain ⟨c, d, hc, ⟨u, v, ⟨x, hx, hu⟩, hv, d1, rfl⟩, d2, rfl⟩ := Sep.append.1 hs
 exact h x hx a w hr ⟨_, Sep.append.2 ⟨c, u.join v, hc, ⟨u, v, hu, hv, d1, rfl⟩, d2, rfl⟩, hm⟩
/-! ### Code -/
theorem R_seq {Q : Exit → Act → World → Prop} {x y : Code} (h : St C F l rs (x.wp C.P (Exit.then (y.wp C.P Q) Q))) : St C F l rs ((Code.seq x y).wp C.P Q) := fun a w r n => wp_seq (h a w r n)
theorem R_skip {Q : Exit → Act → World → Prop} (h : St C F l rs (Q .normal)) : St C F l rs (Code.skip.wp C.P Q) := fun a w r n => wp_skip (h a w r n)
theorem R_ret {Q : Exit → Act → World → Prop} (h : St C F l rs (Q .ret)) : St C F l rs (Code.ret.wp C.P Q) := fun a w r n => wp_ret (h a w r n)
theorem R_exit {Q : Exit → Act → World → Prop} {i : Nat} (h : St C F l rs (Q (.exit i))) : St C F l rs ((Code.exit i).wp C.P Q) := fun a w r n => wp_exit (h a w r n)
theorem R_block {Q : Exit → Act → World → Prop} {i : Nat} {c : Code} (h : St C F l rs (c.wp C.P (Exit.inBlock i Q))) : St C F l rs ((Code.block i c).wp C.P Q) := fun a w r n => wp_block (h a w r n)
theorem R_cond {Q : Exit → Act → World → Prop} {c : Operand} {x y : Code} {b : Bool} (hc : ev l c = some (.bool b)) (ht : b = true → St C F l rs (x.wp C.P Q)) (hf : b = false → St C F l rs (y.wp C.P Q)) :
  St C F l rs ((Code.cond c x y).wp C.P Q) := fun a w r n => by
 cases b
 ·exact wp_cond_false (r.ev hc) (hf rfl a w r n)
 ·exact wp_cond_true (r.ev hc) (ht rfl a w r n)
theorem R_condP {Q : Exit → Act → World → Prop} {c : Operand} {x y : Code} {p : Prop} {dp : Decidable p} (hc : ev l c = some (.bool (@decide p dp))) (ht : p → St C F l rs (x.wp C.P Q)) (hf : ¬p → St C F l rs (y.wp C.P Q)) :
  St C F l rs ((Code.cond c x y).wp C.P Q) := R_cond hc (fun h => ht (of_decide_eq_true h)) (fun h => hf (of_decide_eq_false h))
theorem R_condT {Q : Exit → Act → World → Prop} {c : Operand} {x y : Code} (hc : ev l c = some (.bool true)) (ht : St C F l rs (x.wp C.P Q)) : St C F l rs ((Code.cond c x y).wp C.P Q) := R_cond hc (fun _ => ht) (fun h => by cases h)
theorem R_condF {Q : Exit → Act → World → Prop} {c : Operand} {x y : Code} (hc : ev l c = some (.bool false)) (hf : St C F l rs (y.wp C.P Q)) : St C F l rs ((Code.cond c x y).wp C.P Q) := R_cond hc (fun h => by cases h) (fun _ => hf)
/-- Two ways that meet again. -/
theorem R_join {Q : Exit → Act → World → Prop} {G : Type} (e : G → Env) (r : G → List HP) (inv : G → Prop) {x y : Code}
  (hx : St C F l rs (x.wp C.P (Exit.then (fun a w => ∃ g, inv g ∧ Rep F.n F.ds (e g) a ∧ Now C F (r g) w) Q)))
  (hy : ∀ g, inv g → St C F (e g) (r g) (y.wp C.P Q)) : St C F l rs ((Code.seq x y).wp C.P Q) := fun a w hr hn =>
 wp_seq (wp_mono (hx a w hr hn) fun ex a' w' q => by
  cases ex with
  | normal => obtain ⟨g, hg, h1, h2⟩ := q; exact hy g hg a' w' h1 h2
  | _ => exact q)
theorem R_region {Q : Exit → Act → World → Prop} {id : Nat} {ops : List Oper} (h : St C F l rs (wpList C.P ops.toArray Q ops)) : St C F l rs ((Code.region id ops.toArray false).wp C.P Q) := fun a w r n => wp_region_lit (h a w r n)
theorem R_loop {Q : Exit → Act → World → Prop} {c : Code} {G : Type} (e : G → Env) (r : G → List HP) (inv : G → Prop) (m : G → Nat) (g : G) (hg : inv g) (he : EnvLe l (e g)) (hr : Weak rs (r g))
  (round : ∀ g, inv g → St C F (e g) (r g) (c.wp C.P (Exit.then (fun a w => ∃ g', inv g' ∧ m g' < m g ∧ Rep F.n F.ds (e g') a ∧ Now C F (r g') w) Q))) : St C F l rs ((Code.loop c).wp C.P Q) := by
 intro a w r0 n0
 classical
 let I : Act → World → Prop := fun a w => ∃ g, inv g ∧ Rep F.n F.ds (e g) a ∧ Now C F (r g) w
 -- the measure of a state: the least that a ghost of it has
 have key : ∀ n g, m g = n → inv g → ∀ a w, Rep F.n F.ds (e g) a → Now C F (r g) w → ∀ (b : Frame) (k : List Item) (cs : List Frame),
   ∃ ex a' w', Q ex a' w' ∧ Arrives C.P (lone (b.at a (.code c :: .inLoop c :: k)) cs w) b k cs ex a' w' := by
  intro n
  induction n using Nat.strongRecOn with
  | _ n ih =>
   intro g hm hg a w hra hnw b k cs
   obtain ⟨ex, a1, w1, hq, harr⟩ := round g hg a w hra hnw b (.inLoop c :: k) cs
   cases ex with
   | normal =>
    obtain ⟨g', hg', hlt, hr', hn'⟩ := hq
    obtain ⟨e2, a2, w2, hq2, harr2⟩ := ih (m g') (hm ▸ hlt) g' rfl hg' a1 w1 hr' hn' b k cs
    exact ⟨e2, a2, w2, hq2, .of_steps (Steps.trans harr (.one step_inLoop)) harr2⟩
   | exit id => exact ⟨_, a1, w1, hq, .pass (x := .inLoop c) rfl (fun _ _ => .inl (by simp)) harr⟩
   | goto l => exact ⟨_, a1, w1, hq, .pass (x := .inLoop c) rfl (fun _ _ => .inl (by simp)) harr⟩
   | ret => exact ⟨_, a1, w1, hq, .pass (x := .inLoop c) rfl (fun _ _ => .inl (by simp)) harr⟩
   | panic ch => exact ⟨_, a1, w1, hq, .pass (x := .inLoop c) rfl (fun _ _ => .inl (by simp)) harr⟩
   | outgrown => exact ⟨_, a1, w1, hq, .pass (x := .inLoop c) rfl (fun _ _ => .inl (by simp)) harr⟩
 intro b k cs
 obtain ⟨ex, a', w', hq, harr⟩ := key _ g rfl hg a w (r0.le he) (n0.weak hr) b k cs
 exact ⟨ex, a', w', hq, .of_steps (.one step_loop) harr⟩

/-! ### Behind a piece of code -/
theorem Q_then {Q : Exit → Act → World → Prop} {y : Code} (h : St C F l rs (y.wp C.P Q)) : St C F l rs (Exit.then (y.wp C.P Q) Q .normal) := h
theorem Q_then_exit {Q : Exit → Act → World → Prop} {k : Act → World → Prop} {i : Nat} (h : St C F l rs (Q (.exit i))) : St C F l rs (Exit.then k Q (.exit i)) := h
theorem Q_then_ret {Q : Exit → Act → World → Prop} {k : Act → World → Prop} (h : St C F l rs (Q .ret)) : St C F l rs (Exit.then k Q .ret) := h
theorem Q_block {Q : Exit → Act → World → Prop} {i : Nat} (h : St C F l rs (Q .normal)) : St C F l rs (Exit.inBlock i Q .normal) := h
theorem Q_block_ret {Q : Exit → Act → World → Prop} {i : Nat} (h : St C F l rs (Q .ret)) : St C F l rs (Exit.inBlock i Q .ret) := h
theorem Q_block_eq {Q : Exit → Act → World → Prop} {i : Nat} (h : St C F l rs (Q .normal)) : St C F l rs (Exit.inBlock i Q (.exit i)) := fun a w r n => by
 show (if i = i then Q .normal a w else Q (.exit i) a w)
 rw [if_pos rfl]; exact h a w r n
theorem Q_round {G : Type} {e : G → Env} {r : G → List HP} {inv : G → Prop} {m : G → Nat} {g : G} {Q : Exit → Act → World → Prop} (g' : G) (hi : inv g') (hm : m g' < m g) (he : EnvLe l (e g')) (hr : Weak rs (r g')) :
  St C F l rs (Exit.then (fun a w => ∃ g', inv g' ∧ m g' < m g ∧ Rep F.n F.ds (e g') a ∧ Now C F (r g') w) Q .normal) := fun _ _ hra hn => ⟨g', hi, hm, hra.le he, hn.weak hr⟩
theorem Q_meet {G : Type} {e : G → Env} {r : G → List HP} {inv : G → Prop} {Q : Exit → Act → World → Prop} (g' : G) (hi : inv g') (he : EnvLe l (e g')) (hr : Weak rs (r g')) :
  St C F l rs (Exit.then (fun a w => ∃ g', inv g' ∧ Rep F.n F.ds (e g') a ∧ Now C F (r g') w) Q .normal) := fun _ _ hra hn => ⟨g', hi, hra.le he, hn.weak hr⟩

/-! ### Operations -/
def wantedE (ops : Array Oper) (l : Env) (o : Oper) : Bool :=
 match o.guard with
 | none => true
 | some (j, b) => match ((ops[j]?).bind (·.dst)).bind l.get? with
  | some (.bool c) => c == b
  | _ => false
def unwantedE (ops : Array Oper) (l : Env) (o : Oper) : Bool :=
 match o.guard with
 | none => false
 | some (j, b) => match ((ops[j]?).bind (·.dst)).bind l.get? with
  | some (.bool c) => c != b
  | some (.tuple _) => true
  | _ => false
theorem Rep.yielded {n : Nat} {ds : List Deferred} {a : Act} (r : Rep n ds l a) {ops : Array Oper} {j : Nat} {c : Bool} (h : ((ops[j]?).bind (·.dst)).bind l.get? = some (.bool c)) : yielded ops a.tmps j = some c := by
 unfold Go.yielded
 obtain ⟨t, ht, hl⟩ := Option.bind_eq_some_iff.1 h
 rw [ht]
 simp only [Option.bind_some, r.get t _ hl]
theorem Rep.yieldedNone {n : Nat} {ds : List Deferred} {a : Act} (r : Rep n ds l a) {ops : Array Oper} {j : Nat} {x : Array Value} (h : ((ops[j]?).bind (·.dst)).bind l.get? = some (.tuple x)) : Go.yielded ops a.tmps j = none := by
 unfold Go.yielded
 obtain ⟨t, ht, hl⟩ := Option.bind_eq_some_iff.1 h
 rw [ht]
 simp only [Option.bind_some, r.get t _ hl]
theorem wanted_of {n : Nat} {ds : List Deferred} {a : Act} (r : Rep n ds l a) {ops : Array Oper} {o : Oper} (h : wantedE ops l o = true) : Region.wanted o (yielded ops a.tmps) = true := by
 unfold wantedE at h
 unfold Region.wanted
 cases hg : o.guard with
 | none => rfl
 | some gb =>
  obtain ⟨j, b⟩ := gb
  rw [hg] at h
  simp only at h
  split at h
  ·rename_i c hc
   have hcb : c = b := by simpa using h
   subst hcb
   simp only [r.yielded hc]
   simp
  ·cases h
theorem unwanted_of {n : Nat} {ds : List Deferred} {a : Act} (r : Rep n ds l a) {ops : Array Oper} {o : Oper} (h : unwantedE ops l o = true) : Region.wanted o (yielded ops a.tmps) = false := by
 unfold unwantedE at h
 unfold Region.wanted
 cases hg : o.guard with
 | none => rw [hg] at h; cases h
 | some gb =>
  obtain ⟨j, b⟩ := gb
  rw [hg] at h
  simp only at h
  split at h
  ·rename_i c hc
   simp only [r.yielded hc]
   cases b <;> cases c <;> simp_all
  ·rename_i x hx
   simp only [r.yieldedNone hx]
   rfl
  ·cases h

/-- In every fitting state the operation yields v and leaves the world as it is. -/
def OpV (C : Cx) (F : Fx) (l : Env) (rs : List HP) (o : Oper) (v : Value) : Prop := ∀ a w, Rep F.n F.ds l a → Now C F rs w → (execOp a.eval o).run C.P w = .ok (.value v) w
/-- The same in whatever world. -/
def OpP (C : Cx) (F : Fx) (l : Env) (o : Oper) (v : Value) : Prop := ∀ a w, Rep F.n F.ds l a → (execOp a.eval o).run C.P w = .ok (.value v) w
/-- The operation comes to K. -/
def OpW (C : Cx) (F : Fx) (l : Env) (rs : List HP) (o : Oper) (K : Act → World → Prop) (Q : Exit → Act → World → Prop) : Prop := ∀ a w, Rep F.n F.ds l a → Now C F rs w → o.wp C.P a w K Q
theorem OpP.v {o : Oper} {v : Value} (h : OpP C F l o v) : OpV C F l rs o v := fun a w r _ => h a w r

section
variable {ops : Array Oper} {Q : Exit → Act → World → Prop} {rest : List Oper} {o : Oper} {v : Value} {d : Nat}
theorem L_nil (h : St C F l rs (Q .normal)) : St C F l rs (wpList C.P ops Q []) := h
theorem W_val (hd : o.dst = some d) (hn : Nat.blt d F.n = true) (h : OpV C F l rs o v) (k : St C F ((d, v) :: l) rs K) : OpW C F l rs o K Q := fun a w r n => by
 unfold Oper.wp
 rw [h a w r n]
 show K (a.put o.dst v) w
 rw [hd]
 exact k _ w (r.put hn v) n
theorem L_op (hw : wantedE ops l o = true) (h : OpW C F l rs o (wpList C.P ops Q rest) Q) : St C F l rs (wpList C.P ops Q (o :: rest)) := fun a w r n => by
 unfold wpList
 rw [if_pos (wanted_of r hw)]
 exact .inl (h a w r n)
theorem L_val (hw : wantedE ops l o = true) (hd : o.dst = some d) (hn : Nat.blt d F.n = true) (h : OpV C F l rs o v) (k : St C F ((d, v) :: l) rs (wpList C.P ops Q rest)) : St C F l rs (wpList C.P ops Q (o :: rest)) :=
 L_op hw (W_val hd hn h k)
theorem L_no (hw : unwantedE ops l o = true) (hd : o.dst = some d) (hn : Nat.blt d F.n = true) (k : St C F ((d, undef) :: l) rs (wpList C.P ops Q rest)) : St C F l rs (wpList C.P ops Q (o :: rest)) := fun a w r n => by
 unfold wpList
 rw [if_neg (by rw [unwanted_of r hw]; simp), hd]
 exact k _ w (r.put hn undef) n
end

/-! ### Calls -/
/-- What a function keeps: entered with these arguments in a world that meets 'pre', the resources 'R0' its own for the time, it returns v with resources 'rs' such that 'post v rs'; all else is as it was. -/
def Spec (C : Cx) (f : FuncId) (args : List Value) (pre : World → Heap → Prop) (R0 : List HP) (post : Value → List HP → Prop) : Prop :=
 ∀ w h, Sep R0 h → Sub C w h → pre w h → Calls C.P f args.toArray w (fun e w' => ∃ v rs h', e = .returned v ∧ post v rs ∧ Sep rs h' ∧ Move C w h w' h')

theorem Spec.mono {f : FuncId} {args : List Value} {pre pre' : World → Heap → Prop} {R0 : List HP} {post post' : Value → List HP → Prop} (h : Spec C f args pre R0 post)
  (hp : ∀ w h, pre' w h → pre w h) (hq : ∀ v rs, post v rs → post' v rs) : Spec C f args pre' R0 post' := fun w k s u p =>
 (h w k s u (hp w k p)).mono fun _ _ ⟨v, rs, h', x1, x2, x3⟩ => ⟨v, rs, h', x1, hq _ _ x2, x3⟩

/-- The arguments' temporaries. -/
def envOf : Nat → List Value → Env
 | _, [] => []
 | k, v :: vs => (k, v) :: envOf (k + 1) vs
theorem envOf_get : ∀ (vs : List Value) (k t : Nat) (v : Value), (envOf k vs).get? t = some v → k ≤ t ∧ vs[t - k]? = some v
 | [], _, _, _, h => by cases h
 | u :: vs, k, t, v, h => by
  unfold envOf Env.get? at h
  cases e : Nat.beq k t with
  | true =>
   rw [e] at h
   obtain rfl := Nat.eq_of_beq_eq_true e
   simp only [cond_true] at h
   exact ⟨Nat.le_refl _, by simpa using h⟩
  | false =>
   rw [e] at h
   simp only [cond_false] at h
   have hne := Nat.ne_of_beq_eq_false e
   obtain ⟨h1, h2⟩ := envOf_get vs (k + 1) t v h
   refine ⟨by omega, ?_⟩
   rw [show t - k = (t - (k + 1)) + 1 by omega]
   simpa using h2

/-- A body is walked. -/
theorem Spec.enter {f : FuncId} {fn : Func} {c : Code} {args : List Value} {pre : World → Heap → Prop} {R0 : List HP} {post : Value → List HP → Prop}
  (hf : C.P.funcs[f]? = some fn) (hb : fn.body = some c) (n : Nat) (hn : fn.ntmps = n) (hle : Nat.ble args.length n = true)
  (h : ∀ w k, Sep R0 k → Sub C w k → pre w k → St C ⟨n, [], w, k⟩ (envOf 0 args) R0 (c.wp C.P (bodyPost C.P fn fun e w' => ∃ v rs h', e = .returned v ∧ post v rs ∧ Sep rs h' ∧ Move C w k w' h'))) : Spec C f args pre R0 post := by
 intro w k hs hu hp
 refine calls_of_wp hf hb (h w k hs hu hp _ w ⟨?_, rfl, ?_⟩ ⟨k, hs, Move.start hu⟩)
 ·have := Nat.le_of_ble_eq_true hle
  simp [hn]; omega
 ·intro t v ht
  obtain ⟨_, h2⟩ := envOf_get args 0 t v ht
  have hlt := (List.getElem?_eq_some_iff.1 h2).1
  simp only [Nat.sub_zero] at h2 hlt
  rw [Array.getElem?_append, if_pos (by simpa using hlt)]
  simpa using h2

/-- Some resources are taken for a call. -/
def Split (rs R0 rest : List HP) : Prop := Weak rs (R0 ++ rest)
theorem Split.nil (rs : List HP) : Split rs [] rs := Weak.refl rs
theorem Split.one {p q : List HP} {r : HP} : Split (p ++ r :: q) [r] (p ++ q) := Weak.front

def callable (P : Program) (f : FuncId) : Bool := match P.funcs[f]? with
 | some fn => !(fn.name == "runtime.NumGoroutine") && fn.body.isSome
 | none => false
theorem run_call {P : Program} {f : FuncId} (hc : callable P f = true) (args : Array Value) (w : World) : (callFunc f args).run P w = .ok (.enter f args) w := by
 unfold callable at hc
 unfold callFunc
 split at hc
 ·rename_i fn hfn
  simp only [Bool.and_eq_true, Bool.not_eq_true'] at hc
  obtain ⟨h1, h2⟩ := hc
  have hb : fn.body.isNone = false := by cases h : fn.body with | none => rw [h] at h2; cases h2 | some _ => rfl
  simp only [Sem.run_bind, run_program, Result.andThen_ok, hfn, h1, hb, Bool.false_eq_true, if_false, Sem.run_pure]
 ·cases hc

theorem W_callv {o : Oper} {Q : Exit → Act → World → Prop} {g : Operand} {xs : List Operand} {ts : Array TypeId} {f : FuncId} {fi ca : List Value} {args vs : List Value} {pre : World → Heap → Prop} {R0 rest : List HP} {post : Value → List HP → Prop}
  (ho : o.op = .call { callee := .value g, args := xs.toArray, argTypes := ts }) (hg : ev l g = some (.func (.func f) fi.toArray ca.toArray)) (hx : evL l xs = some vs) (hvs : fi ++ vs ++ ca = args) (hc : callable C.P f = true) (hs : Spec C f args pre R0 post)
  (sp : Split rs R0 rest) (hp : ∀ w a b, Sep R0 a → Sep rest b → a.Disj b → Move C F.w F.h w (a.join b) → pre w a)
  (k : ∀ v rs', post v rs' → ∀ a w, Rep F.n F.ds l a → Now C F (rs' ++ rest) w → K (a.put o.dst v) w) : OpW C F l rs o K Q := fun a w r n => by
 obtain ⟨h, s, m⟩ := n
 obtain ⟨h', s', le⟩ := sp h s
 obtain ⟨c, d, hc', hd, dj, rfl⟩ := Sep.append.1 s'
 have m' := m.le le
 have hrun : (execOp a.eval o).run C.P w = .ok (.enter f args.toArray) w := by
  unfold execOp
  simp only [ho, resolve, r.ev hg, Deferred.ofValue, invoke, Sem.run_bind, Sem.run_pure, Result.andThen_ok, List.map_toArray, r.evL hx]
  rw [run_call hc]
  simp [← hvs]
 unfold Oper.wp
 rw [hrun]
 show Calls C.P f args.toArray w _
 refine (hs w c hc' (m'.le (Heap.le_join_left _ _)).subOf (hp w c d hc' hd dj m')).mono ?_
 rintro e w' ⟨v, rs', h2, rfl, hpost, hs2, mv⟩
 obtain ⟨dj2, mv2⟩ := m'.call dj mv
 exact k v rs' hpost a w' r ⟨_, Sep.append.2 ⟨h2, d, hs2, hd, dj2, rfl⟩, mv2⟩

theorem W_call {o : Oper} {Q : Exit → Act → World → Prop} {xs : List Operand} {ts : Array TypeId} {f : FuncId} {vs : List Value} {pre : World → Heap → Prop} {R0 rest : List HP} {post : Value → List HP → Prop} {d : Nat}
  (ho : o.op = .call { callee := .value (.func f), args := xs.toArray, argTypes := ts }) (hd : o.dst = some d) (hn : Nat.blt d F.n = true) (hx : evL l xs = some vs) (hc : callable C.P f = true) (hs : Spec C f vs pre R0 post)
  (sp : Split rs R0 rest) (hp : ∀ w a b, Sep R0 a → Sep rest b → a.Disj b → Move C F.w F.h w (a.join b) → pre w a)
  (k : ∀ v rs', post v rs' → St C F ((d, v) :: l) (rs' ++ rest) K) : OpW C F l rs o K Q :=
 W_callv (fi := []) (ca := []) ho rfl hx (by simp) hc hs sp hp fun v rs' hpost a w r n => by rw [hd]; exact k v rs' hpost _ w (r.put hn v) n

/-! ### The end of a body -/
/-- What the results read as. -/
inductive ResV (C : Cx) (F : Fx) (l : Env) (rs : List HP) : List ResultVar → List Value → Prop
 | nil : ResV C F l rs [] []
 | tmp {t : Nat} {v : Value} {xs : List ResultVar} {vs : List Value} (h : l.get? t = some v) (k : ResV C F l rs xs vs) : ResV C F l rs (.tmp t :: xs) (v :: vs)
 | cell {t T : Nat} {ad : Addr} {v : Value} {xs : List ResultVar} {vs : List Value} (h : l.get? t = some (.pointer (some ad))) (hv : ∀ w, Now C F rs w → (loadVar T ad).run C.P w = .ok v w) (k : ResV C F l rs xs vs) :
   ResV C F l rs (.cell t T :: xs) (v :: vs)
theorem asAddr_some (a : Addr) : asAddr (.pointer (some a)) = pure a := rfl
theorem ResV.run {xs : List ResultVar} {vs : List Value} (h : ResV C F l rs xs vs) {a : Act} {w : World} (r : Rep F.n F.ds l a) (n : Now C F rs w) :
  (xs.mapM (m := Sem) (fun x : ResultVar => match x with
   | .tmp t => pure (a.tmps.getD t undef)
   | .cell p t => do loadVar t (← asAddr (a.tmps.getD p undef)))).run C.P w = .ok vs w := by
 induction h with
 | nil => simp
 | tmp h k ih =>
  have h' := r.get _ _ h
  rw [List.mapM_cons]
  simp only [Sem.run_bind, Sem.run_pure, Result.andThen_ok, ih]
  simp [h']
 | cell h hv k ih =>
  have hg := r.ev (x := .tmp _) h
  simp only [Act.eval] at hg
  rw [List.mapM_cons]
  simp only [Sem.run_bind, Sem.run_pure, hg, asAddr_some, Result.andThen_ok, hv w n, ih]
/-- One result stands for itself, others in a tuple. -/
def packV : List Value → Value
 | [v] => v
 | vs => .tuple vs.toArray
theorem ResV.results {fn : Func} {xs : List ResultVar} {vs : List Value} (hf : fn.results = xs.toArray) (h : ResV C F l rs xs vs) {a : Act} {w : World} (r : Rep F.n F.ds l a) (n : Now C F rs w) :
  (Go.results fn a.tmps).run C.P w = .ok (packV vs) w := by
 have hr := h.run r n
 unfold Go.results
 rw [hf, Array.mapM_eq_mapM_toList]
 simp only [Sem.run_bind, Sem.run_map, Sem.run_pure]
 refine (congrArg (fun r : Result (List Value) => (r.andThen fun a w' => Result.ok a.toArray w').andThen fun a w' => Result.ok (if h : a.size = 1 then a[0] else Value.tuple a) w') hr).trans ?_
 simp only [Result.andThen_ok]
 congr 1
 match vs with
 | [] => rfl
 | [_] => rfl
 | _ :: _ :: _ => simp [packV]

theorem R_end {fn : Func} {xs : List ResultVar} {vs : List Value} {post : Value → List HP → Prop} {rs2 : List HP} (hds : F.ds = []) (hf : fn.results = xs.toArray) (h : ResV C F l rs xs vs) (hp : post (packV vs) rs2) (hw : Weak rs rs2) :
  St C F l rs (bodyPost C.P fn (fun e w' => ∃ v rs h', e = .returned v ∧ post v rs ∧ Sep rs h' ∧ Move C F.w F.h w' h') .ret) := fun a w r n => by
 refine ⟨r.defers.trans hds, _, h.results hf r n, ?_⟩
 obtain ⟨k, s, m⟩ := n
 obtain ⟨k', s', le⟩ := hw k s
 exact ⟨_, rs2, k', rfl, hp, s', m.le le⟩
theorem R_end0 {fn : Func} {xs : List ResultVar} {vs : List Value} {post : Value → List HP → Prop} {rs2 : List HP} (hds : F.ds = []) (hf : fn.results = xs.toArray) (h : ResV C F l rs xs vs) (hp : post (packV vs) rs2) (hw : Weak rs rs2) :
  St C F l rs (bodyPost C.P fn (fun e w' => ∃ v rs h', e = .returned v ∧ post v rs ∧ Sep rs h' ∧ Move C F.w F.h w' h') .normal) := fun a w r n => R_end hds hf h hp hw a w r n
end
end Go.Proofs.YtcngmkjdpoiiaaaGreatDoor

/- The third part of the program logic: what the single operations yield, and what they leave in memory. -/
namespace Go.Proofs.YtcngmkjdpoiiaaaGreatDoor
open Go Go.RowKit

/-! ### Types -/
def scB (P : Program) (t : TypeId) : Bool := match P.underlying t with
 | some (.struct _) | some (.array _ _) | none => false
 | some _ => (P.info? t).any fun i => i.size == 1
def agB (P : Program) (t : TypeId) (n : Nat) : Bool := (match P.underlying t with | some (.struct _) | some (.array _ _) => true | _ => false) && (P.info? t).any fun i => i.size == n
def slB (P : Program) (t e sz bytes : Nat) : Bool := (match P.underlying t with | some (.slice e') => e' == e | _ => false) && (P.info? e).any fun i => i.size == sz && i.bytes == bytes
def arB (P : Program) (t n e sz : Nat) : Bool := (match P.underlying t with | some (.array n' e') => n' == n && e' == e | _ => false) && (P.info? e).any fun i => i.size == sz
def flB (P : Program) (s f off : Nat) : Bool := match P.underlying s with
 | some (.struct fs) => match fs[f]? with
  | some fd => fd.offset == off && (P.info? fd.type).any fun i => !(i.size == 0)
  | none => false
 | _ => false
/-- Where a struct's field lies, and of what type it is. -/
def fldB (P : Program) (s f : Nat) : Option (Nat × Nat) := match P.underlying s with
 | some (.struct fs) => match fs[f]? with
  | some fd => some (fd.offset, fd.type)
  | none => none
 | _ => none
def zeB (P : Program) (t : TypeId) (cs : List Value) : Prop := ((P.info? t).bind (·.zero)).map (·.cells.toList) = some cs

section
variable {P : Program} {w : World}
theorem run_size {t n : Nat} (h : ((P.info? t).any fun i => i.size == n) = true) (w : World) : (sizeOf t).run P w = .ok n w := by
 cases hi : P.info? t with
 | none => simp [hi] at h
 | some i =>
  have : i.size = n := by simpa [hi] using h
  simp [sizeOf, typeInfo, hi, this]
theorem run_isAgg_sc {t : Nat} (h : scB P t = true) (w : World) : (isAgg t).run P w = .ok false w ∧ (sizeOf t).run P w = .ok 1 w := by
 unfold scB at h
 split at h
 ·cases h
 ·cases h
 ·cases h
 ·rename_i d hs ha hd
  refine ⟨?_, run_size h w⟩
  unfold isAgg
  rw [Sem.run_bind, run_underlying hd w]
  cases d <;> simp_all
theorem run_isAgg_ag {t n : Nat} (h : agB P t n = true) (w : World) : (isAgg t).run P w = .ok true w ∧ (sizeOf t).run P w = .ok n w := by
 unfold agB at h
 rw [Bool.and_eq_true] at h
 refine ⟨?_, run_size h.2 w⟩
 have h1 := h.1
 split at h1
 ·rename_i d hd
  unfold isAgg
  rw [Sem.run_bind, run_underlying hd w]; rfl
 ·rename_i d hd
  unfold isAgg
  rw [Sem.run_bind, run_underlying hd w]; rfl
 ·cases h1
theorem slB_spec {t e sz bytes : Nat} (h : slB P t e sz bytes = true) : P.underlying t = some (.slice e) ∧ ∃ i, P.info? e = some i ∧ i.size = sz ∧ i.bytes = bytes := by
 unfold slB at h
 rw [Bool.and_eq_true] at h
 obtain ⟨h1, h2⟩ := h
 constructor
 ·split at h1
  ·rename_i e' he
   have : e' = e := by simpa using h1
   subst this; exact he
  ·cases h1
 ·cases hi : P.info? e with
  | none => simp [hi] at h2
  | some i => exact ⟨i, rfl, by simpa [hi] using h2⟩
theorem arB_spec {t n e sz : Nat} (h : arB P t n e sz = true) : P.underlying t = some (.array n e) ∧ ((P.info? e).any fun i => i.size == sz) = true := by
 unfold arB at h
 rw [Bool.and_eq_true] at h
 obtain ⟨h1, h2⟩ := h
 refine ⟨?_, h2⟩
 split at h1
 ·rename_i n' e' he
  have : n' = n ∧ e' = e := by simpa using h1
  obtain ⟨rfl, rfl⟩ := this; exact he
 ·cases h1
theorem add_zero_off (b j : Nat) (n : Nat) : (⟨b, j, none⟩ : Addr).add n = ⟨b, j + n, none⟩ := by unfold Addr.add; split <;> simp_all
end

/-! ### Numbers -/
def fits (k : IntKind) (x : Int) : Prop := match k with
 | .i8 => -128 ≤ x ∧ x ≤ 127
 | .i16 => -32768 ≤ x ∧ x ≤ 32767
 | .i32 => -2147483648 ≤ x ∧ x ≤ 2147483647
 | .i64 => -9223372036854775808 ≤ x ∧ x ≤ 9223372036854775807
 | .u8 => 0 ≤ x ∧ x ≤ 255
 | .u16 => 0 ≤ x ∧ x ≤ 65535
 | .u32 => 0 ≤ x ∧ x ≤ 4294967295
 | .u64 => 0 ≤ x ∧ x ≤ 18446744073709551615
theorem wrap_fits {k : IntKind} {x : Int} (h : fits k x) : k.wrap x = x := by
 cases k <;> simp only [fits] at h <;> simp [IntKind.wrap, IntKind.signed, IntKind.bits] <;> omega
/-- The bit operations on whole numbers of a kind. -/
def bitI (op : BinOp) (k : IntKind) (x y : Int) : Int := match op with
 | .and => k.wrap (BitVec.ofInt k.bits x &&& BitVec.ofInt k.bits y).toNat
 | .or => k.wrap (BitVec.ofInt k.bits x ||| BitVec.ofInt k.bits y).toNat
 | .xor => k.wrap (BitVec.ofInt k.bits x ^^^ BitVec.ofInt k.bits y).toNat
 | .andNot => k.wrap (BitVec.ofInt k.bits x &&& ~~~BitVec.ofInt k.bits y).toNat
 | _ => 0
def shlI (k : IntKind) (x y : Int) : Int := k.wrap (x * 2 ^ min y.toNat k.bits)
def shrI (k : IntKind) (x y : Int) : Int := x.fdiv (2 ^ min y.toNat k.bits)

/-! ### Reading memory -/
section
variable {C : Cx} {F : Fx} {l : Env} {rs rs' : List HP} {K : Act → World → Prop} {o : Oper} {Q : Exit → Act → World → Prop} {d : Nat}

/-- In every fitting world the cell holds v. -/
def Rd (C : Cx) (F : Fx) (rs : List HP) (ad : Addr) (v : Value) : Prop := ∀ w, Now C F rs w → w.cell? ad = some v
/-- The cells from there on. -/
def Rds (C : Cx) (F : Fx) (rs : List HP) (ad : Addr) (cs : List Value) : Prop := ∀ w, Now C F rs w → ∀ j v, cs[j]? = some v → w.cell? (ad.add j) = some v

theorem Now.has {r : HP} {w : World} (n : Now C F rs w) (m : Has rs r r rs) : ∃ a, r a ∧ (∀ i o, a i = some o → w.heap[i]? = some o ∧ C.ng ≤ i) := by
 obtain ⟨h, s, mv⟩ := n
 obtain ⟨a, b, ha, _, rfl, _⟩ := Sep.take m s
 exact ⟨a, ha, fun i o x => ⟨mv.sub i o (Heap.le_join_left _ _ i o x), mv.low i o (Heap.le_join_left _ _ i o x)⟩⟩
theorem Now.getBlk {b T : Nat} {cs : List Value} {w : World} (n : Now C F rs w) (m : Has rs (blk b cs T) (blk b cs T) rs) : ∃ fr, w.heap[b]? = some (.cells cs.toArray T fr) ∧ (fr.1 = fr.2 ∨ cs.length ≤ fr.1) := by
 obtain ⟨a, ⟨fr, hf, rfl⟩, h⟩ := n.has m
 exact ⟨fr, (h b _ (Heap.one_same _ _)).1, hf⟩
theorem Rd.blk {b T j : Nat} {cs : List Value} {v : Value} (m : Has rs (blk b cs T) (blk b cs T) rs) (hv : cs[j]? = some v) : Rd C F rs ⟨b, j, none⟩ v := fun w n => by
 obtain ⟨fr, h, _⟩ := n.getBlk m
 simp [World.cell?, h, hv]
theorem Rd.old {ad : Addr} {v : Value} (hc : F.w.cell? ad = some v) (hf : F.h ad.block = none) : Rd C F rs ad v := fun w n => by
 obtain ⟨h, s, m⟩ := n
 have hlt := block_lt_of_cell hc
 rw [← hc]
 simp only [World.cell?, m.keep ad.block hlt hf]
theorem Rd.glob {g j : Nat} {cs : List Value} {T : TypeId} {fr : Nat × Nat} {v : Value} (hg : Nat.blt g C.ng = true) (hc : C.gl g = .cells cs.toArray T fr) (hv : cs[j]? = some v) : Rd C F rs ⟨g, j, none⟩ v := fun w n => by
 have := n.ok g (Nat.le_of_ble_eq_true hg)
 simp [World.cell?, this, hc, hv]
theorem Rds.of {b j : Nat} {cs : List Value} (h : ∀ i v, cs[i]? = some v → Rd C F rs ⟨b, j + i, none⟩ v) : Rds C F rs ⟨b, j, none⟩ cs := fun w n i v hv => by
 rw [add_zero_off]; exact h i v hv w n
theorem Rds.blk {b T : Nat} {cs : List Value} (m : Has rs (blk b cs T) (blk b cs T) rs) : Rds C F rs ⟨b, 0, none⟩ cs := Rds.of fun i v hv => by
 rw [Nat.zero_add]; exact Rd.blk m hv
theorem Rds.glob {g : Nat} {cs : List Value} {T : TypeId} {fr : Nat × Nat} (hg : Nat.blt g C.ng = true) (hc : C.gl g = .cells cs.toArray T fr) : Rds C F rs ⟨g, 0, none⟩ cs := Rds.of fun i v hv => by
 rw [Nat.zero_add]; exact Rd.glob hg hc hv
theorem Rds.part {b j : Nat} {cs us : List Value} (h : Rds C F rs ⟨b, j, none⟩ cs) (k : Nat) (hu : ∀ i v, us[i]? = some v → cs[k + i]? = some v) : Rds C F rs ⟨b, j + k, none⟩ us := fun w n i v hv => by
 have := h w n (k + i) v (hu i v hv)
 rw [add_zero_off] at this ⊢
 rwa [Nat.add_assoc]
theorem Rds.at_ {b j : Nat} {cs : List Value} (h : Rds C F rs ⟨b, j, none⟩ cs) {i : Nat} {v : Value} (hv : cs[i]? = some v) : Rd C F rs ⟨b, j + i, none⟩ v := fun w n => by
 have := h w n i v hv
 rwa [add_zero_off] at this
theorem Rds.loadVar {t n : Nat} {ad : Addr} {cs : List Value} (ht : agB C.P t n = true) (h : Rds C F rs ad cs) (hn : cs.length = n) : ∀ w, Now C F rs w → (Go.loadVar t ad).run C.P w = .ok (.agg cs.toArray) w := fun w nw => by
 have hl := run_loadCells_list (P := C.P) w ad cs (h w nw)
 subst hn
 simp [Go.loadVar, run_isAgg_ag ht w, hl]
theorem Rd.loadVar {t : Nat} {ad : Addr} {v : Value} (ht : scB C.P t = true) (h : Rd C F rs ad v) : ∀ w, Now C F rs w → (Go.loadVar t ad).run C.P w = .ok v w := fun w nw => by
 simp [Go.loadVar, run_isAgg_sc ht w, h w nw]

/-! ### Operations that yield a value -/
theorem P_move {x : Operand} {v : Value} (ho : o.op = .move x) (hx : ev l x = some v) : OpP C F l o v := fun a w r => by
 simp only [execOp, ho, r.ev hx, Sem.run_pure]
theorem P_assign {x : Operand} {v : Value} (ho : o.op = .assign x) (hx : ev l x = some v) : OpP C F l o v := fun a w r => by
 simp only [execOp, ho, r.ev hx, Sem.run_pure]
theorem P_pick {c x y : Operand} {b : Bool} {v : Value} (ho : o.op = .pick c x y) (hc : ev l c = some (.bool b)) (hx : ev l (if b then x else y) = some v) : OpP C F l o v := fun a w r => by
 cases b
 ·have h2 := r.ev (v := v) (x := y) hx
  simp [execOp, ho, r.ev hc, asBool, h2]
 ·have h2 := r.ev (v := v) (x := x) hx
  simp [execOp, ho, r.ev hc, asBool, h2]
theorem P_not {t : Nat} {x : Operand} {b : Bool} (ho : o.op = .unOp .not t x) (hx : ev l x = some (.bool b)) : OpP C F l o (.bool (!b)) := fun a w r => by
 simp [execOp, ho, r.ev hx, Op.unary]
theorem P_compl {t : Nat} {x : Operand} {k : IntKind} {n : Int} (ho : o.op = .unOp .xor t x) (hx : ev l x = some (.int k n)) : OpP C F l o (.int k (bitI .xor k (if k.signed then -1 else k.max) n)) := fun a w r => by
 simp [execOp, ho, r.ev hx, Op.unary, Op.intBits, bitI]
section
variable {t t' : Nat} {x y : Operand} {k : IntKind} {m n : Int}
theorem P_add (ho : o.op = .binOp .add t x y t') (hx : ev l x = some (.int k m)) (hy : ev l y = some (.int k n)) : OpP C F l o (.int k (k.wrap (m + n))) := fun a w r => by
 simp [execOp, ho, r.ev hx, r.ev hy, binOp, eqGuard, Op.intArith]
theorem P_sub (ho : o.op = .binOp .sub t x y t') (hx : ev l x = some (.int k m)) (hy : ev l y = some (.int k n)) : OpP C F l o (.int k (k.wrap (m - n))) := fun a w r => by
 simp [execOp, ho, r.ev hx, r.ev hy, binOp, eqGuard, Op.intArith]
theorem P_mul (ho : o.op = .binOp .mul t x y t') (hx : ev l x = some (.int k m)) (hy : ev l y = some (.int k n)) : OpP C F l o (.int k (k.wrap (m * n))) := fun a w r => by
 simp [execOp, ho, r.ev hx, r.ev hy, binOp, eqGuard, Op.intArith]
theorem P_addN (ho : o.op = .binOp .add t x y t') (hx : ev l x = some (.int k m)) (hy : ev l y = some (.int k n)) (hf : fits k (m + n)) : OpP C F l o (.int k (m + n)) := by
 have := P_add (C := C) (F := F) ho hx hy; rwa [wrap_fits hf] at this
theorem P_subN (ho : o.op = .binOp .sub t x y t') (hx : ev l x = some (.int k m)) (hy : ev l y = some (.int k n)) (hf : fits k (m - n)) : OpP C F l o (.int k (m - n)) := by
 have := P_sub (C := C) (F := F) ho hx hy; rwa [wrap_fits hf] at this
theorem P_mulN (ho : o.op = .binOp .mul t x y t') (hx : ev l x = some (.int k m)) (hy : ev l y = some (.int k n)) (hf : fits k (m * n)) : OpP C F l o (.int k (m * n)) := by
 have := P_mul (C := C) (F := F) ho hx hy; rwa [wrap_fits hf] at this
theorem P_quo (ho : o.op = .binOp .quo t x y t') (hx : ev l x = some (.int k m)) (hy : ev l y = some (.int k n)) (h0 : n ≠ 0) : OpP C F l o (.int k (k.wrap (m.tdiv n))) := fun a w r => by
 simp [execOp, ho, r.ev hx, r.ev hy, binOp, eqGuard, Op.intDiv, h0]
theorem P_rem (ho : o.op = .binOp .rem t x y t') (hx : ev l x = some (.int k m)) (hy : ev l y = some (.int k n)) (h0 : n ≠ 0) : OpP C F l o (.int k (m.tmod n)) := fun a w r => by
 simp [execOp, ho, r.ev hx, r.ev hy, binOp, eqGuard, Op.intDiv, h0]
theorem P_bit {op : BinOp} (ho : o.op = .binOp op t x y t') (hx : ev l x = some (.int k m)) (hy : ev l y = some (.int k n)) (hop : (match op with | .and | .or | .xor | .andNot => true | _ => false) = true) : OpP C F l o (.int k (bitI op k m n)) := fun a w r => by
 cases op <;> simp at hop <;> simp [execOp, ho, r.ev hx, r.ev hy, binOp, eqGuard, Op.intBits, bitI]
theorem P_shl {k' : IntKind} (ho : o.op = .binOp .shl t x y t') (hx : ev l x = some (.int k m)) (hy : ev l y = some (.int k' n)) (h0 : 0 ≤ n) : OpP C F l o (.int k (shlI k m n)) := fun a w r => by
 have h0' : ¬ n < 0 := by omega
 simp [execOp, ho, r.ev hx, r.ev hy, binOp, eqGuard, Op.shift, h0', shlI]
theorem P_shr {k' : IntKind} (ho : o.op = .binOp .shr t x y t') (hx : ev l x = some (.int k m)) (hy : ev l y = some (.int k' n)) (h0 : 0 ≤ n) : OpP C F l o (.int k (shrI k m n)) := fun a w r => by
 have h0' : ¬ n < 0 := by omega
 simp [execOp, ho, r.ev hx, r.ev hy, binOp, eqGuard, Op.shift, h0', shrI]
theorem P_lss (ho : o.op = .binOp .lss t x y t') (hx : ev l x = some (.int k m)) (hy : ev l y = some (.int k n)) : OpP C F l o (.bool (decide (m < n))) := fun a w r => by
 simp [execOp, ho, r.ev hx, r.ev hy, binOp, eqGuard, Op.intCmp]
theorem P_leq (ho : o.op = .binOp .leq t x y t') (hx : ev l x = some (.int k m)) (hy : ev l y = some (.int k n)) : OpP C F l o (.bool (decide (m ≤ n))) := fun a w r => by
 simp [execOp, ho, r.ev hx, r.ev hy, binOp, eqGuard, Op.intCmp]
theorem P_gtr (ho : o.op = .binOp .gtr t x y t') (hx : ev l x = some (.int k m)) (hy : ev l y = some (.int k n)) : OpP C F l o (.bool (decide (n < m))) := fun a w r => by
 simp [execOp, ho, r.ev hx, r.ev hy, binOp, eqGuard, Op.intCmp]
theorem P_geq (ho : o.op = .binOp .geq t x y t') (hx : ev l x = some (.int k m)) (hy : ev l y = some (.int k n)) : OpP C F l o (.bool (decide (n ≤ m))) := fun a w r => by
 simp [execOp, ho, r.ev hx, r.ev hy, binOp, eqGuard, Op.intCmp]
theorem P_eql (ho : o.op = .binOp .eql t x y t') (hx : ev l x = some (.int k m)) (hy : ev l y = some (.int k n)) : OpP C F l o (.bool (decide (m = n))) := fun a w r => by
 have : (m == n) = decide (m = n) := by by_cases h : m = n <;> simp [h]
 simp [execOp, ho, r.ev hx, r.ev hy, binOp, eqGuard, Op.intCmp, this]
theorem P_neq (ho : o.op = .binOp .neq t x y t') (hx : ev l x = some (.int k m)) (hy : ev l y = some (.int k n)) : OpP C F l o (.bool (decide (m ≠ n))) := fun a w r => by
 have : (m != n) = decide (m ≠ n) := by by_cases h : m = n <;> simp [h]
 simp [execOp, ho, r.ev hx, r.ev hy, binOp, eqGuard, Op.intCmp, this]
end
theorem P_conv {t t' : Nat} {x : Operand} {k k' : IntKind} {n : Int} (ho : o.op = .convert t t' x) (hs : C.P.underlying t = some (.int k)) (ht : C.P.underlying t' = some (.int k')) (hx : ev l x = some (.int k n)) : OpP C F l o (.int k' (k'.wrap n)) := fun a w r => by
 simp [execOp, ho, r.ev hx, convert, run_underlying hs, run_underlying ht, Conv.intToInt]
theorem P_convN {t t' : Nat} {x : Operand} {k k' : IntKind} {n : Int} (ho : o.op = .convert t t' x) (hs : C.P.underlying t = some (.int k)) (ht : C.P.underlying t' = some (.int k')) (hx : ev l x = some (.int k n)) (hf : fits k' n) : OpP C F l o (.int k' n) := by
 have := P_conv (C := C) (F := F) ho hs ht hx; rwa [wrap_fits hf] at this
theorem P_nil {x : Operand} {ad : Addr} (ho : o.op = .nilCheck x) (hx : ev l x = some (.pointer (some ad))) : OpP C F l o (.pointer (some ad)) := fun a w r => by
 simp [execOp, ho, r.ev hx]
theorem P_fld {s f off b j : Nat} {x : Operand} (ho : o.op = .fieldAddr s x f) (hs : flB C.P s f off = true) (hx : ev l x = some (.pointer (some ⟨b, j, none⟩))) : OpP C F l o (.pointer (some ⟨b, j + off, none⟩)) := fun a w r => by
 unfold flB at hs
 split at hs
 ·rename_i fs hfs
  split at hs
  ·rename_i fd hfd
   rw [Bool.and_eq_true] at hs
   obtain ⟨h1, h2⟩ := hs
   have hoff : fd.offset = off := by simpa using h1
   cases hi : C.P.info? fd.type with
   | none => simp [hi] at h2
   | some i =>
    have hne : ¬ i.size = 0 := by simpa [hi] using h2
    simp [execOp, ho, r.ev hx, Instr.fieldAt, run_underlying hfs, hfd, Instr.sureAddr, fieldPlace, sizeOf, typeInfo, hi, hne, hoff, add_zero_off]
  ·cases hs
 ·cases hs
theorem P_fld0 {s f off b : Nat} {x : Operand} (ho : o.op = .fieldAddr s x f) (hs : flB C.P s f off = true) (hx : ev l x = some (.pointer (some ⟨b, 0, none⟩))) : OpP C F l o (.pointer (some ⟨b, off, none⟩)) := by
 have := P_fld (C := C) (F := F) ho hs hx
 rwa [Nat.zero_add] at this
section
variable {t t' e : Nat} {x y : Operand}
theorem pointee_eq {P : Program} (ht : P.underlying t = some (.pointer e)) : P.underlying t = some (.pointer (P.pointee t)) := by
 unfold Program.pointee; rw [ht]
theorem run_guard_ptr {P : Program} {w : World} (op : BinOp) (t : TypeId) (x y : Operand) (p q : Option Addr) : (eqGuard op t x y (.pointer p) (.pointer q)).run P w = .ok () w := by
 unfold eqGuard; cases op <;> rfl
theorem P_neP {p : Option Addr} (ho : o.op = .binOp .neq t x y t') (ht : C.P.underlying t = some (.pointer e)) (hx : ev l x = some (.pointer p)) (hy : ev l y = some (.pointer none)) : OpP C F l o (.bool (!p.isNone)) := fun a w r => by
 simp only [execOp, ho, r.ev hx, r.ev hy, Sem.run_bind, run_guard_ptr, Result.andThen_ok, run_neq_pointer_nil w t p (pointee_eq ht), Sem.run_pure]
theorem P_eqP {p : Option Addr} (ho : o.op = .binOp .eql t x y t') (ht : C.P.underlying t = some (.pointer e)) (hx : ev l x = some (.pointer p)) (hy : ev l y = some (.pointer none)) : OpP C F l o (.bool p.isNone) := fun a w r => by
 simp only [execOp, ho, r.ev hx, r.ev hy, Sem.run_bind, run_guard_ptr, Result.andThen_ok, run_eql_pointer_nil w t p (pointee_eq ht), Sem.run_pure]
theorem P_neNil {ad : Addr} (ho : o.op = .binOp .neq t x y t') (ht : C.P.underlying t = some (.pointer e)) (hx : ev l x = some (.pointer (some ad))) (hy : ev l y = some (.pointer none)) : OpP C F l o (.bool true) := P_neP ho ht hx hy
theorem P_eqNil {ad : Addr} (ho : o.op = .binOp .eql t x y t') (ht : C.P.underlying t = some (.pointer e)) (hx : ev l x = some (.pointer (some ad))) (hy : ev l y = some (.pointer none)) : OpP C F l o (.bool false) := P_eqP ho ht hx hy
end
/-- &a[i], a an array in memory. -/
theorem P_ixa {t n e sz b j : Nat} {x ix : Operand} {k : IntKind} {m : Int} (i : Nat) (ho : o.op = .indexAddr t x ix) (ht : arB C.P t n e sz = true) (hx : ev l x = some (.pointer (some ⟨b, j, none⟩))) (hi : ev l ix = some (.int k m)) (he : m = i) (hn : i < n) :
  OpP C F l o (.pointer (some ⟨b, j + i * sz, none⟩)) := fun a w r => by
 obtain ⟨h1, h2⟩ := arB_spec ht
 subst he
 simp [execOp, ho, r.ev hx, r.ev hi, Instr.indexAt, asIntOf, run_underlying h1, Instr.sureAddr, run_size h2, add_zero_off]
 intro h; omega
/-- &s[i], s a slice. -/
theorem P_ixs {t e sz bytes b j n c : Nat} {x ix : Operand} {k : IntKind} {m : Int} (i : Nat) (ho : o.op = .indexAddr t x ix) (ht : slB C.P t e sz bytes = true) (hx : ev l x = some (.slice (some ⟨b, j, none⟩) n c)) (hi : ev l ix = some (.int k m)) (he : m = i) (hn : i < n) :
  OpP C F l o (.pointer (some ⟨b, j + i * sz, none⟩)) := fun a w r => by
 obtain ⟨h1, ti, h2, h3, _⟩ := slB_spec ht
 subst he
 simp [execOp, ho, r.ev hx, r.ev hi, Instr.indexAt, asIntOf, run_underlying h1, sizeOf, typeInfo, h2, h3, add_zero_off]
 intro h; omega
/-- a[i], a an array by value whose elements are one cell each. -/
theorem P_index {t n e : Nat} {x ix : Operand} {k : IntKind} {m : Int} {cs : List Value} {v : Value} (i : Nat) (ho : o.op = .index t x ix) (ht : arB C.P t n e 1 = true) (he1 : scB C.P e = true) (hx : ev l x = some (.agg cs.toArray)) (hi : ev l ix = some (.int k m)) (he : m = i) (hn : i < n) (hv : cs[i]? = some v) :
  OpP C F l o v := fun a w r => by
 obtain ⟨h1, h2⟩ := arB_spec ht
 subst he
 simp [execOp, ho, r.ev hx, r.ev hi, Instr.index, asIntOf, run_underlying h1, run_size h2, part, run_isAgg_sc he1, hv]
 intro h; omega
/-- x.f, x a struct by value, f of one cell. -/
theorem P_field {s f off ft : Nat} {x : Operand} {cs : List Value} {v : Value} (ho : o.op = .field s x f) (hf : fldB C.P s f = some (off, ft)) (h1 : scB C.P ft = true) (hx : ev l x = some (.agg cs.toArray)) (hv : cs[off]? = some v) : OpP C F l o v := fun a w r => by
 unfold fldB at hf
 split at hf
 ·rename_i fs hu
  split at hf
  ·rename_i fd hfd
   simp only [Option.some.injEq, Prod.mk.injEq] at hf
   obtain ⟨rfl, rfl⟩ := hf
   simp [execOp, ho, r.ev hx, Instr.field, run_underlying hu, hfd, part, asAgg, run_isAgg_sc h1, hv]
  ·cases hf
 ·cases hf
theorem P_extract {x : Operand} {i : Nat} {vs : List Value} {v : Value} (ho : o.op = .extract x i) (hx : ev l x = some (.tuple vs.toArray)) (hv : vs[i]? = some v) : OpP C F l o v := fun a w r => by
 simp [execOp, ho, r.ev hx, Instr.extract, hv]
theorem P_len {t e sz bytes : Nat} {x : Operand} {b : Option Addr} {n c : Nat} (ho : o.op = .call { callee := .builtin .len, args := #[x], argTypes := #[t] }) (ht : slB C.P t e sz bytes = true) (hx : ev l x = some (.slice b n c)) : OpP C F l o (.int .i64 n) := fun a w r => by
 obtain ⟨h1, _⟩ := slB_spec ht
 simp [execOp, ho, resolve, invoke, builtin, r.ev hx, Builtin.len_, run_underlying h1, goInt]
theorem P_lenStr {t : Nat} {x : Operand} {s : ByteArray} (ho : o.op = .call { callee := .builtin .len, args := #[x], argTypes := #[t] }) (ht : C.P.underlying t = some .string) (hx : ev l x = some (.string s)) : OpP C F l o (.int .i64 s.size) := fun a w r => by
 simp [execOp, ho, resolve, invoke, builtin, r.ev hx, Builtin.len_, run_underlying ht, goInt]
theorem P_func {fn : Fn} {first captured : Array Operand} {fi ca : List Value} (ho : o.op = .makeFunc fn first captured) (h1 : evL l first.toList = some fi) (h2 : evL l captured.toList = some ca) : OpP C F l o (.func fn fi.toArray ca.toArray) := fun a w r => by
 have e1 : first.map a.eval = fi.toArray := Array.ext' (by rw [Array.toList_map, r.evL h1])
 have e2 : captured.map a.eval = ca.toArray := Array.ext' (by rw [Array.toList_map, r.evL h2])
 simp [execOp, ho, Instr.makeFunc, e1, e2]
/-- x[lo:hi] of a slice. -/
theorem P_slice {t e sz bytes : Nat} {x : Operand} {lo hi : Option Operand} {b : Option Addr} {n c : Nat} (p q : Nat) (ho : o.op = .slice t x lo hi none) (ht : slB C.P t e sz bytes = true) (hx : ev l x = some (.slice b n c))
  (hlo : match lo with | none => p = 0 | some y => ∃ k, ev l y = some (.int k (p : Int))) (hhi : match hi with | none => q = n | some y => ∃ k, ev l y = some (.int k (q : Int))) (hpq : p ≤ q) (hq : q ≤ c) :
  OpP C F l o (sliced b p q c sz) := fun a w r => by
 obtain ⟨h1, ti, h2, h3, _⟩ := slB_spec ht
 have hpq' : (p : Int) ≤ q := by omega
 have hq' : (q : Int) ≤ c := by omega
 cases lo <;> cases hi <;> simp only at hlo hhi
 ·subst hlo; subst hhi
  simp [execOp, ho, r.ev hx, Instr.sliceAt, Instr.slice, run_underlying h1, Instr.sliceBounds, sliced, sizeOf, typeInfo, h2]
 ·obtain ⟨k, hk⟩ := hhi
  subst hlo
  simp [execOp, ho, r.ev hx, r.ev hk, Instr.sliceAt, Instr.slice, run_underlying h1, Instr.sliceBounds, run_sliceBound, sliced, sizeOf, typeInfo, h2, hq']
 ·obtain ⟨k, hk⟩ := hlo
  subst hhi
  simp [execOp, ho, r.ev hx, r.ev hk, Instr.sliceAt, Instr.slice, run_underlying h1, Instr.sliceBounds, run_sliceBound, sliced, sizeOf, typeInfo, h2, h3, hpq']
 ·obtain ⟨k, hk⟩ := hlo
  obtain ⟨k2, hk2⟩ := hhi
  simp [execOp, ho, r.ev hx, r.ev hk, r.ev hk2, Instr.sliceAt, Instr.slice, run_underlying h1, Instr.sliceBounds, run_sliceBound, sliced, sizeOf, typeInfo, h2, h3, hpq', hq']
/-- x[lo:hi:max] of a slice. -/
theorem P_slice3 {t e sz bytes : Nat} {x y z : Operand} {lo : Option Operand} {b : Option Addr} {n c : Nat} {km kh : IntKind} (p q m : Nat) (ho : o.op = .slice t x lo (some z) (some y)) (ht : slB C.P t e sz bytes = true) (hx : ev l x = some (.slice b n c))
  (hlo : match lo with | none => p = 0 | some y => ∃ k, ev l y = some (.int k (p : Int))) (hhi : ev l z = some (.int kh (q : Int))) (hmx : ev l y = some (.int km (m : Int))) (hpq : p ≤ q) (hq : q ≤ m) (hm : m ≤ c) :
  OpP C F l o (sliced b p q m sz) := fun a w r => by
 obtain ⟨h1, ti, h2, h3, _⟩ := slB_spec ht
 have hpq' : (p : Int) ≤ q := by omega
 have hq' : (q : Int) ≤ m := by omega
 have hm' : (m : Int) ≤ c := by omega
 cases lo <;> simp only at hlo
 ·subst hlo
  simp [execOp, ho, r.ev hx, r.ev hhi, r.ev hmx, Instr.sliceAt, Instr.slice, run_underlying h1, Instr.sliceBounds, run_sliceBound, sliced, sizeOf, typeInfo, h2, h3, hq', hm']
 ·obtain ⟨k, hk⟩ := hlo
  simp [execOp, ho, r.ev hx, r.ev hk, r.ev hhi, r.ev hmx, Instr.sliceAt, Instr.slice, run_underlying h1, Instr.sliceBounds, run_sliceBound, sliced, sizeOf, typeInfo, h2, h3, hpq', hq', hm']
/-- a[lo:] of an array in memory. -/
theorem P_sliceArr {t n e sz b j : Nat} {x : Operand} {lo hi : Option Operand} (p q : Nat) (ho : o.op = .slice t x lo hi none) (ht : arB C.P t n e sz = true) (hx : ev l x = some (.pointer (some ⟨b, j, none⟩)))
  (hlo : match lo with | none => p = 0 | some y => ∃ k, ev l y = some (.int k (p : Int))) (hhi : match hi with | none => q = n | some y => ∃ k, ev l y = some (.int k (q : Int))) (hpq : p ≤ q) (hq : q ≤ n) :
  OpP C F l o (.slice (some (if n = p then ⟨b, j, none⟩ else ⟨b, j + p * sz, none⟩)) (q - p) (n - p)) := fun a w r => by
 obtain ⟨h1, h2⟩ := arB_spec ht
 have hpq' : (p : Int) ≤ q := by omega
 have hq' : (q : Int) ≤ n := by omega
 cases lo <;> cases hi <;> simp only at hlo hhi
 ·subst hlo; subst hhi
  simp [execOp, ho, r.ev hx, Instr.sliceAt, Instr.sureAddr, run_underlying h1, Instr.sliceBounds, run_size h2, add_zero_off]
 ·obtain ⟨k, hk⟩ := hhi
  subst hlo
  simp [execOp, ho, r.ev hx, r.ev hk, Instr.sliceAt, Instr.sureAddr, run_underlying h1, Instr.sliceBounds, run_sliceBound, run_size h2, add_zero_off, hq']
 ·obtain ⟨k, hk⟩ := hlo
  subst hhi
  simp [execOp, ho, r.ev hx, r.ev hk, Instr.sliceAt, Instr.sureAddr, run_underlying h1, Instr.sliceBounds, run_sliceBound, run_size h2, add_zero_off, hpq']
 ·obtain ⟨k, hk⟩ := hlo
  obtain ⟨k2, hk2⟩ := hhi
  simp [execOp, ho, r.ev hx, r.ev hk, r.ev hk2, Instr.sliceAt, Instr.sureAddr, run_underlying h1, Instr.sliceBounds, run_sliceBound, run_size h2, add_zero_off, hpq', hq']
theorem P_sliceAll {t n e sz b j : Nat} {x : Operand} (ho : o.op = .slice t x none none none) (ht : arB C.P t n e sz = true) (hx : ev l x = some (.pointer (some ⟨b, j, none⟩))) : OpP C F l o (.slice (some ⟨b, j, none⟩) n n) := fun a w r => by
 have := P_sliceArr (C := C) (F := F) 0 n ho ht hx rfl rfl (Nat.zero_le _) (Nat.le_refl _) a w r
 simpa using this

theorem V_load {t : Nat} {x : Operand} {ad : Addr} {v : Value} (ho : o.op = .load t x) (hx : ev l x = some (.pointer (some ad))) (ht : scB C.P t = true) (hr : Rd C F rs ad v) : OpV C F l rs o v := fun a w r n => by
 simp [execOp, ho, r.ev hx, Instr.loadAt, Instr.sureAddr, Rd.loadVar ht hr w n]
theorem V_loadAgg {t n : Nat} {x : Operand} {ad : Addr} {cs : List Value} (ho : o.op = .load t x) (hx : ev l x = some (.pointer (some ad))) (ht : agB C.P t n = true) (hr : Rds C F rs ad cs) (hn : cs.length = n) : OpV C F l rs o (.agg cs.toArray) := fun a w r nw => by
 simp [execOp, ho, r.ev hx, Instr.loadAt, Instr.sureAddr, Rds.loadVar ht hr hn w nw]
end
end Go.Proofs.YtcngmkjdpoiiaaaGreatDoor

/- The fourth part of the program logic: operations that make or write memory; regions whose order Go leaves open. -/
namespace Go.Proofs.YtcngmkjdpoiiaaaGreatDoor
open Go Go.RowKit

/-! ### One block is written -/
/-- Block g holds u now; nothing else has changed. -/
structure PutRel (w : World) (g : Nat) (u : Obj) (w' : World) : Prop where
 os : w'.os = w.os
 tape : w'.tape = w.tape
 output : w'.output = w.output
 drawn : w'.drawn = w.drawn
 size : w'.heap.size = w.heap.size
 at_ : w'.heap[g]? = some u
 other : ∀ i, i ≠ g → w'.heap[i]? = w.heap[i]?

theorem run_store_blk {P : Program} {w : World} {g j T : Nat} {cur : List Value} {fr : Nat × Nat} {v : Value} (hg : w.heap[g]? = some (.cells cur.toArray T fr)) (hf : fr.1 = fr.2 ∨ cur.length ≤ fr.1) (hj : j < cur.length) (h1 : v.oneCell' = true) :
  ∃ w', (store ⟨g, j, none⟩ v).run P w = .ok () w' ∧ PutRel w g (.cells (cur.set j v).toArray T fr) w' := by
 have hc : w.cell? ⟨g, j, none⟩ = some cur[j] := by simp [World.cell?, hg, hj]
 have hz : w.frozen? ⟨g, j, none⟩ = false := by
  simp only [World.frozen?, hg]
  simp only [Bool.and_eq_false_iff, decide_eq_false_iff_not]
  omega
 refine ⟨w.setCell ⟨g, j, none⟩ v, ?_, rfl, rfl, rfl, rfl, World.size_setCell _ _ _, ?_, fun i hi => heap_setCell_other _ _ _ _ hi⟩
 ·rw [run_store P w _ v _ h1, hc]
  simp [hz]
 ·simp only [World.setCell]
  rw [Array.getElem?_modify, if_pos rfl, hg]
  simp

def splice (cur : List Value) (o : Nat) (vs : List Value) : List Value := cur.take o ++ vs ++ cur.drop (o + vs.length)
theorem splice_nil (cur : List Value) (o : Nat) : splice cur o [] = cur := by simp [splice]
theorem splice_cons (cur : List Value) (o : Nat) (v : Value) (vs : List Value) (h : o + vs.length + 1 ≤ cur.length) : splice (cur.set o v) (o + 1) vs = splice cur o (v :: vs) := by
 have := list_seg_step cur o v vs (by omega)
 unfold splice
 rw [this]
 simp [Nat.add_assoc, Nat.add_comm 1 vs.length]
theorem length_splice (cur : List Value) (o : Nat) (vs : List Value) (h : o + vs.length ≤ cur.length) : (splice cur o vs).length = cur.length := by simp [splice]; omega
theorem splice_all (cur vs : List Value) (h : vs.length = cur.length) : splice cur 0 vs = vs := by simp [splice, h]

theorem run_storeCells_blk {P : Program} {g o T : Nat} {fr : Nat × Nat} : ∀ (vs : List Value) (i : Nat) (cur : List Value) (w : World), w.heap[g]? = some (.cells cur.toArray T fr) → (fr.1 = fr.2 ∨ cur.length ≤ fr.1) →
  o + i + vs.length ≤ cur.length → (∀ v ∈ vs, v.oneCell' = true) → ∃ w', (storeCells ⟨g, o, none⟩ vs i).run P w = .ok () w' ∧ PutRel w g (.cells (splice cur (o + i) vs).toArray T fr) w'
 | [], i, cur, w, hg, _, _, _ => ⟨w, by simp [storeCells], rfl, rfl, rfl, rfl, rfl, by rw [splice_nil]; exact hg, fun _ _ => rfl⟩
 | v :: vs, i, cur, w, hg, hf, hl, h1 => by
  simp only [List.length_cons] at hl
  obtain ⟨w1, hr, p⟩ := run_store_blk (P := P) (j := o + i) hg hf (by omega) (h1 v (by simp))
  obtain ⟨w2, hr2, p2⟩ := run_storeCells_blk (P := P) (o := o) vs (i + 1) (cur.set (o + i) v) w1 p.at_ (by simpa using hf) (by simp; omega) (fun x hx => h1 x (by simp [hx]))
  refine ⟨w2, ?_, p2.os.trans p.os, p2.tape.trans p.tape, p2.output.trans p.output, p2.drawn.trans p.drawn, p2.size.trans p.size, ?_, fun k hk => (p2.other k hk).trans (p.other k hk)⟩
  ·simp only [storeCells, Sem.run_bind, add_zero_off, hr, Result.andThen_ok, hr2]
  ·rw [p2.at_, ← Nat.add_assoc, splice_cons cur (o + i) v vs (by omega)]

section
variable {C : Cx} {F : Fx} {l : Env} {rs rs' : List HP} {K : Act → World → Prop} {o : Oper} {Q : Exit → Act → World → Prop} {d : Nat}

theorem Now.ng {w : World} (n : Now C F rs w) : C.ng ≤ w.heap.size := by
 rcases Nat.eq_zero_or_pos C.ng with h | h
 ·omega
 ·have := lt_of_some (n.ok (C.ng - 1) (by omega)); omega
theorem Now.alloc {w : World} (n : Now C F rs w) (cs : List Value) (T : TypeId) : Now C F (blk w.heap.size cs T :: rs) (w.alloc (.cells cs.toArray T)) := by
 have hng := n.ng
 obtain ⟨h, s, m⟩ := n
 obtain ⟨dj, m2⟩ := m.alloc hng (.cells cs.toArray T)
 exact ⟨_, ⟨_, h, ⟨(0, 0), .inl rfl, rfl⟩, s, dj, rfl⟩, m2⟩
theorem Now.put {w w' : World} {b T : Nat} {cs cs' : List Value} (n : Now C F rs w) (m : Has rs (blk b cs T) (blk b cs' T) rs') (hlen : cs'.length = cs.length)
  (h : ∀ fr, w.heap[b]? = some (.cells cs.toArray T fr) → (fr.1 = fr.2 ∨ cs.length ≤ fr.1) → PutRel w b (.cells cs'.toArray T fr) w') : Now C F rs' w' := by
 obtain ⟨k, s, mv⟩ := n
 obtain ⟨a, c, ⟨fr, hf, rfl⟩, dj, rfl, back⟩ := Sep.take m s
 have hb := mv.sub b _ (Heap.le_join_left _ _ b _ (Heap.one_same _ _))
 have p := h fr hb hf
 obtain ⟨dj2, mv2⟩ := mv.put dj p.os p.tape p.output p.drawn p.size p.at_ p.other
 exact ⟨_, back _ ⟨fr, by rw [hlen]; exact hf, rfl⟩ dj2, mv2⟩

/-- var x T -/
theorem W_alloc {T : Nat} {cs : List Value} (ho : o.op = .alloc T) (hd : o.dst = some d) (hn : Nat.blt d F.n = true) (hz : zeB C.P T cs)
  (k : ∀ b, St C F ((d, .pointer (some ⟨b, 0, none⟩)) :: l) (blk b cs T :: rs) K) : OpW C F l rs o K Q := fun a w r n => by
 unfold zeB at hz
 obtain ⟨z, hz1, hz2⟩ := Option.map_eq_some_iff.1 hz
 obtain ⟨i, hi, hiz⟩ := Option.bind_eq_some_iff.1 hz1
 have hcs : z.cells = cs.toArray := by rw [← hz2]
 unfold Oper.wp
 have : (execOp a.eval o).run C.P w = .ok (.value (.pointer (some ⟨w.heap.size, 0, none⟩))) (w.alloc (.cells cs.toArray T)) := by
  simp [execOp, ho, Instr.alloc, zeroValue, typeInfo, hi, hiz, newVar, newRow, hcs]
 rw [this]
 show K (a.put o.dst _) _
 rw [hd]
 exact k _ _ _ (r.put hn _) (n.alloc cs T)
theorem W_box {T : Nat} {x : Operand} {v : Value} (cs : List Value) (ho : o.op = .box T x) (hd : o.dst = some d) (hn : Nat.blt d F.n = true) (hx : ev l x = some v) (hv : v.cells = cs.toArray)
  (k : ∀ b, St C F ((d, .pointer (some ⟨b, 0, none⟩)) :: l) (blk b cs T :: rs) K) : OpW C F l rs o K Q := fun a w r n => by
 unfold Oper.wp
 have : (execOp a.eval o).run C.P w = .ok (.value (.pointer (some ⟨w.heap.size, 0, none⟩))) (w.alloc (.cells cs.toArray T)) := by
  simp [execOp, ho, Instr.box, newVar, newRow, r.ev hx, hv]
 rw [this]
 show K (a.put o.dst _) _
 rw [hd]
 exact k _ _ _ (r.put hn _) (n.alloc cs T)

theorem W_store {t b j T : Nat} {x y : Operand} {v : Value} {cs : List Value} (ho : o.op = .store t x y) (hd : o.dst = none) (hx : ev l x = some (.pointer (some ⟨b, j, none⟩))) (hy : ev l y = some v) (ht : scB C.P t = true) (h1 : v.oneCell' = true)
  (m : Has rs (blk b cs T) (blk b (cs.set j v) T) rs') (hj : j < cs.length) (k : St C F l rs' K) : OpW C F l rs o K Q := fun a w r n => by
 have m0 : Has rs (blk b cs T) (blk b cs T) rs := by obtain ⟨p, q, e, _⟩ := m; exact ⟨p, q, e, e⟩
 obtain ⟨fr, hg, hf⟩ := n.getBlk m0
 obtain ⟨w', hr, p⟩ := run_store_blk (P := C.P) hg hf hj h1
 have hcells : v.cells = #[v] := by cases v <;> first | rfl | (simp [Value.oneCell'] at h1)
 unfold Oper.wp
 have : (execOp a.eval o).run C.P w = .ok .skip w' := by
  simp [execOp, ho, Instr.storeAt, Instr.sureAddr, r.ev hx, r.ev hy, storeVar, (run_isAgg_sc ht w).2, hcells, storeCells, hr, add_zero_off]
 rw [this]
 show K (a.put o.dst undef) w'
 rw [hd]
 refine k a w' r (n.put m (by simp) fun fr' hg' _ => ?_)
 rw [hg] at hg'
 injection hg' with hg'
 injection hg' with _ _ e
 exact e ▸ p
theorem W_storeAgg {t b j T n : Nat} {x y : Operand} {vs : List Value} {cs : List Value} (ho : o.op = .store t x y) (hd : o.dst = none) (hx : ev l x = some (.pointer (some ⟨b, j, none⟩))) (hy : ev l y = some (.agg vs.toArray)) (ht : agB C.P t n = true) (hl : vs.length = n)
  (h1 : ∀ v ∈ vs, v.oneCell' = true) (m : Has rs (blk b cs T) (blk b (splice cs j vs) T) rs') (hj : j + vs.length ≤ cs.length) (k : St C F l rs' K) : OpW C F l rs o K Q := fun a w r nw => by
 have m0 : Has rs (blk b cs T) (blk b cs T) rs := by obtain ⟨p, q, e, _⟩ := m; exact ⟨p, q, e, e⟩
 obtain ⟨fr, hg, hf⟩ := nw.getBlk m0
 obtain ⟨w', hr, p⟩ := run_storeCells_blk (P := C.P) (o := j) vs 0 cs w hg hf (by simpa using hj) h1
 subst hl
 unfold Oper.wp
 have : (execOp a.eval o).run C.P w = .ok .skip w' := by
  simp [execOp, ho, Instr.storeAt, Instr.sureAddr, r.ev hx, r.ev hy, storeVar, (run_isAgg_ag ht w).2, Value.cells, hr]
 rw [this]
 show K (a.put o.dst undef) w'
 rw [hd]
 refine k a w' r (nw.put m (length_splice _ _ _ hj) fun fr' hg' _ => ?_)
 rw [hg] at hg'
 injection hg' with hg'
 injection hg' with _ _ e
 exact e ▸ p
/-- The whole block is stored over. -/
theorem W_storeAll {t b T n : Nat} {x y : Operand} {vs : List Value} {cs : List Value} (ho : o.op = .store t x y) (hd : o.dst = none) (hx : ev l x = some (.pointer (some ⟨b, 0, none⟩))) (hy : ev l y = some (.agg vs.toArray)) (ht : agB C.P t n = true) (hl : vs.length = n)
  (h1 : ∀ v ∈ vs, v.oneCell' = true) (m : Has rs (blk b cs T) (blk b vs T) rs') (hj : vs.length = cs.length) (k : St C F l rs' K) : OpW C F l rs o K Q :=
 W_storeAgg ho hd hx hy ht hl h1 (by rw [splice_all cs vs hj]; exact m) (by omega) k

/-! ### Literals of slices -/
theorem fill_flat (sz : Nat) : ∀ (vs : List Value) (k : Nat) (done todo : List Value), done.length = k * sz → todo.length = vs.length * sz → (∀ v ∈ vs, v.cells.size = sz) →
  Instr.fill (fun i => some (i * sz, sz)) (done ++ todo).toArray ((List.range' k vs.length).zip vs) = some (done ++ vs.flatMap (·.cells.toList)).toArray
 | [], k, done, todo, _, ht, _ => by
  have : todo = [] := List.eq_nil_of_length_eq_zero (by simpa using ht)
  subst this
  simp [Instr.fill]
 | v :: vs, k, done, todo, hd, ht, hv => by
  have hsz := hv v (by simp)
  simp only [List.length_cons, Nat.add_mul, Nat.one_mul] at ht
  have hfold : ∀ (us : List Value) (j : Nat) (a b c : List Value), a.length = k * sz + j → b.length = us.length → 
    (us.zipIdx j).foldl (fun (cs : Array Value) (x : Value × Nat) => cs.setIfInBounds (k * sz + x.2) x.1) (a ++ b ++ c).toArray = (a ++ us ++ c).toArray := by
   intro us
   induction us with
   | nil => intro j a b c _ hb; have : b = [] := List.eq_nil_of_length_eq_zero hb; subst this; simp
   | cons u us ih =>
    intro j a b c ha hb
    cases b with
    | nil => simp at hb
    | cons b0 b =>
     simp only [List.zipIdx_cons, List.foldl_cons]
     have e : ((a ++ b0 :: b ++ c).toArray).setIfInBounds (k * sz + j) u = ((a ++ [u]) ++ b ++ c).toArray := by
      rw [← ha]
      simp [List.set_append]
     rw [e, ih (j + 1) (a ++ [u]) b c (by simp; omega) (by simpa using hb)]
     simp
  rw [List.length_cons, List.range'_succ]
  simp only [List.zip_cons_cons, Instr.fill]
  have h1 : ¬ (v.cells.size ≠ sz) := by simpa using hsz
  have h2 : ¬ (k * sz + v.cells.size > (done ++ todo).toArray.size) := by simp [hd, hsz]; omega
  simp only [h1, h2, decide_false, Bool.or_self, Bool.false_eq_true, if_false]
  have e2 : v.cells.zipIdx.foldl (fun (cs : Array Value) (x : Value × Nat) => cs.setIfInBounds (k * sz + x.2) x.1) (done ++ todo).toArray = ((done ++ v.cells.toList) ++ todo.drop sz).toArray := by
   have := hfold v.cells.toList 0 done (todo.take sz) (todo.drop sz) (by simpa using hd) (by simp; omega)
   rw [List.append_assoc, List.take_append_drop] at this
   rw [← this, ← Array.foldl_toList, Array.toList_zipIdx]
  have e3 : (v.cells.zipIdx.foldl (fun (cs : Array Value) (x : Value × Nat) => match x with | (c, j) => cs.setIfInBounds (k * sz + j) c) (done ++ todo).toArray) = ((done ++ v.cells.toList) ++ todo.drop sz).toArray := e2
  rw [e3, fill_flat sz vs (k + 1) (done ++ v.cells.toList) (todo.drop sz) (by simp [hd, hsz, Nat.add_mul]) (by simp; omega) (fun x hx => hv x (by simp [hx]))]
  simp

theorem fill_flatR (sz : Nat) (rest : List Value) : ∀ (vs : List Value) (k : Nat) (done todo : List Value), done.length = k * sz → todo.length = vs.length * sz → (∀ v ∈ vs, v.cells.size = sz) →
  Instr.fill (fun i => some (i * sz, sz)) (done ++ todo ++ rest).toArray ((List.range' k vs.length).zip vs) = some (done ++ vs.flatMap (·.cells.toList) ++ rest).toArray
 | [], k, done, todo, _, ht, _ => by
  have : todo = [] := List.eq_nil_of_length_eq_zero (by simpa using ht)
  subst this
  simp [Instr.fill]
 | v :: vs, k, done, todo, hd, ht, hv => by
  have hsz := hv v (by simp)
  simp only [List.length_cons, Nat.add_mul, Nat.one_mul] at ht
  have hfold : ∀ (us : List Value) (j : Nat) (a b c : List Value), a.length = k * sz + j → b.length = us.length → 
    (us.zipIdx j).foldl (fun (cs : Array Value) (x : Value × Nat) => cs.setIfInBounds (k * sz + x.2) x.1) (a ++ b ++ c).toArray = (a ++ us ++ c).toArray := by
   intro us
   induction us with
   | nil => intro j a b c _ hb; have : b = [] := List.eq_nil_of_length_eq_zero hb; subst this; simp
   | cons u us ih =>
    intro j a b c ha hb
    cases b with
    | nil => simp at hb
    | cons b0 b =>
     simp only [List.zipIdx_cons, List.foldl_cons]
     have e : ((a ++ b0 :: b ++ c).toArray).setIfInBounds (k * sz + j) u = ((a ++ [u]) ++ b ++ c).toArray := by
      rw [← ha]
      simp [List.set_append]
     rw [e, ih (j + 1) (a ++ [u]) b c (by simp; omega) (by simpa using hb)]
     simp
  rw [List.length_cons, List.range'_succ]
  simp only [List.zip_cons_cons, Instr.fill]
  have h1 : ¬ (v.cells.size ≠ sz) := by simpa using hsz
  have h2 : ¬ (k * sz + v.cells.size > (done ++ todo ++ rest).toArray.size) := by simp [hd, hsz]; omega
  simp only [h1, h2, decide_false, Bool.or_self, Bool.false_eq_true, if_false]
  have e2 : v.cells.zipIdx.foldl (fun (cs : Array Value) (x : Value × Nat) => cs.setIfInBounds (k * sz + x.2) x.1) (done ++ todo ++ rest).toArray = ((done ++ v.cells.toList) ++ todo.drop sz ++ rest).toArray := by
   have := hfold v.cells.toList 0 done (todo.take sz) (todo.drop sz ++ rest) (by simpa using hd) (by simp; omega)
   rw [show done ++ todo.take sz ++ (todo.drop sz ++ rest) = done ++ todo ++ rest by rw [List.append_assoc done, ← List.append_assoc (todo.take sz), List.take_append_drop, List.append_assoc], ← List.append_assoc] at this
   rw [← this, ← Array.foldl_toList, Array.toList_zipIdx]
  have e3 : (v.cells.zipIdx.foldl (fun (cs : Array Value) (x : Value × Nat) => match x with | (c, j) => cs.setIfInBounds (k * sz + j) c) (done ++ todo ++ rest).toArray) = ((done ++ v.cells.toList) ++ todo.drop sz ++ rest).toArray := e2
  rw [e3, fill_flatR sz rest vs (k + 1) (done ++ v.cells.toList) (todo.drop sz) (by simp [hd, hsz, Nat.add_mul]) (by simp; omega) (fun x hx => hv x (by simp [hx]))]
  simp

/-- []T literal: the parts stand for places 0, 1, .. -/
theorem W_lit {t e sz bytes len : Nat} {parts : Array (Nat × Operand)} {vs : List Value} {z : Value} (cs : List Value) (ho : o.op = .buildSlice t len parts) (hd : o.dst = some d) (hn : Nat.blt d F.n = true) (ht : slB C.P t e sz bytes = true)
  (hz : ((C.P.info? e).bind (·.zero)).map (·.cells.size) = some sz) (hx : evL l (parts.toList.map (·.2)) = some vs) (hi : parts.toList.map (·.1) = List.range' 0 vs.length) (hlen : vs.length = len) (hsmall : len * sz ≤ 16777216) (h0 : ¬ len * sz = 0)
  (hv : ∀ v ∈ vs, v.cells.size = sz) (hcs : vs.flatMap (·.cells.toList) = cs)
  (k : ∀ b, St C F ((d, .slice (some ⟨b, 0, none⟩) len len) :: l) (blk b cs e :: rs) K) : OpW C F l rs o K Q := fun a w r n => by
 obtain ⟨h1, ti, h2, h3, _⟩ := slB_spec ht
 obtain ⟨z, hz1, hz2⟩ := Option.map_eq_some_iff.1 hz
 obtain ⟨i, hi1, hiz⟩ := Option.bind_eq_some_iff.1 hz1
 rw [h2] at hi1
 obtain rfl := Option.some.inj hi1
 have hparts : (parts.map fun (p : Nat × Operand) => (p.1, a.eval p.2)).toList = (List.range' 0 vs.length).zip vs := by
  rw [Array.toList_map, ← hi, ← r.evL hx]
  simp [List.zip_map', Function.comp_def]
 unfold Oper.wp
 have : (execOp a.eval o).run C.P w = .ok (.value (.slice (some ⟨w.heap.size, 0, none⟩) len len)) (w.alloc (.cells cs.toArray e)) := by
  have hns : ¬ (16777216 < len * sz) := by omega
  have hf := fill_flat sz vs 0 [] ((List.range (len * sz)).map fun j => z.cells[j % z.cells.size]!) (by simp) (by simp [hlen]) hv
  simp only [List.nil_append, hcs] at hf
  have hparts' : (Array.map (fun x : Nat × Operand => match x with | (i, x) => (i, a.eval x)) parts).toList = (List.range' 0 vs.length).zip vs := hparts
  simp only [execOp, ho, Instr.buildSlice, Sem.run_bind, run_underlying h1, Result.andThen_ok, sizeOf, typeInfo, run_program, h2, Sem.run_pure, h3]
  rw [hparts']
  have hf' : Instr.fill (fun i => some (i * sz, sz)) (Array.map (fun j => z.cells[j % z.cells.size]!) (Array.range (len * sz))) ((List.range' 0 vs.length).zip vs) = some cs.toArray := by
   rw [← hf]; congr 1; apply Array.ext'; simp [Array.toList_map, Array.toList_range]
  simp [hns, h0, zeroValue, typeInfo, h2, hiz, hf', newRow]
 rw [this]
 show K (a.put o.dst _) _
 rw [hd]
 exact k _ _ _ (r.put hn _) (n.alloc cs e)

/-! ### Slices that the call itself makes and lets grow -/
/-- v is nil and cs empty, or v begins at the head of a block of its own, whose first cells are cs. -/
def ownS (T sz : Nat) (v : Value) (n : Nat) (cs : List Value) : HP := fun h => cs.length = n * sz ∧
 (((∃ b0, v = .slice b0 0 0) ∧ n = 0 ∧ h = Heap.none) ∨ ∃ b cap junk, v = .slice (some ⟨b, 0, none⟩) n cap ∧ n ≤ cap ∧ cap ≤ maxLen ∧ cap * sz ≤ (cs ++ junk).length ∧ blk b (cs ++ junk) T h)

theorem ownS.form {T sz n : Nat} {v : Value} {cs : List Value} {h : Heap} (x : ownS T sz v n cs h) : ∃ b cap, v = .slice b n cap ∧ n ≤ cap := by
 rcases x.2 with ⟨⟨b0, rfl⟩, rfl, _⟩ | ⟨b, cap, junk, rfl, hc, _⟩
 ·exact ⟨b0, 0, rfl, Nat.le_refl _⟩
 ·exact ⟨_, cap, rfl, hc⟩
/-- A slice without room. -/
theorem Weak.newNil0 {T sz : Nat} {b0 : Option Addr} {rs : List HP} : Weak rs (ownS T sz (.slice b0 0 0) 0 [] :: rs) := fun h s =>
 ⟨Heap.none.join h, ⟨Heap.none, h, ⟨by simp, .inl ⟨⟨b0, rfl⟩, rfl, rfl⟩⟩, s, Heap.disj_none h, rfl⟩, by rw [Heap.none_join]; exact Heap.Le.refl h⟩
theorem Weak.newNil {T sz : Nat} {rs : List HP} : Weak rs (ownS T sz (.slice none 0 0) 0 [] :: rs) := Weak.newNil0
/-- A literal or a made slice, from now on let grow. -/
theorem ownS.of_blk {T sz b n : Nat} {cs : List Value} (hl : cs.length = n * sz) (hn : n ≤ maxLen) : ∀ h, blk b cs T h → ownS T sz (.slice (some ⟨b, 0, none⟩) n n) n cs h := fun h x =>
 ⟨hl, .inr ⟨b, n, [], rfl, Nat.le_refl _, hn, by simpa using Nat.le_of_eq hl.symm, by simpa using x⟩⟩

/-- What is appended: how many elements, and their cells. -/
structure Src (C : Cx) (F : Fx) (rs : List HP) (sz : Nat) (x : Value) (m : Nat) (news : List Value) : Prop where
 len : Builtin.lenOf x = pure m
 cells : ∀ w, Now C F rs w → (Builtin.firstCells sz m x).run C.P w = .ok news.toArray w
 size : news.length = m * sz
 one : ∀ v ∈ news, v.oneCell' = true
theorem Src.slice {sz m c : Nat} {ad : Addr} {news : List Value} (h : Rds C F rs ad news) (hl : news.length = m * sz) (h1 : ∀ v ∈ news, v.oneCell' = true) : Src C F rs sz (.slice (some ad) m c) m news :=
 ⟨rfl, fun w n => run_firstCells_some w sz m ad m c news hl (h w n), hl, h1⟩
theorem Src.nil {sz c : Nat} : Src C F rs sz (.slice none 0 c) 0 [] := ⟨rfl, fun w n => by simp [Builtin.firstCells], by simp, fun _ h => by cases h⟩

def apB (P : Program) (e sz : Nat) : Bool := ((P.info? e).bind (·.zero)).any fun z => z.cells.size == sz
def srcB (P : Program) (t : Nat) : Bool := match P.underlying t with | some (.slice _) | some .string => true | _ => false

theorem length_zeroCells (z : Array Value) (n : Nat) : (Builtin.zeroCells z n).toList.length = n * z.size := by simp [Builtin.zeroCells]
section
variable {P : Program} {w w' : World}
theorem srcB_spec {t' : Nat} (h : srcB P t' = true) : (∃ e, P.underlying t' = some (.slice e)) ∨ P.underlying t' = some .string := by
 unfold srcB at h
 split at h
 ·rename_i e he; exact .inl ⟨e, he⟩
 ·rename_i he; exact .inr he
 ·cases h
/-- There is room. -/
theorem run_append_fit {t t' e sz n m cap ty : Nat} {base : Option Addr} {u : Value} {news : List Value} {ti : TypeInfo} (h1 : P.underlying t = some (.slice e)) (h2 : P.info? e = some ti) (h3 : ti.size = sz) (h4 : (∃ e, P.underlying t' = some (.slice e)) ∨ P.underlying t' = some .string)
  (hlen : Builtin.lenOf u = pure m) (hc : (Builtin.firstCells sz m u).run P w = .ok news.toArray w) (hroom : n + m ≤ cap)
  (hst : match base with | none => w' = w | some a => (storeCells (a.add (n * sz)) news).run P w = .ok () w') :
  (Builtin.append_ #[t, t'] ty #[.slice base n cap, u]).run P w = .ok (.slice base (n + m) cap) w' := by
 cases base with
 | none =>
  simp only at hst
  subst hst
  rcases h4 with ⟨e', h4⟩ | h4 <;> simp [Builtin.append_, run_underlying h1, run_underlying h4, sizeOf, typeInfo, h2, h3, hlen, hroom, hc]
 | some a =>
  simp only at hst
  rcases h4 with ⟨e', h4⟩ | h4 <;> simp [Builtin.append_, run_underlying h1, run_underlying h4, sizeOf, typeInfo, h2, h3, hlen, hroom, hc, hst]
/-- There is none: a new block. -/
theorem run_append_new {t t' e sz n m cap ty : Nat} {base : Option Addr} {u : Value} {olds news : List Value} {ti : TypeInfo} {z : Value} (h1 : P.underlying t = some (.slice e)) (h2 : P.info? e = some ti) (h3 : ti.size = sz) (hz : ti.zero = some z) (h4 : (∃ e, P.underlying t' = some (.slice e)) ∨ P.underlying t' = some .string)
  (hlen : Builtin.lenOf u = pure m) (hc : (Builtin.firstCells sz m u).run P w.drew = .ok news.toArray w.drew) (ho : (Builtin.firstCells sz n (.slice base n cap)).run P w.drew = .ok olds.toArray w.drew) (hroom : cap < n + m) (hb : (n + m) * ti.bytes ≤ 140737488355328) (hm : n + m ≤ maxLen) :
  (Builtin.append_ #[t, t'] ty #[.slice base n cap, u]).run P w = .ok (.slice (some ⟨w.heap.size, 0, none⟩) (n + m) (grownCap w (n + m) cap e))
   (w.drew.alloc (.cells (olds ++ news ++ (Builtin.zeroCells z.cells (grownCap w (n + m) cap e - (n + m))).toList).toArray e)) := by
 have hn : ¬ (n + m ≤ cap) := by omega
 have h63 : ¬ (9223372036854775807 < ((n : Int) + (m : Int))) := by simp only [maxLen] at hm; omega
 have h48 : ¬ (281474976710656 < Builtin.nextslicecap (n + m) cap * ti.bytes) := by
  have := growslice_fits hroom hb
  omega
 have hq : (Question.appendCap (n + m) cap e).forced = false := rfl
 rcases h4 with ⟨e', h4⟩ | h4 <;>
  (simp [Builtin.append_, run_underlying h1, run_underlying h4, sizeOf, typeInfo, zeroValue, h2, h3, hz, hlen, hn, h63, h48, hq, ho, hc, newRow, grownCap]; congr 2; apply Array.ext'; simp)
end

theorem run_firstCells_0 {P : Program} (sz : Nat) (b0 : Option Addr) (l c : Nat) (w : World) : (Builtin.firstCells sz 0 (.slice b0 l c)).run P w = .ok (([] : List Value).toArray) w := by
 cases b0 with
 | none => exact run_firstCells_none _ _ _ _ _
 | some a => exact run_firstCells_some w sz 0 a l c [] (by simp) (fun _ _ h => by cases h)
/-- append to a slice of the call's own. -/
theorem W_append {p q : List HP} {t t' e sz bytes n m : Nat} {x y : Operand} {v u : Value} {cs news : List Value} (ho : o.op = .call { callee := .builtin .append, args := #[x, y], argTypes := #[t, t'] }) (hd : o.dst = some d) (hn : Nat.blt d F.n = true)
  (ht : slB C.P t e sz bytes = true) (hap : apB C.P e sz = true) (ht' : srcB C.P t' = true) (hx : ev l x = some v) (hy : ev l y = some u) (hsz : Nat.blt 0 sz = true) (src : Src C F (p ++ ownS e sz v n cs :: q) sz u m news)
  (hb : (n + m) * bytes ≤ 140737488355328) (hm : n + m ≤ maxLen)
  (k : ∀ v', St C F ((d, v') :: l) (p ++ ownS e sz v' (n + m) (cs ++ news) :: q) K) : OpW C F l (p ++ ownS e sz v n cs :: q) o K Q := by
 intro a w r nw
 obtain ⟨h1, ti, h2, h3, h3b⟩ := slB_spec ht
 have h4 := srcB_spec ht'
 unfold apB at hap
 obtain ⟨z, hz0, hzs⟩ : ∃ z, ((C.P.info? e).bind (·.zero)) = some z ∧ z.cells.size = sz := by
  cases hh : (C.P.info? e).bind (·.zero) with
  | none => rw [hh] at hap; cases hap
  | some z => rw [hh] at hap; exact ⟨z, rfl, by simpa using hap⟩
 have hz : ti.zero = some z := by rw [h2] at hz0; exact hz0
 have hrun : ∀ v' w', (Builtin.append_ #[t, t'] o.type #[v, u]).run C.P w = .ok v' w' → (execOp a.eval o).run C.P w = .ok (.value v') w' := fun v' w' hh => by
  simp [execOp, ho, resolve, invoke, builtin, r.ev hx, r.ev hy, hh]
 have hgo : ∀ v' w', (Builtin.append_ #[t, t'] o.type #[v, u]).run C.P w = .ok v' w' → Now C F (p ++ ownS e sz v' (n + m) (cs ++ news) :: q) w' → o.wp C.P a w K Q := fun v' w' hh nn => by
  unfold Oper.wp
  rw [hrun v' w' hh]
  show K (a.put o.dst v') w'
  rw [hd]
  exact k v' _ _ (r.put hn v') nn
 have hdrew := nw.drew (w.drawn + 1) (Nat.le_succ _)
 have nw0 := nw
 obtain ⟨hp, hs, mv⟩ := nw
 obtain ⟨c0, d0, hc0, ⟨ha, hq0, own, hqq, d1, rfl⟩, d2, rfl⟩ := Sep.append.1 hs
 obtain ⟨d3, d4⟩ := Heap.disj_join.1 d2
 have dj : ha.Disj (c0.join hq0) := Heap.disj_join.2 ⟨d3.symm, d1⟩
 have ejoin : c0.join (ha.join hq0) = ha.join (c0.join hq0) := by rw [← Heap.join_assoc, ← Heap.join_assoc, Heap.join_comm d3]
 rw [ejoin] at mv
 have back : ∀ (s : HP) a', s a' → a'.Disj (c0.join hq0) → Sep (p ++ s :: q) (a'.join (c0.join hq0)) := fun s a' ha' da => by
  obtain ⟨d5, d6⟩ := Heap.disj_join.1 da
  refine Sep.append.2 ⟨c0, a'.join hq0, hc0, ⟨a', hq0, ha', hqq, d6, rfl⟩, Heap.disj_join.2 ⟨d5.symm, d4⟩, ?_⟩
  rw [← Heap.join_assoc, ← Heap.join_assoc, Heap.join_comm d5]
 have hlen : (cs ++ news).length = (n + m) * sz := by rw [List.length_append, own.1, src.size, Nat.add_mul]
 -- a new block
 have fresh : ∀ cap base, v = .slice base n cap → cap < n + m → (∀ w, Now C F (p ++ ownS e sz v n cs :: q) w → (Builtin.firstCells sz n (.slice base n cap)).run C.P w = .ok cs.toArray w) → o.wp C.P a w K Q := by
  intro cap base hv hroom hold
  have hr := run_append_new (P := C.P) (w := w) (ty := o.type) h1 h2 h3 hz h4 src.len (src.cells _ hdrew) (hold _ hdrew) hroom (by rw [h3b]; exact hb) hm
  rw [← hv] at hr
  refine hgo _ _ hr ?_
  have hge := grownCap_ge w (n + m) cap e
  have hcm := grownCap_le_maxLen w (n + m) cap e hm
  obtain ⟨h', s', m'⟩ := hdrew
  obtain ⟨a0, b0, own0, dj0, rfl, back⟩ := Sep.take (s := ownS e sz (.slice (some ⟨w.heap.size, 0, none⟩) (n + m) (grownCap w (n + m) cap e)) (n + m) (cs ++ news)) Has.at_ s'
  have m2 := m'.le (Heap.le_join_right dj0)
  obtain ⟨djn, m3⟩ := m2.alloc (by have := nw0.ng; exact this) (.cells (cs ++ news ++ (Builtin.zeroCells z.cells (grownCap w (n + m) cap e - (n + m))).toList).toArray e)
  refine ⟨_, back _ ⟨hlen, .inr ⟨w.heap.size, _, _, rfl, hge, hcm, ?_, ⟨(0, 0), .inl rfl, rfl⟩⟩⟩ djn, m3⟩
  rw [List.length_append, hlen, length_zeroCells, hzs, ← Nat.add_mul]
  exact Nat.mul_le_mul_right _ (by omega)
 rcases own.2 with ⟨⟨b0, rfl⟩, rfl, rfl⟩ | ⟨b, cap, junk, rfl, hnc, hcm, hcl, fr, hfr, rfl⟩
 ·have hcs : cs = [] := List.eq_nil_of_length_eq_zero (by simpa using own.1)
  subst hcs
  by_cases hm0 : m = 0
  ·subst hm0
   have hnews : news = [] := List.eq_nil_of_length_eq_zero (by simpa using src.size)
   subst hnews
   refine hgo (.slice b0 0 0) w (run_append_fit (w' := w) h1 h2 h3 h4 src.len (src.cells w nw0) (Nat.le_refl _) (by cases b0 <;> rfl)) nw0
  ·exact fresh 0 b0 rfl (by omega) fun w' _ => run_firstCells_0 _ _ _ _ _
 ·have hold : ∀ w', Now C F (p ++ ownS e sz (.slice (some ⟨b, 0, none⟩) n cap) n cs :: q) w' → (Builtin.firstCells sz n (.slice (some ⟨b, 0, none⟩) n cap)).run C.P w' = .ok cs.toArray w' := by
   intro w' ⟨h2', s2', m2'⟩
   obtain ⟨a1, b1, own1, dj1, rfl, _⟩ := Sep.take (s := ownS e sz (.slice (some ⟨b, 0, none⟩) n cap) n cs) Has.at_ s2'
   rcases own1.2 with ⟨hc1, _⟩ | ⟨b2, cap2, junk2, hv2, _, _, _, fr2, _, rfl⟩
   ·obtain ⟨b1, hc1⟩ := hc1
    obtain ⟨_, rfl, _⟩ : _ ∧ n = 0 ∧ _ := by injection hc1 with e1 e2 e3; exact ⟨e1, e2, e3⟩
    have hcs : cs = [] := List.eq_nil_of_length_eq_zero (by simpa using own.1)
    subst hcs
    exact run_firstCells_0 _ _ _ _ _
   ·simp only [Value.slice.injEq, Option.some.injEq, Addr.mk.injEq] at hv2
    obtain ⟨⟨rfl, _⟩, _, rfl⟩ := hv2
    have hblk := m2'.sub b _ (Heap.le_join_left _ _ b _ (Heap.one_same _ _))
    refine run_firstCells_some w' sz n _ n cap cs own.1 fun j u' hu' => ?_
    rw [add_zero_off, Nat.zero_add, cell_of_row w' b j _ _ _ hblk]
    have hj := (List.getElem?_eq_some_iff.1 hu').1
    rw [List.getElem?_toArray, List.getElem?_append_left hj]; exact hu'
  by_cases hroom : n + m ≤ cap
  ·have hblk := mv.sub b _ (Heap.le_join_left _ _ b _ (Heap.one_same _ _))
   have hfit : 0 + n * sz + 0 + news.length ≤ (cs ++ junk).length := by
    rw [src.size]
    have := Nat.mul_le_mul_right sz hroom
    rw [Nat.add_mul] at this
    omega
   obtain ⟨w', hst, pr⟩ := run_storeCells_blk (P := C.P) (o := 0 + n * sz) news 0 (cs ++ junk) w hblk hfr hfit src.one
   refine hgo _ w' (run_append_fit (w' := w') h1 h2 h3 h4 src.len (src.cells w nw0) hroom (by show (storeCells ((⟨b, 0, none⟩ : Addr).add (n * sz)) news).run C.P w = _; rw [add_zero_off]; exact hst)) ?_
   obtain ⟨djn, m3⟩ := mv.put dj pr.os pr.tape pr.output pr.drawn pr.size pr.at_ pr.other
   have hsp : splice (cs ++ junk) (0 + n * sz + 0) news = (cs ++ news) ++ junk.drop news.length := by
    simp only [Nat.zero_add, Nat.add_zero, splice, ← own.1]
    simp [List.drop_append]
   rw [hsp] at m3 djn
   refine ⟨_, back _ _ ⟨hlen, .inr ⟨b, cap, junk.drop news.length, rfl, hroom, hcm, ?_, ⟨fr, ?_, rfl⟩⟩⟩ djn, m3⟩
   ·rw [← hsp, length_splice _ _ _ hfit]; exact hcl
   ·rw [← hsp, length_splice _ _ _ hfit]; exact hfr
  ·exact fresh cap _ rfl (by omega) hold
end
end Go.Proofs.YtcngmkjdpoiiaaaGreatDoor

/- The fifth part of the program logic: regions whose order Go leaves open: what is quiet is done first, what is loud comes alone. -/
namespace Go.Proofs.YtcngmkjdpoiiaaaGreatDoor
open Go Go.RowKit

section
variable {P : Program} {ops : Array Oper} {Q : Exit → Act → World → Prop}

/-- Does operation number j wait for number i, itself or by others? -/
def waitsN (ops : Array Oper) : Nat → Nat → Nat → Bool
 | 0, _, _ => false
 | f + 1, j, i => match ops[j]? with
  | some o => o.after.any fun e => Region.binds .any e && (Nat.beq e.on i || waitsN ops f e.on i)
  | none => false
def waits (ops : Array Oper) (j i : Nat) : Bool := waitsN ops ops.size j i
/-- What is listed waits for nothing that is not. -/
def Closed (ops : Array Oper) (listed : Array Bool) : Prop := ∀ k o, ops[k]? = some o → listed.getD k false = true → ∀ e ∈ o.after, Region.binds .any e = true → listed.getD e.on false = true
theorem Closed.waits {listed : Array Bool} (hc : Closed ops listed) : ∀ (f j i : Nat), waitsN ops f j i = true → (∀ o, ops[j]? = some o → ∀ e ∈ o.after, Region.binds .any e = true → listed.getD e.on false = true) → listed.getD i false = true
 | 0, _, _, h, _ => by cases h
 | f + 1, j, i, h, hj => by
  unfold waitsN at h
  split at h
  ·rename_i o ho
   obtain ⟨e, he, hb⟩ := Array.any_eq_true'.1 h
   simp only [Bool.and_eq_true, Bool.or_eq_true] at hb
   have hl := hj o ho e he hb.1
   rcases hb.2 with hb2 | hb2
   ·rw [← Nat.eq_of_beq_eq_true hb2]; exact hl
   ·exact hc.waits f e.on i hb2 fun o' ho' => hc e.on o' ho' hl
  ·cases h
theorem Closed.list {listed : Array Bool} (hc : Closed ops listed) {j : Nat} (hj : j ∈ Region.ready .any ops listed) : Closed ops (listed.setIfInBounds j true) := fun k o ho hk e he hb => by
 by_cases hkj : j = k
 ·subst hkj
  obtain ⟨_, o', ho', hall⟩ := mem_ready.1 hj
  rw [ho] at ho'
  obtain rfl := Option.some.inj ho'
  exact getD_set_true (hall e he hb)
 ·rw [getD_set_ne false hkj] at hk
  exact getD_set_true (hc k o ho hk e he hb)

/-- Whatever order is picked from here on; S holds behind each operation; one that starts S anew ('new') is waited for. -/
def wpAnyG (P : Program) (ops : Array Oper) (Q : Exit → Act → World → Prop) (new : Nat → Bool) (S : World → Prop) : Nat → Array Bool → Act → World → Prop
 | 0, listed, a, w => Region.ready .any ops listed = [] ∧ Q .normal a w
 | fuel + 1, listed, a, w =>
  (Region.ready .any ops listed = [] → Q .normal a w) ∧
  ∀ i ∈ Region.ready .any ops listed, wpOp P ops Q i (fun a' w' => ∃ S' : World → Prop, (new i = false → ∀ x, S' x → S x) ∧ S' w' ∧ wpAnyG P ops Q new S' fuel (listed.setIfInBounds i true) a' w') a w

theorem wpAny_of_G {new : Nat → Bool} : ∀ (fuel : Nat) (S : World → Prop) (listed : Array Bool) (a : Act) (w : World), wpAnyG P ops Q new S fuel listed a w → wpAny P .any ops Q fuel listed a w
 | 0, _, _, _, _, h => h
 | fuel + 1, S, _, _, _, h => ⟨h.1, fun i hi => wpOp_mono (fun a' w' ⟨S', _, _, h'⟩ => wpAny_of_G fuel S' _ a' w' h') (h.2 i hi)⟩

/-- What an operation yields in every world of a class, which it does not leave: a value in the very world, or a call's. -/
theorem YieldsIn.weak {S S' : World → Prop} {o : Oper} {v : Value} {a : Act} (h : YieldsIn P ops S o v a) (hs : ∀ w, S' w → S w) (hp : ∀ w, S' w → o.quietAt P a S w v → o.quietAt P a S' w v) : YieldsIn P ops S' o v a :=
 h.imp (fun ⟨x, y⟩ => ⟨x, fun w hw => hp w hw (y w (hs w hw))⟩) id

/-- One operation 'oj', apart from 'oi': whether 'oi''s value is already in its temporary makes no difference to it. -/
theorem wpOp_putG {j : Nat} {oi oj : Oper} {v : Value} {Y : Act → Prop} (hj : ops[j]? = some oj) (hap : oi.apart ops oj = true)
  (hsj : ∀ cs b, oj.op ≠ .select cs b) (hY : ∀ a, Y a → ∀ u, Y (a.put oj.dst u)) (hYd : ∀ a d, Y a → Y { a with defers := d :: a.defers })
  (hQ : ∀ c a w, Q (.panic c) (a.put oi.dst v) w → Q (.panic c) a w) {K : Act → World → Prop} {a : Act} {w : World}
  (hy : Y a) (h : wpOp P ops Q j K (a.put oi.dst v) w) :
  wpOp P ops Q j (fun a' w' => Y a' ∧ K (a'.put oi.dst v) w') a w := by
 obtain ⟨h1, h2, h3⟩ := Oper.apart_spec hap
 unfold wpOp at *
 simp only [hj] at *
 rw [wanted_put oj a oi.dst v h1] at h
 split
 ·rename_i hw
  simp only [hw, if_true] at h
  rcases h with h | ⟨hasks, hlets⟩
  case inr => exact .inr ⟨by unfold Oper.asks at *; rw [execOp_put oj hsj a oi.dst v h1] at hasks; exact hasks, hlets⟩
  refine .inl ?_
  unfold Oper.wp at *
  rw [execOp_put oj hsj a oi.dst v h1] at h
  generalize (execOp a.eval oj).run P w = r at *
  cases r with
  | ok n w' =>
   cases n <;> simp only [Oper.upon] at h ⊢
   case value u => exact ⟨hY _ hy u, by rw [← Act.put_comm a v u h2]; exact h⟩
   case skip => exact ⟨hY _ hy _, by rw [← Act.put_comm a v undef h2]; exact h⟩
   case defer d =>
    refine ⟨hY _ (hYd _ d hy) _, ?_⟩
    rw [← Act.put_comm _ v undef h2, ← Act.put_defers]
    exact h
   case enter f args =>
    refine Calls.mono h fun e w'' he => ?_
    cases e with
    | returned u => exact ⟨hY _ hy u, by rw [← Act.put_comm a v u h2]; exact he⟩
    | panicked c => exact hQ _ _ _ he
    | outgrown => exact he
   case row row args => exact Rows.mono h fun u w'' he => ⟨hY _ hy u, by rw [← Act.put_comm a v u h2]; exact he⟩
  | halt x w' =>
   cases x <;> simp only [Oper.upon] at h ⊢
   case panic u => exact hQ _ _ _ h
 ·rename_i hw
  simp only [hw] at h
  exact ⟨hY _ hy _, by rw [← Act.put_comm a v undef h2]; exact h⟩

/-- What the quiet operation keeps on yielding while others come up: in every class within S that the program may come to. -/
def Holds (P : Program) (ops : Array Oper) (S : World → Prop) (o : Oper) (v : Value) (a : Act) : Prop :=
 (Region.wanted o (yielded ops a.tmps) = true ∧ ∀ w, S w → (execOp a.eval o).run P w = .ok (.value v) w) ∨
 (Region.wanted o (yielded ops a.tmps) = false ∧ v = undef)
theorem Holds.weak {S S' : World → Prop} {o : Oper} {v : Value} {a : Act} (h : Holds P ops S o v a) (hs : ∀ w, S' w → S w) : Holds P ops S' o v a :=
 h.imp (fun ⟨x, y⟩ => ⟨x, fun w hw => y w (hs w hw)⟩) id
theorem Holds.of_same {S : World → Prop} {o : Oper} {v : Value} {a a' : Act} (hy : Holds P ops S o v a) (he : execOp a'.eval o = execOp a.eval o)
  (hw : Region.wanted o (yielded ops a'.tmps) = Region.wanted o (yielded ops a.tmps)) : Holds P ops S o v a' := by
 unfold Holds at *
 rw [he, hw]
 exact hy
theorem Holds.wpOp {S : World → Prop} {i : Nat} {o : Oper} {v : Value} {a : Act} (hi : ops[i]? = some o) (hy : Holds P ops S o v a) {K : Act → World → Prop} {w : World} (hS : S w) (h : K (a.put o.dst v) w) : wpOp P ops Q i K a w := by
 unfold Go.wpOp
 simp only [hi]
 rcases hy with ⟨hw, hv⟩ | ⟨hw, rfl⟩
 ·simp only [hw, if_true, Oper.wp, hv w hS, Oper.upon]; exact .inl h
 ·simp only [hw, Bool.false_eq_true, if_false]; exact h

/-- A quiet operation may be taken first. -/
theorem wpAnyG_first {new : Nat → Bool} {i : Nat} {oi : Oper} {v : Value} (hi : ops[i]? = some oi) (hsel : ∀ (j : Nat) (o : Oper) cs b, ops[j]? = some o → o.op ≠ .select cs b)
  (hQ : ∀ c a w, Q (.panic c) (a.put oi.dst v) w → Q (.panic c) a w) {G : (World → Prop) → Act → Prop} (gh : ∀ S a, G S a → Holds P ops S oi v a) (gs : ∀ S a a', G S a → execOp a'.eval oi = execOp a.eval oi → Region.wanted oi (yielded ops a'.tmps) = Region.wanted oi (yielded ops a.tmps) → G S a')
  (gw : ∀ S S' a, G S a → (∀ w, S' w → S w) → G S' a) (gn : (∀ j, new j = true → waits ops j i = true) ∨ ∀ S S' a, G S a → G S' a) :
  ∀ (fuel : Nat) (S : World → Prop) (listed : Array Bool) (a : Act) (w : World),
   (∀ j oj, ops[j]? = some oj → j ≠ i → listed.getD j true = false → (∀ e ∈ oj.after, Region.binds .any e = true → e.on ≠ i) → oi.apart ops oj = true) →
   Closed ops listed → i ∈ Region.ready .any ops listed → G S a → S w →
   wpAnyG P ops Q new S fuel (listed.setIfInBounds i true) (a.put oi.dst v) w → wpAnyG P ops Q new S (fuel + 1) listed a w := by
 intro fuel
 induction fuel with
 | zero =>
  intro S listed a w _ hcl hr hy hS H
  refine ⟨fun h => (by rw [h] at hr; cases hr), fun j hj => ?_⟩
  by_cases hji : j = i
  ·subst hji; exact (gh _ _ hy).wpOp hi hS ⟨S, fun _ _ h => h, hS, H⟩
  ·have := ready_mono hj hji
   rw [H.1] at this
   cases this
 | succ fuel ih =>
  intro S listed a w hfree hcl hr hy hS H
  refine ⟨fun h => (by rw [h] at hr; cases hr), fun j hj => ?_⟩
  by_cases hji : j = i
  ·subst hji; exact (gh _ _ hy).wpOp hi hS ⟨S, fun _ _ h => h, hS, H⟩
  ·have h1 := H.2 j (ready_mono hj hji)
   obtain ⟨hjun, oj, hoj, hall⟩ := mem_ready.1 hj
   have hnot : ∀ e ∈ oj.after, Region.binds .any e = true → e.on ≠ i := fun e he hb heq => by
    have h1 := hall e he hb
    have h0 := (mem_ready.1 hr).1
    rw [heq] at h1
    rcases Nat.lt_or_ge i listed.size with h' | h'
    ·simp [h'] at h0 h1; rw [h0] at h1; cases h1
    ·simp [Array.getElem?_eq_none h'] at h1
   have hap := hfree j oj hoj hji hjun hnot
   obtain ⟨_, _, h3⟩ := Oper.apart_spec hap
   have h2 := wpOp_putG (Y := fun a' => G S a') hoj hap (fun cs b => hsel j oj cs b hoj)
    (fun a' hy' u => gs _ _ _ hy' (execOp_put oi (fun cs b => hsel i oi cs b hi) a' oj.dst u h3) (wanted_put oi a' oj.dst u h3)) (fun a' d hy' => gs _ _ _ hy' rfl rfl) hQ hy h1
   have hfree' : ∀ k ok, ops[k]? = some ok → k ≠ i → (listed.setIfInBounds j true).getD k true = false →
     (∀ e ∈ ok.after, Region.binds .any e = true → e.on ≠ i) → oi.apart ops ok = true := fun k ok hk hki hun hno => by
    refine hfree k ok hk hki ?_ hno
    by_cases hjk : j = k
    ·subst hjk; exact hjun
    ·rw [getD_set_ne true hjk] at hun; exact hun
   refine wpOp_mono (fun a' w' ⟨hy', S', hs', hS', h3'⟩ => ?_) h2
   have hyn : G S' a' := by
    rcases gn with hw | hany
    ·cases hn : new j with
     | false => exact gw _ _ _ hy' (hs' hn)
     | true =>
      exfalso
      have hw := hcl.waits _ _ _ (hw j hn) fun o ho => by rw [hoj] at ho; obtain rfl := Option.some.inj ho; exact hall
      have h0 := (mem_ready.1 hr).1
      rcases Nat.lt_or_ge i listed.size with h' | h'
      ·simp [h'] at h0 hw; rw [h0] at hw; cases hw
      ·simp [Array.getElem?_eq_none h'] at hw
    ·exact hany S S' a' hy'
   refine ⟨S', hs', hS', ih S' (listed.setIfInBounds j true) a' w' hfree' (hcl.list hj) (ready_mono hr (Ne.symm hji)) hyn hS' ?_⟩
   rw [Array.setIfInBounds_comm _ _ hji]
   exact h3'

/-- The operations in the order in which they are walked: 0 what yields in any world, 1 what yields in the worlds at hand, 2 what comes alone and keeps them, 3 what comes alone and starts anew. -/
def schGo (ops : Array Oper) (all : List (Nat × Nat)) : List (Nat × Nat) → Array Bool → Bool
 | [], listed => (Region.ready .any ops listed).isEmpty
 | (i, k) :: rest, listed => (Region.ready .any ops listed).contains i &&
  (bif Nat.ble k 1 then Region.free .any ops listed i && (Nat.beq k 0 || all.all fun jk => !(Nat.beq jk.2 3) || waits ops jk.1 i) else Region.ready .any ops listed == [i]) && schGo ops all rest (listed.setIfInBounds i true)
def schB (ops : Array Oper) (order : List (Nat × Nat)) : Bool := Region.noSelect ops && Nat.beq order.length ops.size && schGo ops order order (Array.replicate ops.size false)

def wpSch (P : Program) (ops : Array Oper) (Q : Exit → Act → World → Prop) : List (Nat × Nat) → (World → Prop) → Act → World → Prop
 | [], _, a, w => Q .normal a w
 | (i, 0) :: rest, S, a, w => ∃ o v, ops[i]? = some o ∧ (∀ S', Holds P ops S' o v a) ∧ wpSch P ops Q rest S (a.put o.dst v) w
 | (i, 1) :: rest, S, a, w => ∃ o v, ops[i]? = some o ∧ Holds P ops S o v a ∧ wpSch P ops Q rest S (a.put o.dst v) w
 | (i, 2) :: rest, S, a, w => wpOp P ops Q i (fun a' w' => ∃ S' : World → Prop, (∀ x, S' x → S x) ∧ S' w' ∧ wpSch P ops Q rest S' a' w') a w
 | (i, 3) :: rest, _, a, w => wpOp P ops Q i (fun a' w' => ∃ S' : World → Prop, S' w' ∧ wpSch P ops Q rest S' a' w') a w
 | _, _, _, _ => False

def newOf (all : List (Nat × Nat)) (i : Nat) : Bool := all.any fun jk => Nat.beq jk.1 i && Nat.beq jk.2 3

theorem wpSch_sound (hs : Region.noSelect ops = true) (hQ : ∀ d v c a w, Q (.panic c) (a.put d v) w → Q (.panic c) a w) (all : List (Nat × Nat)) :
  ∀ (order : List (Nat × Nat)) (S : World → Prop) (listed : Array Bool) (a : Act) (w : World), (∀ x, x ∈ order → x ∈ all) → schGo ops all order listed = true → Closed ops listed → S w → wpSch P ops Q order S a w → wpAnyG P ops Q (newOf all) S order.length listed a w
 | [], S, listed, a, w, _, hB, _, _, h => ⟨by simpa [schGo] using hB, h⟩
 | (i, k) :: rest, S, listed, a, w, hall, hB, hcl, hS, h => by
  unfold schGo at hB
  simp only [Bool.and_eq_true] at hB
  obtain ⟨⟨hr, hk⟩, hB'⟩ := hB
  have hrest := fun x hx => hall x (List.mem_cons_of_mem _ hx)
  have hcl' := hcl.list (j := i) (by simpa using hr)
  match k, hk, h with
  | 0, hk, h =>
   obtain ⟨o, v, ho, hy, hn⟩ := h
   simp only [Nat.ble, cond_true, Bool.and_eq_true] at hk
   exact wpAnyG_first ho (Region.noSelect_spec hs) (hQ _ _) (G := fun _ a => ∀ S', Holds P ops S' o v a) (fun S a g => g S) (fun S a a' g e1 e2 S' => (g S').of_same e1 e2) (fun _ _ _ g _ => g) (.inr fun _ _ _ g => g)
    rest.length S listed a w (Region.free_spec ho hk.1) hcl (by simpa using hr) hy hS (wpSch_sound hs hQ all rest S _ _ _ hrest hB' hcl' hS hn)
  | 1, hk, h =>
   obtain ⟨o, v, ho, hy, hn⟩ := h
   simp only [Nat.ble, cond_true, Bool.and_eq_true] at hk
   have hw : ∀ j, newOf all j = true → waits ops j i = true := fun j hj => by
    unfold newOf at hj
    obtain ⟨jk, hm, he⟩ := List.any_eq_true.1 hj
    simp only [Bool.and_eq_true] at he
    have h2 := hk.2
    simp only [Bool.or_eq_true] at h2
    rcases h2 with h2 | h2
    ·cases h2
    ·have h3 := List.all_eq_true.1 h2 jk hm
     simp only [he.2, Bool.not_true, Bool.false_or] at h3
     rwa [Nat.eq_of_beq_eq_true he.1] at h3
   exact wpAnyG_first ho (Region.noSelect_spec hs) (hQ _ _) (G := fun S a => Holds P ops S o v a) (fun S a g => g) (fun S a a' g e1 e2 => g.of_same e1 e2) (fun _ _ _ g l => g.weak l) (.inl hw)
    rest.length S listed a w (Region.free_spec ho hk.1) hcl (by simpa using hr) hy hS (wpSch_sound hs hQ all rest S _ _ _ hrest hB' hcl' hS hn)
  | 2, hk, h =>
   have hk' : Region.ready .any ops listed = [i] := by simpa [Nat.ble] using hk
   refine ⟨fun h0 => (by rw [hk'] at h0; cases h0), fun j hj => ?_⟩
   rw [hk'] at hj
   obtain rfl : j = i := by simpa using hj
   exact wpOp_mono (fun a' w' ⟨S', hs', hS', hn⟩ => ⟨S', fun _ => hs', hS', wpSch_sound hs hQ all rest S' _ _ _ hrest hB' hcl' hS' hn⟩) h
  | 3, hk, h =>
   have hk' : Region.ready .any ops listed = [i] := by simpa [Nat.ble] using hk
   refine ⟨fun h0 => (by rw [hk'] at h0; cases h0), fun j hj => ?_⟩
   rw [hk'] at hj
   obtain rfl : j = i := by simpa using hj
   have hnw : newOf all j = true := by
    unfold newOf
    exact List.any_eq_true.2 ⟨(j, 3), hall _ List.mem_cons_self, by simp⟩
   exact wpOp_mono (fun a' w' ⟨S', hS', hn⟩ => ⟨S', fun hf => (by rw [hnw] at hf; cases hf), hS', wpSch_sound hs hQ all rest S' _ _ _ hrest hB' hcl' hS' hn⟩) h
  | k + 4, hk, h => exact h.elim

theorem getD_none (n k : Nat) : (Array.replicate n false).getD k false = false := by
 unfold Array.getD; split <;> simp
theorem wp_region_sch {id : Nat} {a : Act} {w : World} {S : World → Prop} (order : List (Nat × Nat)) (hm : P.follows .mixedOrders = true) (hB : schB ops order = true) (hQ : ∀ d v c a w, Q (.panic c) (a.put d v) w → Q (.panic c) a w)
  (hS : S { w with drawn := w.drawn + 1 }) (h : wpSch P ops Q order S a { w with drawn := w.drawn + 1 }) : (Code.region id ops true).wp P Q a w := by
 unfold schB at hB
 simp only [Bool.and_eq_true] at hB
 obtain ⟨⟨h1, h2⟩, h3⟩ := hB
 have h2 := Nat.eq_of_beq_eq_true h2
 refine wp_region_any hm ?_
 rw [← h2]
 refine wpAny_of_G (new := newOf order) order.length S _ _ _ (wpSch_sound h1 hQ order order S _ a _ (fun _ h => h) ?_ (fun k o _ hk => by rw [getD_none] at hk; cases hk) hS h)
 rw [h2]; exact h3
end

/-! ### The same in the judgement -/
section
variable {C : Cx} {F : Fx} {l : Env} {rs rs' : List HP} {o : Oper} {Q : Exit → Act → World → Prop} {ops : Array Oper} {d i : Nat} {v : Value} {rest : List (Nat × Nat)}

/-- A panic's end looks at no temporary. -/
def QOk (Q : Exit → Act → World → Prop) : Prop := ∀ d v c a w, Q (.panic c) (a.put d v) w → Q (.panic c) a w
theorem QOk.body {P : Program} {fn : Func} {R : Ending → World → Prop} : QOk (bodyPost P fn R) := fun d v c a w h => by
 obtain ⟨h1, h2⟩ := h
 refine ⟨?_, h2⟩
 cases d <;> exact h1
theorem QOk.then {k : Act → World → Prop} (h : QOk Q) : QOk (Exit.then k Q) := fun d v c a w x => h d v c a w x
theorem QOk.block {j : Nat} (h : QOk Q) : QOk (Exit.inBlock j Q) := fun d v c a w x => h d v c a w x

/-- The walk of a region whose order is open. -/
def StO (C : Cx) (F : Fx) (ops : Array Oper) (Q : Exit → Act → World → Prop) (order : List (Nat × Nat)) (l : Env) (rs : List HP) : Prop := St C F l rs (wpSch C.P ops Q order (Now C F rs))

theorem R_open {id : Nat} {os : List Oper} (order : List (Nat × Nat)) (hm : C.P.follows .mixedOrders = true) (hB : schB os.toArray order = true) (hQ : QOk Q) (h : StO C F os.toArray Q order l rs) : St C F l rs ((Code.region id os.toArray true).wp C.P Q) := fun a w r n =>
 wp_region_sch order hm hB hQ (n.drew _ (Nat.le_succ _)) (h a _ r (n.drew _ (Nat.le_succ _)))
theorem O_nil (h : St C F l rs (Q .normal)) : StO C F ops Q [] l rs := h
theorem O_pure (ho : ops[i]? = some o) (hw : wantedE ops l o = true) (hd : o.dst = some d) (hn : Nat.blt d F.n = true) (hv : OpP C F l o v) (k : StO C F ops Q rest ((d, v) :: l) rs) : StO C F ops Q ((i, 0) :: rest) l rs := fun a w r n =>
 ⟨o, v, ho, fun S' => .inl ⟨wanted_of r hw, fun w' _ => hv a w' r⟩, by rw [hd]; exact k _ _ (r.put hn v) n⟩
theorem O_val (ho : ops[i]? = some o) (hw : wantedE ops l o = true) (hd : o.dst = some d) (hn : Nat.blt d F.n = true) (hv : OpV C F l rs o v) (k : StO C F ops Q rest ((d, v) :: l) rs) : StO C F ops Q ((i, 1) :: rest) l rs := fun a w r n =>
 ⟨o, v, ho, .inl ⟨wanted_of r hw, fun w' hw' => hv a w' r hw'⟩, by rw [hd]; exact k _ _ (r.put hn v) n⟩
theorem O_no (ho : ops[i]? = some o) (hw : unwantedE ops l o = true) (hd : o.dst = some d) (hn : Nat.blt d F.n = true) (k : StO C F ops Q rest ((d, undef) :: l) rs) : StO C F ops Q ((i, 0) :: rest) l rs := fun a w r n =>
 ⟨o, undef, ho, fun S' => .inr ⟨unwanted_of r hw, rfl⟩, by rw [hd]; exact k _ _ (r.put hn undef) n⟩
/-- What comes alone and keeps what the worlds at hand tell: the resources behind it hold those ahead of it. -/
theorem O_keep (ho : ops[i]? = some o) (hw : wantedE ops l o = true) (h : OpW C F l rs o (fun a w => ∃ S' : World → Prop, (∀ x, S' x → Now C F rs x) ∧ S' w ∧ wpSch C.P ops Q rest S' a w) Q) : StO C F ops Q ((i, 2) :: rest) l rs := fun a w r n => by
 show wpOp C.P ops Q i _ a w
 unfold wpOp
 simp only [ho, wanted_of r hw, if_true]
 exact .inl (h a w r n)
theorem O_new (ho : ops[i]? = some o) (hw : wantedE ops l o = true) (h : OpW C F l rs o (fun a w => ∃ S' : World → Prop, S' w ∧ wpSch C.P ops Q rest S' a w) Q) : StO C F ops Q ((i, 3) :: rest) l rs := fun a w r n => by
 show wpOp C.P ops Q i _ a w
 unfold wpOp
 simp only [ho, wanted_of r hw, if_true]
 exact .inl (h a w r n)
/-- A loud operation that is not wanted. -/
theorem O_no2 (ho : ops[i]? = some o) (hw : unwantedE ops l o = true) (hd : o.dst = some d) (hn : Nat.blt d F.n = true) (k : StO C F ops Q rest ((d, undef) :: l) rs) : StO C F ops Q ((i, 2) :: rest) l rs := fun a w r n => by
 show wpOp C.P ops Q i _ a w
 unfold wpOp
 simp only [ho, unwanted_of r hw, Bool.false_eq_true, if_false]
 exact ⟨Now C F rs, fun _ h => h, n, by rw [hd]; exact k _ _ (r.put hn undef) n⟩
theorem K_keep {l2 : Env} (hw : Weak rs' rs) (k : StO C F ops Q rest l2 rs') : St C F l2 rs' (fun a w => ∃ S' : World → Prop, (∀ x, S' x → Now C F rs x) ∧ S' w ∧ wpSch C.P ops Q rest S' a w) := fun a w r n => ⟨Now C F rs', fun x nx => nx.weak hw, n, k a w r n⟩
theorem K_new {l2 : Env} (k : StO C F ops Q rest l2 rs') : St C F l2 rs' (fun a w => ∃ S' : World → Prop, S' w ∧ wpSch C.P ops Q rest S' a w) := fun a w r n => ⟨Now C F rs', n, k a w r n⟩
end
end Go.Proofs.YtcngmkjdpoiiaaaGreatDoor

/- The sixth part of the program logic: functions that only compute; equality of arrays and structs; copy, make. -/
namespace Go.Proofs.YtcngmkjdpoiiaaaGreatDoor
open Go Go.RowKit

/-- A function that computes: in every world that meets 'pre' it returns v, and all that was is as it was. -/
def SpecV (C : Cx) (f : FuncId) (args : List Value) (pre : World → Prop) (v : Value) : Prop := Spec C f args (fun w _ => pre w) [] (fun u rs => u = v ∧ rs = [])
def noPre : World → Prop := fun _ => True

theorem SpecV.mono {C : Cx} {f : FuncId} {args : List Value} {pre pre' : World → Prop} {v v' : Value} (h : SpecV C f args pre v) (hp : ∀ w, pre' w → pre w) (hv : v = v') : SpecV C f args pre' v' :=
 hv ▸ Spec.mono h (fun w _ => hp w) fun _ _ x => x

section
variable {C : Cx} {F : Fx} {l : Env} {rs rs' : List HP} {K : Act → World → Prop} {o : Oper} {Q : Exit → Act → World → Prop} {d : Nat}

theorem W_callV {xs : List Operand} {ts : Array TypeId} {f : FuncId} {vs : List Value} {v : Value} {pre : World → Prop}
  (ho : o.op = .call { callee := .value (.func f), args := xs.toArray, argTypes := ts }) (hd : o.dst = some d) (hn : Nat.blt d F.n = true) (hx : evL l xs = some vs) (hc : callable C.P f = true) (hs : SpecV C f vs pre v)
  (hp : ∀ w, Now C F rs w → pre w) (k : St C F ((d, v) :: l) rs K) : OpW C F l rs o K Q :=
 W_call ho hd hn hx hc hs (Split.nil rs) (fun w a b ha hb dj m => hp w ⟨b, hb, m.le (Heap.le_join_right dj)⟩) fun u rs1 ⟨h1, h2⟩ => by subst h1; subst h2; exact k
/-- A call through a function value. -/
theorem W_callFV {g : Operand} {xs : List Operand} {ts : Array TypeId} {f : FuncId} {fi ca args vs : List Value} {v : Value} {pre : World → Prop}
  (ho : o.op = .call { callee := .value g, args := xs.toArray, argTypes := ts }) (hg : ev l g = some (.func (.func f) fi.toArray ca.toArray)) (hd : o.dst = some d) (hn : Nat.blt d F.n = true) (hx : evL l xs = some vs) (hvs : fi ++ vs ++ ca = args) (hc : callable C.P f = true) (hs : SpecV C f args pre v)
  (hp : ∀ w, Now C F rs w → pre w) (k : St C F ((d, v) :: l) rs K) : OpW C F l rs o K Q :=
 W_callv ho hg hx hvs hc hs (Split.nil rs) (fun w a b ha hb dj m => hp w ⟨b, hb, m.le (Heap.le_join_right dj)⟩) fun u rs1 ⟨h1, h2⟩ a w r n => by
  subst h1; subst h2
  rw [hd]; exact k _ w (r.put hn _) n
/-- The end of a function that only computes. -/
theorem R_endV {fn : Func} {xs : List ResultVar} {vs : List Value} {v : Value} (hds : F.ds = []) (hf : fn.results = xs.toArray) (h : ResV C F l rs xs vs) (hv : packV vs = v) :
  St C F l rs (bodyPost C.P fn (fun e w' => ∃ u rs h', e = .returned u ∧ (u = v ∧ rs = []) ∧ Sep rs h' ∧ Move C F.w F.h w' h') .ret) :=
 R_end (post := fun u rs => u = v ∧ rs = []) hds hf h ⟨hv, rfl⟩ (Weak.nil rs)
theorem R_endV0 {fn : Func} {xs : List ResultVar} {vs : List Value} {v : Value} (hds : F.ds = []) (hf : fn.results = xs.toArray) (h : ResV C F l rs xs vs) (hv : packV vs = v) :
  St C F l rs (bodyPost C.P fn (fun e w' => ∃ u rs h', e = .returned u ∧ (u = v ∧ rs = []) ∧ Sep rs h' ∧ Move C F.w F.h w' h') .normal) :=
 R_end0 (post := fun u rs => u = v ∧ rs = []) hds hf h ⟨hv, rfl⟩ (Weak.nil rs)
end

/-! ### Equality of aggregates whose cells are whole numbers -/
def ints (k : IntKind) (xs : List Int) : List Value := xs.map (Value.int k)
theorem ints_length (k : IntKind) (xs : List Int) : (ints k xs).length = xs.length := by simp [ints]
theorem ints_at {k : IntKind} {xs : List Int} {i : Nat} (h : i < xs.length) : (ints k xs)[i]? = some (.int k (xs.getD i 0)) := by simp [ints, h, List.getD]
theorem ints_set (k : IntKind) (xs : List Int) (i : Nat) (n : Int) : (ints k xs).set i (.int k n) = ints k (xs.set i n) := by simp [ints, List.map_set]
theorem ints_one {k : IntKind} {xs : List Int} : ∀ v ∈ ints k xs, v.oneCell' = true := fun v h => by
 obtain ⟨x, _, rfl⟩ := List.mem_map.1 h; rfl
theorem ints_append (k : IntKind) (xs ys : List Int) : ints k xs ++ ints k ys = ints k (xs ++ ys) := by simp [ints]
theorem ints_take (k : IntKind) (xs : List Int) (i : Nat) : (ints k xs).take i = ints k (xs.take i) := by simp [ints]
theorem ints_drop (k : IntKind) (xs : List Int) (i : Nat) : (ints k xs).drop i = ints k (xs.drop i) := by simp [ints]
section
variable {P : Program}
theorem run_eqItems_ints {e : TypeId} {k : IntKind} (he : P.underlying e = some (.int k)) (hsc : scB P e = true) (dp : Nat) (w : World) (xs ys : List Int) : ∀ (m i : Nat), i + m = xs.length → i + m = ys.length → xs.take i = ys.take i →
  (Op.eqItems (dp + 1) e 1 (ints k xs).toArray (ints k ys).toArray (List.range' i m)).run P w = .ok (decide (xs = ys)) w
 | 0, i, hx, hy, h => by
  rw [List.take_of_length_le (by omega), List.take_of_length_le (by omega)] at h
  subst h
  simp [Op.eqItems]
 | m + 1, i, hx, hy, h => by
  have hxi : i < xs.length := by omega
  have hyi : i < ys.length := by omega
  have e1 : (part e (ints k xs).toArray (i * 1)).run P w = .ok (.int k xs[i]) w := by simp [part, run_isAgg_sc hsc, ints, hxi]
  have e2 : (part e (ints k ys).toArray (i * 1)).run P w = .ok (.int k ys[i]) w := by simp [part, run_isAgg_sc hsc, ints, hyi]
  have e3 := run_equalIn_int (P := P) w dp e k k xs[i] ys[i] he
  rw [List.range'_succ]
  simp only [Op.eqItems, Sem.run_bind, e1, e2, e3, Result.andThen_ok]
  by_cases hh : xs[i] = ys[i]
  ·have hb : (xs[i] == ys[i]) = true := by simpa using hh
   have := run_eqItems_ints he hsc dp w xs ys m (i + 1) (by omega) (by omega) (by rw [List.take_succ_eq_append_getElem hxi, List.take_succ_eq_append_getElem hyi, h, hh])
   simp only [hb, Bool.not_true, Bool.false_eq_true, if_false, this]
  ·have hb : (xs[i] == ys[i]) = false := by simpa using hh
   have hne : xs ≠ ys := fun e => hh (by subst e; rfl)
   simp [hb, hne]
end
section
variable {C : Cx} {F : Fx} {l : Env} {rs rs' : List HP} {K : Act → World → Prop} {o : Oper} {Q : Exit → Act → World → Prop} {d : Nat}
theorem run_eqArr {P : Program} {t n e : Nat} {k : IntKind} {xs ys : List Int} {w : World} (ht : P.underlying t = some (.array n e)) (he : P.underlying e = some (.int k)) (hsc : scB P e = true) (hx : xs.length = n) (hy : ys.length = n) :
  (Op.equalIn 10000 t (.agg (ints k xs).toArray) (.agg (ints k ys).toArray)).run P w = .ok (decide (xs = ys)) w := by
 obtain ⟨i, hi, hs⟩ : ∃ i, P.info? e = some i ∧ i.size = 1 := by
  unfold scB at hsc
  rw [he] at hsc
  cases h : P.info? e with
  | none => simp [h] at hsc
  | some i => exact ⟨i, rfl, by simpa [h] using hsc⟩
 rw [show (10000 : Nat) = 9999 + 1 from rfl, run_equalIn_array w 9999 _ _ ht hi, List.range_eq_range']
 have : P.cellsOf e = 1 := by simp [Program.cellsOf, hi, hs]
 rw [this]
 exact run_eqItems_ints he hsc 9998 w xs ys n 0 (by omega) (by omega) rfl
theorem P_eqArr {t t' n e : Nat} {x y : Operand} {k : IntKind} {xs ys : List Int} (ho : o.op = .binOp .eql t x y t') (hx : ev l x = some (.agg (ints k xs).toArray)) (hy : ev l y = some (.agg (ints k ys).toArray))
  (ht : C.P.underlying t = some (.array n e)) (he : C.P.underlying e = some (.int k)) (hsc : scB C.P e = true) (hg : C.P.eqGuardType C.P.depth t = false) (h1 : xs.length = n) (h2 : ys.length = n) : OpP C F l o (.bool (decide (xs = ys))) := fun a w r => by
 have := run_eqArr (w := w) ht he hsc h1 h2
 simp only [execOp, ho, r.ev hx, r.ev hy, Sem.run_bind, run_eqGuard_agg w .eql t x y _ _ hg, Result.andThen_ok, run_eql_struct, this, Sem.run_pure]
theorem P_neArr {t t' n e : Nat} {x y : Operand} {k : IntKind} {xs ys : List Int} (ho : o.op = .binOp .neq t x y t') (hx : ev l x = some (.agg (ints k xs).toArray)) (hy : ev l y = some (.agg (ints k ys).toArray))
  (ht : C.P.underlying t = some (.array n e)) (he : C.P.underlying e = some (.int k)) (hsc : scB C.P e = true) (hg : C.P.eqGuardType C.P.depth t = false) (h1 : xs.length = n) (h2 : ys.length = n) : OpP C F l o (.bool (decide (xs ≠ ys))) := fun a w r => by
 have := run_eqArr (w := w) ht he hsc h1 h2
 simp only [execOp, ho, r.ev hx, r.ev hy, Sem.run_bind, run_eqGuard_agg w .neq t x y _ _ hg, Result.andThen_ok, run_neq_struct, this, Sem.run_pure]
 simp
/-- A full literal of an array whose elements are one cell each. -/
theorem P_buildArr {t n e : Nat} {parts : Array (Nat × Operand)} {vs zs : List Value} (ho : o.op = .build t parts) (ht : arB C.P t n e 1 = true) (hz : zeB C.P t zs) (hzl : zs.length = n) (hx : evL l (parts.toList.map (·.2)) = some vs) (hi : parts.toList.map (·.1) = List.range' 0 vs.length) (hl : vs.length = n)
  (h1 : ∀ v ∈ vs, v.oneCell' = true) : OpP C F l o (.agg vs.toArray) := fun a w r => by
 obtain ⟨h2, h3⟩ := arB_spec ht
 unfold zeB at hz
 obtain ⟨z, hz1, hz2⟩ := Option.map_eq_some_iff.1 hz
 obtain ⟨ti, hi1, hiz⟩ := Option.bind_eq_some_iff.1 hz1
 have hparts : (Array.map (fun x : Nat × Operand => match x with | (i, x) => (i, a.eval x)) parts).toList = (List.range' 0 vs.length).zip vs := by
  rw [Array.toList_map, ← hi, ← r.evL hx]
  simp [List.zip_map', Function.comp_def]
 have hcells : ∀ v ∈ vs, v.cells = #[v] := fun v hv => by have := h1 v hv; cases v <;> first | rfl | (simp [Value.oneCell'] at this)
 have hf := fill_flat 1 vs 0 [] zs (by simp) (by omega) (fun v hv => by rw [hcells v hv]; rfl)
 have hflat : vs.flatMap (·.cells.toList) = vs := by
  clear hf hparts hx hi hl
  induction vs with
  | nil => rfl
  | cons v vs ih => rw [List.flatMap_cons, hcells v (by simp), ih (fun u hu => h1 u (by simp [hu])) (fun u hu => hcells u (by simp [hu]))]; rfl
 rw [List.nil_append, List.nil_append, hflat] at hf
 have hzc : z.cells = zs.toArray := by rw [← hz2]
 simp only [execOp, ho, Instr.build, Sem.run_bind, zeroValue, typeInfo, run_program, Result.andThen_ok, hi1, Sem.run_pure, hiz, run_underlying h2, run_size h3, hparts, hzc, hf]
/-- A literal of an array of which only the first places are told. -/
theorem P_buildArrR {t n e : Nat} {parts : Array (Nat × Operand)} {vs zs : List Value} (ho : o.op = .build t parts) (ht : arB C.P t n e 1 = true) (hz : zeB C.P t zs) (hzl : zs.length = n) (hx : evL l (parts.toList.map (·.2)) = some vs) (hi : parts.toList.map (·.1) = List.range' 0 vs.length) (hl : vs.length ≤ n)
  (h1 : ∀ v ∈ vs, v.oneCell' = true) : OpP C F l o (.agg (vs ++ zs.drop vs.length).toArray) := fun a w r => by
 obtain ⟨h2, h3⟩ := arB_spec ht
 unfold zeB at hz
 obtain ⟨z, hz1, hz2⟩ := Option.map_eq_some_iff.1 hz
 obtain ⟨ti, hi1, hiz⟩ := Option.bind_eq_some_iff.1 hz1
 have hparts : (Array.map (fun x : Nat × Operand => match x with | (i, x) => (i, a.eval x)) parts).toList = (List.range' 0 vs.length).zip vs := by
  rw [Array.toList_map, ← hi, ← r.evL hx]
  simp [List.zip_map', Function.comp_def]
 have hcells : ∀ v ∈ vs, v.cells = #[v] := fun v hv => by have := h1 v hv; cases v <;> first | rfl | (simp [Value.oneCell'] at this)
 have hf := fill_flatR 1 (zs.drop vs.length) vs 0 [] (zs.take vs.length) (by simp) (by simp; omega) (fun v hv => by rw [hcells v hv]; rfl)
 have hflat : vs.flatMap (·.cells.toList) = vs := by
  clear hf hparts hx hi hl
  induction vs with
  | nil => rfl
  | cons v vs ih => rw [List.flatMap_cons, hcells v (by simp), ih (fun u hu => h1 u (by simp [hu])) (fun u hu => hcells u (by simp [hu]))]; rfl
 rw [List.nil_append, List.nil_append, hflat, List.take_append_drop] at hf
 have hzc : z.cells = zs.toArray := by rw [← hz2]
 simp only [execOp, ho, Instr.build, Sem.run_bind, zeroValue, typeInfo, run_program, Result.andThen_ok, hi1, Sem.run_pure, hiz, run_underlying h2, run_size h3, hparts, hzc, hf]
/-- The parts of a literal are laid into its zero cells. -/
def fillL (places : List (Nat × Nat)) : List Value → List (Nat × Value) → Option (List Value)
 | cs, [] => some cs
 | cs, (i, v) :: rest => match places[i]? with
  | some (off, size) => if v.cells.size = size ∧ off + size ≤ cs.length then fillL places (splice cs off v.cells.toList) rest else none
  | none => none
theorem foldl_splice : ∀ (us : List Value) (j off : Nat) (cs : List Value), off + j + us.length ≤ cs.length → (us.zipIdx j).foldl (fun (cs : Array Value) (x : Value × Nat) => cs.setIfInBounds (off + x.2) x.1) cs.toArray = (splice cs (off + j) us).toArray
 | [], j, off, cs, _ => by rw [splice_nil]; rfl
 | u :: us, j, off, cs, h => by
  simp only [List.length_cons] at h
  simp only [List.zipIdx_cons, List.foldl_cons]
  have e : (cs.toArray).setIfInBounds (off + j) u = (cs.set (off + j) u).toArray := by simp
  rw [e, foldl_splice us (j + 1) off (cs.set (off + j) u) (by simp; omega), ← Nat.add_assoc, splice_cons cs (off + j) u us (by omega)]
theorem fill_fillL (places : List (Nat × Nat)) : ∀ (parts : List (Nat × Value)) (cs res : List Value), fillL places cs parts = some res → Instr.fill (fun i => places.toArray[i]?) cs.toArray parts = some res.toArray
 | [], cs, res, h => by
  simp only [fillL, Option.some.injEq] at h
  subst h; rfl
 | (i, v) :: rest, cs, res, h => by
  unfold fillL at h
  unfold Instr.fill
  cases hp : places[i]? with
  | none => rw [hp] at h; cases h
  | some os =>
   obtain ⟨off, size⟩ := os
   rw [hp] at h
   simp only at h
   split at h
   ·rename_i hc
    have h1 : ¬ (v.cells.size ≠ size) := by simpa using hc.1
    have h2 : ¬ (off + v.cells.size > cs.toArray.size) := by rw [hc.1]; simp; omega
    have hf := foldl_splice v.cells.toList 0 off cs (by simp [hc.1]; omega)
    rw [Nat.add_zero] at hf
    have e3 : (v.cells.zipIdx.foldl (fun (cs : Array Value) (x : Value × Nat) => match x with | (c, j) => cs.setIfInBounds (off + j) c) cs.toArray) = (splice cs off v.cells.toList).toArray := by
     rw [← hf, ← Array.foldl_toList, Array.toList_zipIdx]
    have hp' : places.toArray[i]? = some (off, size) := by simpa using hp
    simp only [hp', h1, h2, decide_false, Bool.or_self, Bool.false_eq_true, if_false, e3]
    exact fill_fillL places rest _ res h
   ·cases h
/-- Where a struct's fields lie, and how many cells they have. -/
def plB (P : Program) (s : Nat) (places : List (Nat × Nat)) : Bool := match P.underlying s with
 | some (.struct fs) => fs.toList.map (fun f => (f.offset, (P.info? f.type).map (·.size))) == places.map fun p => (p.1, some p.2)
 | _ => false
theorem run_places {P : Program} {w : World} : ∀ (fs : List Field) (places : List (Nat × Nat)), fs.map (fun f => (f.offset, (P.info? f.type).map (·.size))) = places.map (fun p => (p.1, some p.2)) →
  (fs.mapM (m := Sem) fun f => do pure (f.offset, ← sizeOf f.type)).run P w = .ok places w
 | [], places, h => by
  cases places with
  | nil => simp
  | cons => cases h
 | f :: fs, places, h => by
  cases places with
  | nil => cases h
  | cons p places =>
   simp only [List.map_cons, List.cons.injEq, Prod.mk.injEq] at h
   obtain ⟨⟨h1, h2⟩, h3⟩ := h
   obtain ⟨i, hi, hs⟩ := Option.map_eq_some_iff.1 h2
   rw [List.mapM_cons]
   simp only [Sem.run_bind, sizeOf, typeInfo, run_program, Result.andThen_ok, hi, Sem.run_pure]
   have := run_places (P := P) (w := w) fs places h3
   simp only [sizeOf, typeInfo] at this
   rw [this]
   simp [hs, h1]
theorem P_buildStruct {t : Nat} {parts : Array (Nat × Operand)} {vs zs res : List Value} {is : List Nat} {places : List (Nat × Nat)} (ho : o.op = .build t parts) (ht : plB C.P t places = true) (hz : zeB C.P t zs) (hx : evL l (parts.toList.map (·.2)) = some vs) (hi : parts.toList.map (·.1) = is)
  (hres : fillL places zs (is.zip vs) = some res) : OpP C F l o (.agg res.toArray) := fun a w r => by
 unfold plB at ht
 split at ht
 ·rename_i fs hfs
  have hpl := run_places (P := C.P) (w := w) fs.toList places (by simpa using ht)
  unfold zeB at hz
  obtain ⟨z, hz1, hz2⟩ := Option.map_eq_some_iff.1 hz
  obtain ⟨ti, hi1, hiz⟩ := Option.bind_eq_some_iff.1 hz1
  have hparts : (Array.map (fun x : Nat × Operand => match x with | (i, x) => (i, a.eval x)) parts).toList = is.zip vs := by
   rw [Array.toList_map, ← hi, ← r.evL hx]
   simp [List.zip_map', Function.comp_def]
  have hf := fill_fillL places (is.zip vs) zs res hres
  have hzc : z.cells = zs.toArray := by rw [← hz2]
  simp only [execOp, ho, Instr.build, Sem.run_bind, zeroValue, typeInfo, run_program, Result.andThen_ok, hi1, Sem.run_pure, hiz, run_underlying hfs, Array.mapM_eq_mapM_toList, Sem.run_map, hpl, hparts, hzc, hf]
 ·cases ht
/-- &a[i] at the head of a block, its elements of one cell each. -/
theorem P_ixa0 {t n e b : Nat} {x ix : Operand} {k : IntKind} {m : Int} (i : Nat) (ho : o.op = .indexAddr t x ix) (ht : arB C.P t n e 1 = true) (hx : ev l x = some (.pointer (some ⟨b, 0, none⟩))) (hi : ev l ix = some (.int k m)) (he : m = i) (hn : i < n) :
  OpP C F l o (.pointer (some ⟨b, i, none⟩)) := by
 have := P_ixa (C := C) (F := F) i ho ht hx hi he hn
 rwa [Nat.zero_add, Nat.mul_one] at this
/-- A Bool slot is decided. -/
theorem E_bool {t : Nat} {b : Bool} (h : l.get? t = some (.bool b)) (ht : b = true → St C F ((t, .bool true) :: l) rs K) (hf : b = false → St C F ((t, .bool false) :: l) rs K) : St C F l rs K := by
 cases b
 ·exact (hf rfl).env (.cons h (EnvLe.refl l))
 ·exact (ht rfl).env (.cons h (EnvLe.refl l))
theorem E_true {t : Nat} {b : Bool} (h : l.get? t = some (.bool b)) (hb : b = true) (ht : St C F ((t, .bool true) :: l) rs K) : St C F l rs K := E_bool h (fun _ => ht) (fun e => by rw [hb] at e; cases e)
theorem E_false {t : Nat} {b : Bool} (h : l.get? t = some (.bool b)) (hb : b = false) (ht : St C F ((t, .bool false) :: l) rs K) : St C F l rs K := E_bool h (fun e => by rw [hb] at e; cases e) (fun _ => ht)
/-- A slot's value is told otherwise. -/
theorem E_as {t : Nat} {v v' : Value} (h : l.get? t = some v) (e : v = v') (k : St C F ((t, v') :: l) rs K) : St C F l rs K := k.env (.cons (e ▸ h) (EnvLe.refl l))
theorem E_nat {t n : Nat} {k : IntKind} {x : Int} (h : l.get? t = some (.int k x)) (e : x = n) (hk : St C F ((t, .int k (n : Int)) :: l) rs K) : St C F l rs K := E_as h (by rw [e]) hk
/-- The cells of a row that was there. -/
def RowAt (w : World) (ad : Addr) (cs : List Value) : Prop := ∀ j v, cs[j]? = some v → w.cell? (ad.add j) = some v
theorem Rd.row {b j i : Nat} {cs : List Value} {v : Value} (hp : RowAt F.w ⟨b, j, none⟩ cs) (hf : F.h b = none) (hv : cs[i]? = some v) : Rd C F rs ⟨b, j + i * 1, none⟩ v := by
 have := hp i v hv
 rw [add_zero_off] at this
 rw [Nat.mul_one]
 exact Rd.old this hf
theorem Rds.row {b j : Nat} {cs : List Value} (hp : RowAt F.w ⟨b, j, none⟩ cs) (hf : F.h b = none) : Rds C F rs ⟨b, j, none⟩ cs := Rds.of fun i v hv => by
 have := hp i v hv
 rw [add_zero_off] at this
 exact Rd.old this hf
theorem rep_ints (k : IntKind) (n : Nat) (x : Int) : List.replicate n (Value.int k x) = ints k (List.replicate n x) := by simp [ints]
/-! ### More on slices -/
theorem V_lenOwn {t e e' sz sz' bytes n : Nat} {x : Operand} {v : Value} {cs : List Value} (m : Has rs (ownS e' sz' v n cs) (ownS e' sz' v n cs) rs) (ho : o.op = .call { callee := .builtin .len, args := #[x], argTypes := #[t] }) (ht : slB C.P t e sz bytes = true) (hx : ev l x = some v) :
  OpV C F l rs o (.int .i64 n) := fun a w r nw => by
 obtain ⟨h, hv, _⟩ := nw.has m
 obtain ⟨b, cap, rfl, _⟩ := hv.form
 exact P_len (C := C) (F := F) ho ht hx a w r
theorem St.openOwn (p : List HP) {q : List HP} {T sz n : Nat} {v : Value} {cs : List Value} (hn : 0 < n) (h : ∀ b cap junk, n ≤ cap → cap * sz ≤ (cs ++ junk).length → v = .slice (some ⟨b, 0, none⟩) n cap → St C F l (p ++ blk b (cs ++ junk) T :: q) K) :
  St C F l (p ++ ownS T sz v n cs :: q) K := by
 refine St.openAt (X := Nat × Nat × List Value) (s := fun x => fun hp => (n ≤ x.2.1 ∧ x.2.1 * sz ≤ (cs ++ x.2.2).length ∧ v = .slice (some ⟨x.1, 0, none⟩) n x.2.1) ∧ blk x.1 (cs ++ x.2.2) T hp) p (fun hp hx => ?_) fun x => ?_
 ·rcases hx.2 with ⟨_, h0, _⟩ | ⟨b, cap, junk, hv, hc, _, hl, hb⟩
  ·omega
  ·exact ⟨(b, cap, junk), ⟨hc, hl, hv⟩, hb⟩
 ·intro a w hr ⟨hp, hs, hm⟩
  obtain ⟨c, d, hc, ⟨u, v', ⟨⟨h1, h2, h3⟩, hu⟩, hv, d1, rfl⟩, d2, rfl⟩ := Sep.append.1 hs
  exact h x.1 x.2.1 x.2.2 h1 h2 h3 a w hr ⟨_, Sep.append.2 ⟨c, u.join v', hc, ⟨u, v', hu, hv, d1, rfl⟩, d2, rfl⟩, hm⟩
/-- copy into a block. -/
theorem W_copy {t t' e bytes b j dl dc m k T : Nat} {x y : Operand} {u : Value} {cs news : List Value} (ho : o.op = .call { callee := .builtin .copy, args := #[x, y], argTypes := #[t, t'] }) (hd : o.dst = some d) (hn : Nat.blt d F.n = true)
  (ht : slB C.P t e 1 bytes = true) (hx : ev l x = some (.slice (some ⟨b, j, none⟩) dl dc)) (hy : ev l y = some u) (hlen : Builtin.lenOf u = pure m) (hk : k = Nat.min m dl)
  (hc : ∀ w, Now C F rs w → (Builtin.firstCells 1 k u).run C.P w = .ok news.toArray w) (h1 : ∀ v ∈ news, v.oneCell' = true) (has : Has rs (blk b cs T) (blk b (splice cs j news) T) rs') (hj : j + news.length ≤ cs.length)
  (kk : St C F ((d, .int .i64 k) :: l) rs' K) : OpW C F l rs o K Q := fun a w r nw => by
 obtain ⟨h2, ti, h3, h4, _⟩ := slB_spec ht
 have m0 : Has rs (blk b cs T) (blk b cs T) rs := by obtain ⟨p, q, e, _⟩ := has; exact ⟨p, q, e, e⟩
 obtain ⟨fr, hg, hf⟩ := nw.getBlk m0
 obtain ⟨w', hr, p⟩ := run_storeCells_blk (P := C.P) (o := j) news 0 cs w hg hf (by simpa using hj) h1
 unfold Oper.wp
 have : (execOp a.eval o).run C.P w = .ok (.value (.int .i64 k)) w' := by
  have hc' := hc w nw
  rw [hk] at hc' ⊢
  simp [execOp, ho, resolve, invoke, builtin, r.ev hx, r.ev hy, Builtin.copy_, run_underlying h2, sizeOf, typeInfo, h3, h4, hlen, hc', hr, goInt]
 rw [this]
 show K (a.put o.dst _) w'
 rw [hd]
 refine kk _ w' (r.put hn _) (nw.put has (length_splice _ _ _ hj) fun fr' hg' _ => ?_)
 rw [hg] at hg'
 injection hg' with hg'
 injection hg' with _ _ e
 exact e ▸ p
/-- A row of cells that was there, nil too. -/
def Row (w : World) (base : Option Addr) (cs : List Value) : Prop := ∀ j v, cs[j]? = some v → ∃ ad, base = some ad ∧ w.cell? (ad.add j) = some v
theorem Row.cases {w : World} {base : Option Addr} {cs : List Value} (h : Row w base cs) : cs = [] ∨ ∃ b j, base = some ⟨b, j, none⟩ ∧ RowAt w ⟨b, j, none⟩ cs := by
 cases cs with
 | nil => exact .inl rfl
 | cons c cs =>
  refine .inr ?_
  obtain ⟨ad, rfl, h0⟩ := h 0 c rfl
  have hs : ad.spot = none := by
   have : ad.add 0 = ad := by simp [Addr.add]
   rw [this] at h0
   cases hsp : ad.spot with
   | none => rfl
   | some s =>
    exfalso
    simp only [World.cell?, hsp, Option.isSome_some, if_true] at h0
    split at h0 <;> cases h0
  obtain ⟨b, j, sp⟩ := ad
  simp only at hs
  subst hs
  refine ⟨b, j, rfl, fun i v hv => ?_⟩
  obtain ⟨ad, e, hc⟩ := h i v hv
  rw [Option.some.injEq] at e
  rw [e]; exact hc
theorem RowAt.row {w : World} {ad : Addr} {cs : List Value} (h : RowAt w ad cs) : Row w (some ad) cs := fun j v hv => ⟨ad, rfl, h j v hv⟩
theorem Row.nil {w : World} {base : Option Addr} : Row w base [] := fun _ _ h => by cases h
/-- In every fitting world the row is there. -/
def Rw (C : Cx) (F : Fx) (rs : List HP) (base : Option Addr) (cs : List Value) : Prop := ∀ w, Now C F rs w → Row w base cs
theorem Rw.old {base : Option Addr} {cs : List Value} (h : Row F.w base cs) (hf : ∀ ad, base = some ad → F.h ad.block = none) : Rw C F rs base cs := fun w n j v hv => by
 obtain ⟨ad, e, hc⟩ := h j v hv
 refine ⟨ad, e, ?_⟩
 have hb : (ad.add j).block = ad.block := by unfold Addr.add; split <;> rfl
 exact Rd.old (rs := rs) hc (by rw [hb]; exact hf ad e) w n
theorem Rw.part {base base' : Option Addr} {cs us : List Value} (h : Rw C F rs base cs) (hh : ∀ w, Row w base cs → Row w base' us) : Rw C F rs base' us := fun w n => hh w (h w n)
/-- x[p:q] of a row. -/
theorem Row.sliced {w : World} {base : Option Addr} {cs : List Value} {sz p q c : Nat} (h : Row w base cs) (hq : q ≤ c) (hcs : cs.length = c * sz ∨ q * sz ≤ cs.length) : Row w (if c = p then base else base.map (·.add (p * sz))) ((cs.drop (p * sz)).take ((q - p) * sz)) := fun j v hv => by
 rw [List.getElem?_take] at hv
 split at hv
 ·rename_i hj
  rw [List.getElem?_drop] at hv
  obtain ⟨ad, rfl, hc⟩ := h _ v hv
  have hne : ¬ c = p := by
   intro e; subst e
   have : (q - c) * sz = 0 := by rw [Nat.sub_eq_zero_of_le hq]; simp
   omega
  rw [if_neg hne]
  refine ⟨_, rfl, ?_⟩
  have : (ad.add (p * sz)).add j = ad.add (p * sz + j) := by
   unfold Addr.add
   by_cases h1 : p * sz = 0 <;> by_cases h2 : j = 0 <;> simp [h1, h2, Nat.add_assoc]
  rw [this]; exact hc
 ·cases hv
theorem Src.row {sz m c : Nat} {base : Option Addr} {news : List Value} (h : Rw C F rs base news) (hl : news.length = m * sz) (h1 : ∀ v ∈ news, v.oneCell' = true) : Src C F rs sz (.slice base m c) m news := by
 refine ⟨rfl, fun w n => ?_, hl, h1⟩
 rcases (h w n).cases with rfl | ⟨b, j, rfl, hr⟩
 ·cases base with
  | none => simp [Builtin.firstCells]
  | some a => exact run_firstCells_some w sz m a m c [] hl (fun _ _ h => by cases h)
 ·exact run_firstCells_some w sz m _ m c news hl hr
theorem Src.part {sz m k c : Nat} {base : Option Addr} {news : List Value} (h : Rw C F rs base news) (hl : k * sz ≤ news.length) : ∀ w, Now C F rs w → (Builtin.firstCells sz k (.slice base m c)).run C.P w = .ok (news.take (k * sz)).toArray w := fun w n => by
 rcases (h w n).cases with rfl | ⟨b, j, rfl, hr⟩
 ·have : k * sz = 0 := by simpa using hl
  cases base with
  | none => simp [Builtin.firstCells]
  | some a => rw [List.take_nil]; exact run_firstCells_some w sz k a m c [] (by rw [this]; rfl) (fun _ _ h => by cases h)
 ·refine run_firstCells_some w sz k _ m c _ (by simp; omega) fun i v hv => hr i v ?_
  rw [List.getElem?_take] at hv
  split at hv
  ·exact hv
  ·cases hv
end
end Go.Proofs.YtcngmkjdpoiiaaaGreatDoor

/- Short words for the steps that walks are made of. -/
namespace Go.Proofs.YtcngmkjdpoiiaaaGreatDoor
open Go Go.RowKit
section
variable {C : Cx} {F : Fx} {l l' l2 : Env} {rs rs' : List HP} {K : Act → World → Prop} {opa : Array Oper} {Q : Exit → Act → World → Prop} {rest : List Oper} {o : Oper} {v : Value} {d i : Nat} {rst : List (Nat × Nat)} {x y : Operand}
theorem cE (t : Nat) {v : Value} (h : l.get? t = some v) (hl : EnvLe l l') : EnvLe l ((t, v) :: l') := .cons h hl
theorem lP (h : OpP C F l o v) (hw : wantedE opa l o = true := by exact rfl) (hd : o.dst = some d := by exact rfl) (hn : Nat.blt d F.n = true := by exact rfl) (k : St C F ((d, v) :: l) rs (wpList C.P opa Q rest)) : St C F l rs (wpList C.P opa Q (o :: rest)) := L_val hw hd hn h.v k
theorem lV (h : OpV C F l rs o v) (hw : wantedE opa l o = true := by exact rfl) (hd : o.dst = some d := by exact rfl) (hn : Nat.blt d F.n = true := by exact rfl) (k : St C F ((d, v) :: l) rs (wpList C.P opa Q rest)) : St C F l rs (wpList C.P opa Q (o :: rest)) := L_val hw hd hn h k
theorem lM (hw : wantedE opa l o = true := by exact rfl) (hd : o.dst = some d := by exact rfl) (hn : Nat.blt d F.n = true := by exact rfl) (ho : o.op = .move x := by exact rfl) (hx : ev l x = some v := by exact rfl) (k : St C F ((d, v) :: l) rs (wpList C.P opa Q rest)) : St C F l rs (wpList C.P opa Q (o :: rest)) := L_val hw hd hn (OpP.v (P_move ho hx)) k
theorem lA (hw : wantedE opa l o = true := by exact rfl) (hd : o.dst = some d := by exact rfl) (hn : Nat.blt d F.n = true := by exact rfl) (ho : o.op = .assign x := by exact rfl) (hx : ev l x = some v := by exact rfl) (k : St C F ((d, v) :: l) rs (wpList C.P opa Q rest)) : St C F l rs (wpList C.P opa Q (o :: rest)) := L_val hw hd hn (OpP.v (P_assign ho hx)) k
theorem lO (h : OpW C F l rs o (wpList C.P opa Q rest) Q) (hw : wantedE opa l o = true := by exact rfl) : St C F l rs (wpList C.P opa Q (o :: rest)) := L_op hw h
theorem lN (hw : unwantedE opa l o = true := by exact rfl) (hd : o.dst = some d := by exact rfl) (hn : Nat.blt d F.n = true := by exact rfl) (k : St C F ((d, undef) :: l) rs (wpList C.P opa Q rest)) : St C F l rs (wpList C.P opa Q (o :: rest)) := L_no hw hd hn k
theorem oP (ho : opa[i]? = some o) (h : OpP C F l o v) (hw : wantedE opa l o = true := by exact rfl) (hd : o.dst = some d := by exact rfl) (hn : Nat.blt d F.n = true := by exact rfl) (k : StO C F opa Q rst ((d, v) :: l) rs) : StO C F opa Q ((i, 0) :: rst) l rs := O_pure ho hw hd hn h k
theorem oV (ho : opa[i]? = some o) (h : OpV C F l rs o v) (hw : wantedE opa l o = true := by exact rfl) (hd : o.dst = some d := by exact rfl) (hn : Nat.blt d F.n = true := by exact rfl) (k : StO C F opa Q rst ((d, v) :: l) rs) : StO C F opa Q ((i, 1) :: rst) l rs := O_val ho hw hd hn h k
theorem pM (ho : o.op = .move x := by exact rfl) (hx : ev l x = some v := by exact rfl) : OpP C F l o v := P_move ho hx
theorem pA (ho : o.op = .assign x := by exact rfl) (hx : ev l x = some v := by exact rfl) : OpP C F l o v := P_assign ho hx
theorem pF {s f off b : Nat} (hs : flB C.P s f off = true) (ho : o.op = .fieldAddr s x f := by exact rfl) (hx : ev l x = some (.pointer (some ⟨b, 0, none⟩)) := by exact rfl) : OpP C F l o (.pointer (some ⟨b, off, none⟩)) := P_fld0 ho hs hx
theorem pG {s f off b j : Nat} (hs : flB C.P s f off = true) (ho : o.op = .fieldAddr s x f := by exact rfl) (hx : ev l x = some (.pointer (some ⟨b, j, none⟩)) := by exact rfl) : OpP C F l o (.pointer (some ⟨b, j + off, none⟩)) := P_fld ho hs hx
theorem pN {ad : Addr} (ho : o.op = .nilCheck x := by exact rfl) (hx : ev l x = some (.pointer (some ad)) := by exact rfl) : OpP C F l o (.pointer (some ad)) := P_nil ho hx
theorem pX {i : Nat} {vs : List Value} (ho : o.op = .extract x i := by exact rfl) (hx : ev l x = some (.tuple vs.toArray) := by exact rfl) (hv : vs[i]? = some v := by exact rfl) : OpP C F l o v := P_extract ho hx hv
theorem pL {t e sz bytes : Nat} {b : Option Addr} {n c : Nat} (ht : slB C.P t e sz bytes = true) (ho : o.op = .call { callee := .builtin .len, args := #[x], argTypes := #[t] } := by exact rfl) (hx : ev l x = some (.slice b n c) := by exact rfl) : OpP C F l o (.int .i64 n) := P_len ho ht hx
theorem pK {c : Operand} {b : Bool} (ho : o.op = .pick c x y := by exact rfl) (hc : ev l c = some (.bool b) := by exact rfl) (hx : ev l (if b then x else y) = some v := by exact rfl) : OpP C F l o v := P_pick ho hc hx
theorem pO {t : Nat} {b : Bool} (ho : o.op = .unOp .not t x := by exact rfl) (hx : ev l x = some (.bool b) := by exact rfl) : OpP C F l o (.bool (!b)) := P_not ho hx
theorem pLt {t t' : Nat} {k : IntKind} {m n : Int} (ho : o.op = .binOp .lss t x y t' := by exact rfl) (hx : ev l x = some (.int k m) := by exact rfl) (hy : ev l y = some (.int k n) := by exact rfl) : OpP C F l o (.bool (decide (m < n))) := P_lss ho hx hy
theorem pLe {t t' : Nat} {k : IntKind} {m n : Int} (ho : o.op = .binOp .leq t x y t' := by exact rfl) (hx : ev l x = some (.int k m) := by exact rfl) (hy : ev l y = some (.int k n) := by exact rfl) : OpP C F l o (.bool (decide (m ≤ n))) := P_leq ho hx hy
theorem pGt {t t' : Nat} {k : IntKind} {m n : Int} (ho : o.op = .binOp .gtr t x y t' := by exact rfl) (hx : ev l x = some (.int k m) := by exact rfl) (hy : ev l y = some (.int k n) := by exact rfl) : OpP C F l o (.bool (decide (n < m))) := P_gtr ho hx hy
theorem pGe {t t' : Nat} {k : IntKind} {m n : Int} (ho : o.op = .binOp .geq t x y t' := by exact rfl) (hx : ev l x = some (.int k m) := by exact rfl) (hy : ev l y = some (.int k n) := by exact rfl) : OpP C F l o (.bool (decide (n ≤ m))) := P_geq ho hx hy
theorem pEq {t t' : Nat} {k : IntKind} {m n : Int} (ho : o.op = .binOp .eql t x y t' := by exact rfl) (hx : ev l x = some (.int k m) := by exact rfl) (hy : ev l y = some (.int k n) := by exact rfl) : OpP C F l o (.bool (decide (m = n))) := P_eql ho hx hy
theorem pNe {t t' : Nat} {k : IntKind} {m n : Int} (ho : o.op = .binOp .neq t x y t' := by exact rfl) (hx : ev l x = some (.int k m) := by exact rfl) (hy : ev l y = some (.int k n) := by exact rfl) : OpP C F l o (.bool (decide (m ≠ n))) := P_neq ho hx hy
theorem vB {t b T j : Nat} {cs : List Value} (ht : scB C.P t = true) (m : Has rs (blk b cs T) (blk b cs T) rs) (ho : o.op = .load t x := by exact rfl) (hx : ev l x = some (.pointer (some ⟨b, j, none⟩)) := by exact rfl) (hv : cs[j]? = some v := by exact rfl) : OpV C F l rs o v := V_load ho hx ht (Rd.blk m hv)
theorem vG {t b T n : Nat} {cs : List Value} (ht : agB C.P t n = true) (m : Has rs (blk b cs T) (blk b cs T) rs) (ho : o.op = .load t x := by exact rfl) (hx : ev l x = some (.pointer (some ⟨b, 0, none⟩)) := by exact rfl) (hn : cs.length = n := by exact rfl) : OpV C F l rs o (.agg cs.toArray) := V_loadAgg ho hx ht (Rds.blk m) hn
theorem kT {c : Operand} {p q : Code} (hc : ev l c = some (.bool true) := by exact rfl) (k : St C F l rs (p.wp C.P Q)) : St C F l rs ((Code.cond c p q).wp C.P Q) := R_condT hc k
theorem kF {c : Operand} {p q : Code} (hc : ev l c = some (.bool false) := by exact rfl) (k : St C F l rs (q.wp C.P Q)) : St C F l rs ((Code.cond c p q).wp C.P Q) := R_condF hc k
theorem rR {id : Nat} {ops : List Oper} (h : St C F l rs (wpList C.P ops.toArray Q ops)) : St C F l rs ((Code.region id ops.toArray false).wp C.P Q) := R_region h
theorem rS {p q : Code} (h : St C F l rs (p.wp C.P (Exit.then (q.wp C.P Q) Q))) : St C F l rs ((Code.seq p q).wp C.P Q) := R_seq h
theorem rT {id : Nat} {ops : List Oper} {q : Code} (h : St C F l rs (wpList C.P ops.toArray (Exit.then (q.wp C.P Q) Q) ops)) : St C F l rs ((Code.seq (Code.region id ops.toArray false) q).wp C.P Q) := R_seq (R_region h)
theorem qT {q : Code} (h : St C F l rs (q.wp C.P Q)) : St C F l rs (Exit.then (q.wp C.P Q) Q .normal) := h
theorem lE (he : EnvLe l l') (h : St C F l' rs (Q .normal)) : St C F l rs (wpList C.P opa Q []) := L_nil (St.env he h)
theorem lQ {q : Code} (he : EnvLe l l') (h : St C F l' rs (q.wp C.P Q)) : St C F l rs (wpList C.P opa (Exit.then (q.wp C.P Q) Q) []) := L_nil (St.env he (Q_then h))
end
end Go.Proofs.YtcngmkjdpoiiaaaGreatDoor

/- The seventh part of the program logic: rows of cells that a callee may read, wherever they lie; slices of bytes; small helpers. -/
namespace Go.Proofs.YtcngmkjdpoiiaaaGreatDoor
open Go Go.RowKit

/-- A row that a callee may read: none of its cells lies in what the callee takes. -/
def Seen (w : World) (h : Heap) (base : Option Addr) (cs : List Value) : Prop := ∀ (j : Nat) (v : Value), cs[j]? = some v → ∃ ad, base = some ad ∧ w.cell? (ad.add j) = some v ∧ h ad.block = .none
theorem Seen.row {w : World} {h : Heap} {base : Option Addr} {cs : List Value} (s : Seen w h base cs) : Row w base cs := fun j v hv => (s j v hv).imp fun _ x => ⟨x.1, x.2.1⟩
theorem Row.seen {w : World} {base : Option Addr} {cs : List Value} (s : Row w base cs) : Seen w Heap.none base cs := fun j v hv => (s j v hv).imp fun _ x => ⟨x.1, x.2, rfl⟩
theorem add_block (ad : Addr) (n : Nat) : (ad.add n).block = ad.block := by unfold Addr.add; split <;> rfl
theorem cell_block_lt {w : World} {ad : Addr} {n : Nat} {v : Value} (h : w.cell? (ad.add n) = some v) : ad.block < w.heap.size := by
 have := block_lt_of_cell h; rwa [add_block] at this
theorem Seen.nil {w : World} {h : Heap} {base : Option Addr} : Seen w h base [] := fun _ _ h => by cases h
theorem Seen.part {w : World} {h : Heap} {base base' : Option Addr} {cs us : List Value} (s : Seen w h base cs) (f : ∀ (j : Nat) (v : Value), us[j]? = some v → ∃ ad ad', base = some ad ∧ base' = some ad' ∧ ad'.block = ad.block ∧ ∃ i, ad'.add j = ad.add i ∧ cs[i]? = some v) : Seen w h base' us := fun j v hv => by
 obtain ⟨ad, ad', e, e', eb, i, ea, hc⟩ := f j v hv
 obtain ⟨ad2, e2, h1, h2⟩ := s i v hc
 rw [e, Option.some.injEq] at e2
 subst e2
 exact ⟨ad', e', by rw [ea]; exact h1, by rw [eb]; exact h2⟩
/-- x[p:q] of a row. -/
theorem part_sliced {base : Option Addr} {cs : List Value} {sz p q c : Nat} (hq : q ≤ c) (hcs : cs.length = c * sz ∨ q * sz ≤ cs.length) (hb : ∀ (j : Nat) (v : Value), cs[j]? = some v → base ≠ none) :
  ∀ (j : Nat) (v : Value), ((cs.drop (p * sz)).take ((q - p) * sz))[j]? = some v → ∃ ad ad', base = some ad ∧ (if c = p then base else base.map (·.add (p * sz))) = some ad' ∧ ad'.block = ad.block ∧ ∃ i, ad'.add j = ad.add i ∧ cs[i]? = some v := fun j v hv => by
 rw [List.getElem?_take] at hv
 split at hv
 ·rename_i hj
  rw [List.getElem?_drop] at hv
  cases base with
  | none => exact absurd rfl (hb _ v hv)
  | some ad =>
   have hne : ¬ c = p := by
    intro e; subst e
    have : (q - c) * sz = 0 := by rw [Nat.sub_eq_zero_of_le hq]; simp
    omega
   refine ⟨ad, ad.add (p * sz), rfl, by rw [if_neg hne]; rfl, add_block _ _, p * sz + j, ?_, hv⟩
   unfold Addr.add
   by_cases h1 : p * sz = 0 <;> by_cases h2 : j = 0 <;> simp [h1, h2, Nat.add_assoc]
 ·cases hv
theorem Seen.sliced {w : World} {h : Heap} {base : Option Addr} {cs : List Value} {sz p q c : Nat} (s : Seen w h base cs) (hq : q ≤ c) (hcs : cs.length = c * sz ∨ q * sz ≤ cs.length) : Seen w h (if c = p then base else base.map (·.add (p * sz))) ((cs.drop (p * sz)).take ((q - p) * sz)) :=
 s.part (part_sliced hq hcs fun j v hv => by obtain ⟨ad, rfl, _⟩ := s j v hv; simp)

section
variable {C : Cx} {F : Fx} {l : Env} {rs rs' : List HP} {K : Act → World → Prop} {o : Oper} {Q : Exit → Act → World → Prop} {d : Nat}
/-- A row in every fitting world: it was there when the body was entered, or it lies in what the body owns. -/
def Sn (C : Cx) (F : Fx) (rs : List HP) (base : Option Addr) (cs : List Value) : Prop := ∀ w h, Sep rs h → Move C F.w F.h w h → ∀ (j : Nat) (v : Value), cs[j]? = some v →
 ∃ ad, base = some ad ∧ w.cell? (ad.add j) = some v ∧ ((ad.block < F.w.heap.size ∧ F.h ad.block = .none) ∨ h ad.block ≠ .none ∨ ad.block < C.ng)
theorem Sn.rw_ {base : Option Addr} {cs : List Value} (s : Sn C F rs base cs) : Rw C F rs base cs := fun w ⟨h, hs, m⟩ j v hv => (s w h hs m j v hv).imp fun _ x => ⟨x.1, x.2.1⟩
theorem Sn.old {base : Option Addr} {cs : List Value} (s : Seen F.w F.h base cs) : Sn C F rs base cs := fun w h hs m j v hv => by
 obtain ⟨ad, e, hc, hn⟩ := s j v hv
 have hlt := cell_block_lt hc
 refine ⟨ad, e, ?_, .inl ⟨hlt, hn⟩⟩
 rw [← hc]
 have hb := m.keep ad.block hlt hn
 simp only [World.cell?, add_block, hb]
theorem Sn.row {base : Option Addr} {cs : List Value} (s : Row F.w base cs) (hf : F.h = Heap.none) : Sn C F rs base cs := Sn.old (by rw [hf]; exact s.seen)
theorem Sn.nil {base : Option Addr} : Sn C F rs base [] := fun _ _ _ _ _ _ h => by cases h
theorem Sn.part {base base' : Option Addr} {cs us : List Value} (s : Sn C F rs base cs) (f : ∀ (j : Nat) (v : Value), us[j]? = some v → ∃ ad ad', base = some ad ∧ base' = some ad' ∧ ad'.block = ad.block ∧ ∃ i, ad'.add j = ad.add i ∧ cs[i]? = some v) : Sn C F rs base' us := fun w h hs m j v hv => by
 obtain ⟨ad, ad', e, e', eb, i, ea, hc⟩ := f j v hv
 obtain ⟨ad2, e2, h1, h2⟩ := s w h hs m i v hc
 rw [e, Option.some.injEq] at e2
 subst e2
 exact ⟨ad', e', by rw [ea]; exact h1, by rw [eb]; exact h2⟩
theorem Sn.ofBlk {b T : Nat} {cs : List Value} (m : Has rs (blk b cs T) (blk b cs T) rs) : Sn C F rs (some ⟨b, 0, none⟩) cs := fun w h hs mv j v hv => by
 obtain ⟨a, c, ⟨fr, hf, rfl⟩, dj, rfl, _⟩ := Sep.take m hs
 have hone : (Heap.one b (.cells cs.toArray T fr)).join c b = some (.cells cs.toArray T fr) := Heap.le_join_left _ _ b _ (Heap.one_same _ _)
 refine ⟨_, rfl, ?_, .inr (.inl (by rw [hone]; simp))⟩
 have := mv.sub b _ hone
 rw [add_zero_off]
 simp [World.cell?, this, hv]
theorem Sn.own {T sz n c : Nat} {base : Option Addr} {v : Value} {cs : List Value} (m : Has rs (ownS T sz v n cs) (ownS T sz v n cs) rs) (e : v = .slice base n c) : Sn C F rs base cs := fun w h hs mv j u hu => by
 obtain ⟨a, c', hv, dj, rfl, _⟩ := Sep.take m hs
 subst e
 rcases hv.2 with ⟨_, rfl, _⟩ | ⟨b, cap, junk, e, _, _, _, fr, hf, rfl⟩
 ·have := hv.1
  have : cs = [] := List.eq_nil_of_length_eq_zero (by simpa using this)
  subst this; cases hu
 ·simp only [Value.slice.injEq] at e
  obtain ⟨rfl, _, _⟩ := e
  have hone : (Heap.one b (.cells (cs ++ junk).toArray T fr)).join c' b = some (.cells (cs ++ junk).toArray T fr) := Heap.le_join_left _ _ b _ (Heap.one_same _ _)
  refine ⟨_, rfl, ?_, .inr (.inl (by rw [hone]; simp))⟩
  have h2 := mv.sub b _ hone
  have hj := (List.getElem?_eq_some_iff.1 hu).1
  rw [add_zero_off]
  simp only [World.cell?, h2]
  simp only [Option.isSome_none, Bool.false_eq_true, if_false, List.getElem?_toArray, Nat.zero_add]
  rw [List.getElem?_append_left hj]; exact hu
theorem Sn.sliced {base : Option Addr} {cs : List Value} {sz p q c : Nat} (s : Sn C F rs base cs) (hq : q ≤ c) (hcs : cs.length = c * sz ∨ q * sz ≤ cs.length) : Sn C F rs (if c = p then base else base.map (·.add (p * sz))) ((cs.drop (p * sz)).take ((q - p) * sz)) := fun w h hs m j v hv => by
 refine Sn.part (C := C) (F := F) (rs := rs) s (part_sliced (sz := sz) (p := p) hq hcs ?_) w h hs m j v hv
 intro i u hu
 obtain ⟨ad, rfl, _⟩ := s w h hs m i u hu
 simp
theorem Sn.take {base : Option Addr} {cs : List Value} (s : Sn C F rs base cs) (n : Nat) : Sn C F rs base (cs.take n) := fun w h hs m j v hv => by
 rw [List.getElem?_take] at hv
 split at hv
 ·exact s w h hs m j v hv
 ·cases hv
/-- What a call asks for. -/
theorem Sn.pre {R0 rest : List HP} {base : Option Addr} {cs : List Value} (s : Sn C F rest base cs) : ∀ w a b, Sep R0 a → Sep rest b → a.Disj b → Move C F.w F.h w (a.join b) → Seen w a base cs := fun w a b ha hb dj m j v hv => by
 obtain ⟨ad, e, hc, hx⟩ := s w b hb (m.le (Heap.le_join_right dj)) j v hv
 refine ⟨ad, e, hc, ?_⟩
 cases hq : a ad.block with
 | none => rfl
 | some o =>
  exfalso
  have hj := Heap.le_join_left a b _ _ hq
  rcases hx with ⟨h1, h2⟩ | h2 | h2
  ·exact m.dom _ _ hj h1 h2
  ·rcases dj ad.block with e1 | e1
   ·rw [e1] at hq; cases hq
   ·exact h2 e1
  ·exact absurd (m.low _ _ hj) (by omega)

/-- A function whose value and whose resources behind it are known beforehand. -/
def SpecR (C : Cx) (f : FuncId) (args : List Value) (pre : World → Heap → Prop) (R0 : List HP) (v : Value) (RS : List HP) : Prop := Spec C f args pre R0 (fun u rs => u = v ∧ rs = RS)
theorem W_callR {xs : List Operand} {ts : Array TypeId} {f : FuncId} {vs : List Value} {v : Value} {pre : World → Heap → Prop} {R0 RS rest : List HP}
  (ho : o.op = .call { callee := .value (.func f), args := xs.toArray, argTypes := ts }) (hd : o.dst = some d) (hn : Nat.blt d F.n = true) (hx : evL l xs = some vs) (hc : callable C.P f = true) (hs : SpecR C f vs pre R0 v RS)
  (sp : Split rs R0 rest) (hp : ∀ w a b, Sep R0 a → Sep rest b → a.Disj b → Move C F.w F.h w (a.join b) → pre w a) (k : St C F ((d, v) :: l) (RS ++ rest) K) : OpW C F l rs o K Q :=
 W_call ho hd hn hx hc hs sp hp fun u rs1 ⟨h1, h2⟩ => by subst h1; subst h2; exact k
end

/-! ### Slices of bytes -/
/-- v is a slice of these bytes, in world w. -/
def Bytes (w : World) (v : Value) (xs : List Int) : Prop := ∃ base c, v = .slice base xs.length c ∧ xs.length ≤ c ∧ Row w base (ints .u8 xs)
/-- A row of slices of bytes. -/
def BytesL (w : World) (vs : List Value) (xss : List (List Int)) : Prop := vs.length = xss.length ∧ ∀ (i : Nat) (v : Value) (xs : List Int), vs[i]? = some v → xss[i]? = some xs → Bytes w v xs

theorem Row.some_ {w : World} {base : Option Addr} {cs : List Value} (h : Row w base cs) (hl : 0 < cs.length) : ∃ b j, base = some ⟨b, j, none⟩ ∧ RowAt w ⟨b, j, none⟩ cs := by
 rcases h.cases with rfl | h
 ·cases hl
 ·exact h
/-- The first k of n places are filled. -/
def fillN (f : Nat → Int) (n k : Nat) : List Int := (List.range n).map fun i => if i < k then f i else 0
theorem fillN_length (f : Nat → Int) (n k : Nat) : (fillN f n k).length = n := by simp [fillN]
theorem fillN_zero (f : Nat → Int) (n : Nat) : fillN f n 0 = List.replicate n 0 := by
 apply List.ext_getElem (by simp [fillN])
 intro i h1 h2; simp [fillN]
theorem fillN_full (f : Nat → Int) (n : Nat) : fillN f n n = (List.range n).map f := by
 apply List.ext_getElem (by simp [fillN])
 intro i h1 h2
 simp only [fillN, List.length_map, List.length_range] at h1
 simp [fillN, h1]
theorem fillN_set (f : Nat → Int) (n k : Nat) : (fillN f n k).set k (f k) = fillN f n (k + 1) := by
 apply List.ext_getElem (by simp [fillN])
 intro i h1 h2
 rw [List.getElem_set]
 by_cases hik : k = i
 ·subst hik; simp [fillN]
 ·have : (i < k) ↔ (i < k + 1) := by omega
  simp [fillN, hik, this]
end Go.Proofs.YtcngmkjdpoiiaaaGreatDoor

/- Facts on the types and the functions of this seat's translation, each a closed reckoning: printed by gen.py. -/
namespace Go.Proofs.YtcngmkjdpoiiaaaGreatDoor
open Go Go.Proofs
set_option maxRecDepth 100000
/-- The program, with what its package-level variables held when the call began. -/
noncomputable abbrev cx (gl : Nat → Obj) : Cx := ⟨Tryz.prog, 5, gl⟩
theorem ty_sc_3 : scB Tryz.prog 3 = true := by kernel_rfl
theorem ty_int_3 : Tryz.prog.underlying 3 = some (.int .i64) := by kernel_rfl
theorem ty_sc_4 : scB Tryz.prog 4 = true := by kernel_rfl
theorem ty_bool_4 : Tryz.prog.underlying 4 = some .bool := by kernel_rfl
theorem ty_sc_5 : scB Tryz.prog 5 = true := by kernel_rfl
theorem ty_int_5 : Tryz.prog.underlying 5 = some (.int .u8) := by kernel_rfl
theorem ty_ze_5 : zeB Tryz.prog 5 ([.int .u8 0]) := by unfold zeB; kernel_rfl
theorem ty_sc_9 : scB Tryz.prog 9 = true := by kernel_rfl
theorem ty_str_9 : Tryz.prog.underlying 9 = some .string := by kernel_rfl
theorem ty_src_9 : srcB Tryz.prog 9 = true := by kernel_rfl
theorem ty_sc_21 : scB Tryz.prog 21 = true := by kernel_rfl
theorem ty_sc_22 : scB Tryz.prog 22 = true := by kernel_rfl
theorem ty_sl_22 : slB Tryz.prog 22 50 5 40 = true := by kernel_rfl
theorem ty_ap_22 : apB Tryz.prog 50 5 = true := by kernel_rfl
theorem ty_src_22 : srcB Tryz.prog 22 = true := by kernel_rfl
theorem ty_lz_22 : ((Tryz.prog.info? 50).bind (·.zero)).map (·.cells.size) = some 5 := by kernel_rfl
theorem ty_sc_23 : scB Tryz.prog 23 = true := by kernel_rfl
theorem ty_int_23 : Tryz.prog.underlying 23 = some (.int .u64) := by kernel_rfl
theorem ty_ag_25 : agB Tryz.prog 25 12 = true := by kernel_rfl
theorem ty_pl_25 : plB Tryz.prog 25 [(0, 1), (1, 1), (2, 1), (3, 1), (4, 1), (5, 1), (6, 1), (7, 1), (8, 1), (9, 1), (10, 1), (11, 1)] = true := by kernel_rfl
theorem ty_fl_25_0 : flB Tryz.prog 25 0 0 = true := by kernel_rfl
theorem ty_fl_25_1 : flB Tryz.prog 25 1 1 = true := by kernel_rfl
theorem ty_fl_25_2 : flB Tryz.prog 25 2 2 = true := by kernel_rfl
theorem ty_fl_25_3 : flB Tryz.prog 25 3 3 = true := by kernel_rfl
theorem ty_ze_25 : zeB Tryz.prog 25 ([.int .u64 0, .int .i64 0, .int .u64 0, .int .u64 0, .int .u64 0, .int .i64 0] ++ List.replicate 6 (.int .u64 0)) := by unfold zeB; kernel_rfl
theorem ty_sc_26 : scB Tryz.prog 26 = true := by kernel_rfl
theorem ty_int_26 : Tryz.prog.underlying 26 = some (.int .u64) := by kernel_rfl
theorem ty_sc_28 : scB Tryz.prog 28 = true := by kernel_rfl
theorem ty_sl_28 : slB Tryz.prog 28 175 4 32 = true := by kernel_rfl
theorem ty_ap_28 : apB Tryz.prog 175 4 = true := by kernel_rfl
theorem ty_src_28 : srcB Tryz.prog 28 = true := by kernel_rfl
theorem ty_lz_28 : ((Tryz.prog.info? 175).bind (·.zero)).map (·.cells.size) = some 4 := by kernel_rfl
theorem ty_ag_30 : agB Tryz.prog 30 4 = true := by kernel_rfl
theorem ty_pl_30 : plB Tryz.prog 30 [(0, 1), (1, 1), (2, 1), (3, 1)] = true := by kernel_rfl
theorem ty_fl_30_0 : flB Tryz.prog 30 0 0 = true := by kernel_rfl
theorem ty_fl_30_1 : flB Tryz.prog 30 1 1 = true := by kernel_rfl
theorem ty_fl_30_2 : flB Tryz.prog 30 2 2 = true := by kernel_rfl
theorem ty_fl_30_3 : flB Tryz.prog 30 3 3 = true := by kernel_rfl
theorem ty_ze_30 : zeB Tryz.prog 30 ([.slice none 0 0, .slice none 0 0, .int .u64 0, .int .u64 0]) := by unfold zeB; kernel_rfl
theorem ty_sc_31 : scB Tryz.prog 31 = true := by kernel_rfl
theorem ty_sl_37 : slB Tryz.prog 37 55 3 24 = true := by kernel_rfl
theorem ty_ap_37 : apB Tryz.prog 55 3 = true := by kernel_rfl
theorem ty_src_37 : srcB Tryz.prog 37 = true := by kernel_rfl
theorem ty_lz_37 : ((Tryz.prog.info? 55).bind (·.zero)).map (·.cells.size) = some 3 := by kernel_rfl
theorem ty_ar_40 : arB Tryz.prog 40 32 5 1 = true := by kernel_rfl
theorem ty_ag_40 : agB Tryz.prog 40 32 = true := by kernel_rfl
theorem ty_ze_40 : zeB Tryz.prog 40 (List.replicate 32 (.int .u8 0)) := by unfold zeB; kernel_rfl
theorem ty_ag_50 : agB Tryz.prog 50 5 = true := by kernel_rfl
theorem ty_pl_50 : plB Tryz.prog 50 [(0, 1), (1, 1), (2, 1), (3, 1), (4, 1)] = true := by kernel_rfl
theorem ty_fld_50_0 : fldB Tryz.prog 50 0 = some (0, 26) := by kernel_rfl
theorem ty_fl_50_0 : flB Tryz.prog 50 0 0 = true := by kernel_rfl
theorem ty_fl_50_1 : flB Tryz.prog 50 1 1 = true := by kernel_rfl
theorem ty_fl_50_2 : flB Tryz.prog 50 2 2 = true := by kernel_rfl
theorem ty_fld_50_3 : fldB Tryz.prog 50 3 = some (3, 23) := by kernel_rfl
theorem ty_fl_50_3 : flB Tryz.prog 50 3 3 = true := by kernel_rfl
theorem ty_fld_50_4 : fldB Tryz.prog 50 4 = some (4, 4) := by kernel_rfl
theorem ty_fl_50_4 : flB Tryz.prog 50 4 4 = true := by kernel_rfl
theorem ty_ze_50 : zeB Tryz.prog 50 ([.int .u64 0, .int .u64 0, .int .u64 0, .int .u64 0, .bool false]) := by unfold zeB; kernel_rfl
theorem ty_ag_55 : agB Tryz.prog 55 3 = true := by kernel_rfl
theorem ty_pl_55 : plB Tryz.prog 55 [(0, 1), (1, 1), (2, 1)] = true := by kernel_rfl
theorem ty_fl_55_0 : flB Tryz.prog 55 0 0 = true := by kernel_rfl
theorem ty_fl_55_1 : flB Tryz.prog 55 1 1 = true := by kernel_rfl
theorem ty_ze_55 : zeB Tryz.prog 55 ([.int .u64 0, .int .u64 0, .int .i64 0]) := by unfold zeB; kernel_rfl
theorem ty_ar_65 : arB Tryz.prog 65 16 5 1 = true := by kernel_rfl
theorem ty_ag_65 : agB Tryz.prog 65 16 = true := by kernel_rfl
theorem ty_un_65 : Tryz.prog.underlying 65 = some (.array 16 5) := by kernel_rfl
theorem ty_eg_65 : Tryz.prog.eqGuardType Tryz.prog.depth 65 = false := by kernel_rfl
theorem ty_ze_65 : zeB Tryz.prog 65 (List.replicate 16 (.int .u8 0)) := by unfold zeB; kernel_rfl
theorem ty_ag_67 : agB Tryz.prog 67 22 = true := by kernel_rfl
theorem ty_fl_67_0 : flB Tryz.prog 67 0 0 = true := by kernel_rfl
theorem ty_fl_67_1 : flB Tryz.prog 67 1 1 = true := by kernel_rfl
theorem ty_fl_67_2 : flB Tryz.prog 67 2 2 = true := by kernel_rfl
theorem ty_fl_67_3 : flB Tryz.prog 67 3 3 = true := by kernel_rfl
theorem ty_fl_67_4 : flB Tryz.prog 67 4 4 = true := by kernel_rfl
theorem ty_fl_67_5 : flB Tryz.prog 67 5 5 = true := by kernel_rfl
theorem ty_fl_67_6 : flB Tryz.prog 67 6 6 = true := by kernel_rfl
theorem ty_ze_67 : zeB Tryz.prog 67 ([.int .i64 0] ++ List.replicate 5 (.int .u64 0) ++ List.replicate 16 (.int .u8 0)) := by unfold zeB; kernel_rfl
theorem ty_sc_69 : scB Tryz.prog 69 = true := by kernel_rfl
theorem ty_ptr_69 : Tryz.prog.underlying 69 = some (.pointer 91) := by kernel_rfl
theorem ty_ag_80 : agB Tryz.prog 80 0 = true := by kernel_rfl
theorem ty_pl_80 : plB Tryz.prog 80 [] = true := by kernel_rfl
theorem ty_ze_80 : zeB Tryz.prog 80 ([]) := by unfold zeB; kernel_rfl
theorem ty_sc_82 : scB Tryz.prog 82 = true := by kernel_rfl
theorem ty_int_82 : Tryz.prog.underlying 82 = some (.int .u32) := by kernel_rfl
theorem ty_fl_84_0 : flB Tryz.prog 84 0 0 = true := by kernel_rfl
theorem ty_fl_86_1 : flB Tryz.prog 86 1 0 = true := by kernel_rfl
theorem ty_sc_87 : scB Tryz.prog 87 = true := by kernel_rfl
theorem ty_map_87 : Tryz.prog.underlying 87 = some (.map 26 220) := by kernel_rfl
theorem ty_sc_88 : scB Tryz.prog 88 = true := by kernel_rfl
theorem ty_map_88 : Tryz.prog.underlying 88 = some (.map 307 80) := by kernel_rfl
theorem ty_sc_89 : scB Tryz.prog 89 = true := by kernel_rfl
theorem ty_map_89 : Tryz.prog.underlying 89 = some (.map 26 309) := by kernel_rfl
theorem ty_pl_91 : plB Tryz.prog 91 [(0, 2), (2, 1), (3, 1), (4, 1)] = true := by kernel_rfl
theorem ty_fl_91_0 : flB Tryz.prog 91 0 0 = true := by kernel_rfl
theorem ty_fl_91_1 : flB Tryz.prog 91 1 2 = true := by kernel_rfl
theorem ty_fl_91_2 : flB Tryz.prog 91 2 3 = true := by kernel_rfl
theorem ty_fl_91_3 : flB Tryz.prog 91 3 4 = true := by kernel_rfl
theorem ty_ze_91 : zeB Tryz.prog 91 ([.int .i32 0, .int .u32 0, .map none, .map none, .map none]) := by unfold zeB; kernel_rfl
theorem ty_sl_92 : slB Tryz.prog 92 67 22 64 = true := by kernel_rfl
theorem ty_ap_92 : apB Tryz.prog 67 22 = true := by kernel_rfl
theorem ty_src_92 : srcB Tryz.prog 92 = true := by kernel_rfl
theorem ty_lz_92 : ((Tryz.prog.info? 67).bind (·.zero)).map (·.cells.size) = some 22 := by kernel_rfl
theorem ty_sc_103 : scB Tryz.prog 103 = true := by kernel_rfl
theorem ty_ptr_103 : Tryz.prog.underlying 103 = some (.pointer 300) := by kernel_rfl
theorem ty_sc_104 : scB Tryz.prog 104 = true := by kernel_rfl
theorem ty_sl_104 : slB Tryz.prog 104 220 1 8 = true := by kernel_rfl
theorem ty_ap_104 : apB Tryz.prog 220 1 = true := by kernel_rfl
theorem ty_src_104 : srcB Tryz.prog 104 = true := by kernel_rfl
theorem ty_lz_104 : ((Tryz.prog.info? 220).bind (·.zero)).map (·.cells.size) = some 1 := by kernel_rfl
theorem ty_sc_105 : scB Tryz.prog 105 = true := by kernel_rfl
theorem ty_sl_105 : slB Tryz.prog 105 222 1 8 = true := by kernel_rfl
theorem ty_ap_105 : apB Tryz.prog 222 1 = true := by kernel_rfl
theorem ty_src_105 : srcB Tryz.prog 105 = true := by kernel_rfl
theorem ty_lz_105 : ((Tryz.prog.info? 222).bind (·.zero)).map (·.cells.size) = some 1 := by kernel_rfl
theorem ty_sl_141 : slB Tryz.prog 141 147 28 112 = true := by kernel_rfl
theorem ty_sl_145 : slB Tryz.prog 145 23 1 8 = true := by kernel_rfl
theorem ty_ap_145 : apB Tryz.prog 23 1 = true := by kernel_rfl
theorem ty_src_145 : srcB Tryz.prog 145 = true := by kernel_rfl
theorem ty_lz_145 : ((Tryz.prog.info? 23).bind (·.zero)).map (·.cells.size) = some 1 := by kernel_rfl
theorem ty_ag_147 : agB Tryz.prog 147 28 = true := by kernel_rfl
theorem ty_fl_147_0 : flB Tryz.prog 147 0 0 = true := by kernel_rfl
theorem ty_fl_147_1 : flB Tryz.prog 147 1 1 = true := by kernel_rfl
theorem ty_fl_147_2 : flB Tryz.prog 147 2 23 = true := by kernel_rfl
theorem ty_fl_147_3 : flB Tryz.prog 147 3 24 = true := by kernel_rfl
theorem ty_fl_147_4 : flB Tryz.prog 147 4 25 = true := by kernel_rfl
theorem ty_fl_147_5 : flB Tryz.prog 147 5 26 = true := by kernel_rfl
theorem ty_fl_147_6 : flB Tryz.prog 147 6 27 = true := by kernel_rfl
theorem ty_ze_147 : zeB Tryz.prog 147 ([.int .i64 0, .int .i64 0] ++ List.replicate 5 (.int .u64 0) ++ List.replicate 16 (.int .u8 0) ++ [.bool false, .int .u64 0, .int .u64 0, .int .u64 0, .int .u64 0]) := by unfold zeB; kernel_rfl
theorem ty_pl_154 : plB Tryz.prog 154 [(0, 1), (1, 1), (2, 1), (3, 1), (4, 1)] = true := by kernel_rfl
theorem ty_fl_154_0 : flB Tryz.prog 154 0 0 = true := by kernel_rfl
theorem ty_fl_154_1 : flB Tryz.prog 154 1 1 = true := by kernel_rfl
theorem ty_fl_154_2 : flB Tryz.prog 154 2 2 = true := by kernel_rfl
theorem ty_fl_154_3 : flB Tryz.prog 154 3 3 = true := by kernel_rfl
theorem ty_fl_154_4 : flB Tryz.prog 154 4 4 = true := by kernel_rfl
theorem ty_ze_154 : zeB Tryz.prog 154 ([.pointer none, .pointer none, .slice none 0 0, .slice none 0 0, .string ByteArray.empty]) := by unfold zeB; kernel_rfl
theorem ty_ag_169 : agB Tryz.prog 169 2 = true := by kernel_rfl
theorem ty_pl_169 : plB Tryz.prog 169 [(0, 1), (1, 1)] = true := by kernel_rfl
theorem ty_fl_169_0 : flB Tryz.prog 169 0 0 = true := by kernel_rfl
theorem ty_fl_169_1 : flB Tryz.prog 169 1 1 = true := by kernel_rfl
theorem ty_ze_169 : zeB Tryz.prog 169 ([.int .u64 0, .int .u64 0]) := by unfold zeB; kernel_rfl
theorem ty_ag_175 : agB Tryz.prog 175 4 = true := by kernel_rfl
theorem ty_pl_175 : plB Tryz.prog 175 [(0, 1), (1, 1), (2, 1), (3, 1)] = true := by kernel_rfl
theorem ty_fl_175_0 : flB Tryz.prog 175 0 0 = true := by kernel_rfl
theorem ty_fl_175_1 : flB Tryz.prog 175 1 1 = true := by kernel_rfl
theorem ty_fl_175_2 : flB Tryz.prog 175 2 2 = true := by kernel_rfl
theorem ty_fl_175_3 : flB Tryz.prog 175 3 3 = true := by kernel_rfl
theorem ty_ze_175 : zeB Tryz.prog 175 ([.int .u64 0, .int .u64 0, .int .u64 0, .int .u64 0]) := by unfold zeB; kernel_rfl
theorem ty_sl_195 : slB Tryz.prog 195 198 1 24 = true := by kernel_rfl
theorem ty_lz_195 : ((Tryz.prog.info? 198).bind (·.zero)).map (·.cells.size) = some 1 := by kernel_rfl
theorem ty_sc_198 : scB Tryz.prog 198 = true := by kernel_rfl
theorem ty_sl_198 : slB Tryz.prog 198 5 1 1 = true := by kernel_rfl
theorem ty_ap_198 : apB Tryz.prog 5 1 = true := by kernel_rfl
theorem ty_src_198 : srcB Tryz.prog 198 = true := by kernel_rfl
theorem ty_lz_198 : ((Tryz.prog.info? 5).bind (·.zero)).map (·.cells.size) = some 1 := by kernel_rfl
theorem ty_sl_200 : slB Tryz.prog 200 3 1 8 = true := by kernel_rfl
theorem ty_lz_200 : ((Tryz.prog.info? 3).bind (·.zero)).map (·.cells.size) = some 1 := by kernel_rfl
theorem ty_sc_220 : scB Tryz.prog 220 = true := by kernel_rfl
theorem ty_ptr_220 : Tryz.prog.underlying 220 = some (.pointer 305) := by kernel_rfl
theorem ty_sc_222 : scB Tryz.prog 222 = true := by kernel_rfl
theorem ty_ptr_222 : Tryz.prog.underlying 222 = some (.pointer 312) := by kernel_rfl
theorem ty_int_271 : Tryz.prog.underlying 271 = some (.int .u64) := by kernel_rfl
theorem ty_ptr_272 : Tryz.prog.underlying 272 = some (.pointer 343) := by kernel_rfl
theorem ty_ar_285 : arB Tryz.prog 285 8 82 1 = true := by kernel_rfl
theorem ty_ag_285 : agB Tryz.prog 285 8 = true := by kernel_rfl
theorem ty_un_285 : Tryz.prog.underlying 285 = some (.array 8 82) := by kernel_rfl
theorem ty_ze_285 : zeB Tryz.prog 285 (List.replicate 8 (.int .u32 0)) := by unfold zeB; kernel_rfl
theorem ty_sc_297 : scB Tryz.prog 297 = true := by kernel_rfl
theorem ty_sl_297 : slB Tryz.prog 297 26 1 8 = true := by kernel_rfl
theorem ty_ap_297 : apB Tryz.prog 26 1 = true := by kernel_rfl
theorem ty_src_297 : srcB Tryz.prog 297 = true := by kernel_rfl
theorem ty_lz_297 : ((Tryz.prog.info? 26).bind (·.zero)).map (·.cells.size) = some 1 := by kernel_rfl
theorem ty_sc_298 : scB Tryz.prog 298 = true := by kernel_rfl
theorem ty_sl_298 : slB Tryz.prog 298 315 2 24 = true := by kernel_rfl
theorem ty_ap_298 : apB Tryz.prog 315 2 = true := by kernel_rfl
theorem ty_src_298 : srcB Tryz.prog 298 = true := by kernel_rfl
theorem ty_lz_298 : ((Tryz.prog.info? 315).bind (·.zero)).map (·.cells.size) = some 2 := by kernel_rfl
theorem ty_pl_300 : plB Tryz.prog 300 [(0, 1), (1, 1), (2, 1)] = true := by kernel_rfl
theorem ty_fl_300_0 : flB Tryz.prog 300 0 0 = true := by kernel_rfl
theorem ty_fl_300_1 : flB Tryz.prog 300 1 1 = true := by kernel_rfl
theorem ty_fl_300_2 : flB Tryz.prog 300 2 2 = true := by kernel_rfl
theorem ty_ze_300 : zeB Tryz.prog 300 ([.bool false, .slice none 0 0, .slice none 0 0]) := by unfold zeB; kernel_rfl
theorem ty_pl_305 : plB Tryz.prog 305 [(0, 1), (1, 1)] = true := by kernel_rfl
theorem ty_fl_305_0 : flB Tryz.prog 305 0 0 = true := by kernel_rfl
theorem ty_fl_305_1 : flB Tryz.prog 305 1 1 = true := by kernel_rfl
theorem ty_ze_305 : zeB Tryz.prog 305 ([.pointer none, .int .u64 0]) := by unfold zeB; kernel_rfl
theorem ty_ag_307 : agB Tryz.prog 307 2 = true := by kernel_rfl
theorem ty_pl_307 : plB Tryz.prog 307 [(0, 1), (1, 1)] = true := by kernel_rfl
theorem ty_fl_307_1 : flB Tryz.prog 307 1 1 = true := by kernel_rfl
theorem ty_ze_307 : zeB Tryz.prog 307 ([.int .u64 0, .string ByteArray.empty]) := by unfold zeB; kernel_rfl
theorem ty_sl_309 : slB Tryz.prog 309 9 1 16 = true := by kernel_rfl
theorem ty_ap_309 : apB Tryz.prog 9 1 = true := by kernel_rfl
theorem ty_src_309 : srcB Tryz.prog 309 = true := by kernel_rfl
theorem ty_lz_309 : ((Tryz.prog.info? 9).bind (·.zero)).map (·.cells.size) = some 1 := by kernel_rfl
theorem ty_pl_312 : plB Tryz.prog 312 [(0, 1), (1, 1)] = true := by kernel_rfl
theorem ty_fl_312_0 : flB Tryz.prog 312 0 0 = true := by kernel_rfl
theorem ty_fl_312_1 : flB Tryz.prog 312 1 1 = true := by kernel_rfl
theorem ty_ze_312 : zeB Tryz.prog 312 ([.pointer none, .int .u64 0]) := by unfold zeB; kernel_rfl
theorem ty_pl_315 : plB Tryz.prog 315 [(0, 1), (1, 1)] = true := by kernel_rfl
theorem ty_fl_315_0 : flB Tryz.prog 315 0 0 = true := by kernel_rfl
theorem ty_fl_315_1 : flB Tryz.prog 315 1 1 = true := by kernel_rfl
theorem ty_ze_315 : zeB Tryz.prog 315 ([.int .u64 0, .string ByteArray.empty]) := by unfold zeB; kernel_rfl
theorem ty_pl_343 : plB Tryz.prog 343 [(0, 1), (1, 1), (2, 1)] = true := by kernel_rfl
theorem ty_fl_343_0 : flB Tryz.prog 343 0 0 = true := by kernel_rfl
theorem ty_fl_343_1 : flB Tryz.prog 343 1 1 = true := by kernel_rfl
theorem ty_fl_343_2 : flB Tryz.prog 343 2 2 = true := by kernel_rfl
theorem ty_ze_343 : zeB Tryz.prog 343 ([.bool false, .slice none 0 0, .int .i64 0]) := by unfold zeB; kernel_rfl
theorem ty_ar_352 : arB Tryz.prog 352 64 82 1 = true := by kernel_rfl
theorem ty_un_352 : Tryz.prog.underlying 352 = some (.array 64 82) := by kernel_rfl
theorem ty_ze_352 : zeB Tryz.prog 352 (List.replicate 64 (.int .u32 0)) := by unfold zeB; kernel_rfl
theorem ty_ar_373 : arB Tryz.prog 373 5 23 1 = true := by kernel_rfl
theorem ty_ze_373 : zeB Tryz.prog 373 (List.replicate 5 (.int .u64 0)) := by unfold zeB; kernel_rfl
theorem ty_ptr_383 : Tryz.prog.underlying 383 = some (.pointer 406) := by kernel_rfl
theorem ty_sl_387 : slB Tryz.prog 387 31 1 8 = true := by kernel_rfl
theorem ty_lz_387 : ((Tryz.prog.info? 31).bind (·.zero)).map (·.cells.size) = some 1 := by kernel_rfl
theorem ty_ptr_388 : Tryz.prog.underlying 388 = some (.pointer 84) := by kernel_rfl
theorem ty_ar_403 : arB Tryz.prog 403 8 82 1 = true := by kernel_rfl
theorem ty_ag_403 : agB Tryz.prog 403 8 = true := by kernel_rfl
theorem ty_ze_403 : zeB Tryz.prog 403 (List.replicate 8 (.int .u32 0)) := by unfold zeB; kernel_rfl
theorem ty_ar_404 : arB Tryz.prog 404 64 5 1 = true := by kernel_rfl
theorem ty_ag_404 : agB Tryz.prog 404 64 = true := by kernel_rfl
theorem ty_ag_406 : agB Tryz.prog 406 75 = true := by kernel_rfl
theorem ty_pl_406 : plB Tryz.prog 406 [(0, 1), (1, 8), (9, 64), (73, 1), (74, 1)] = true := by kernel_rfl
theorem ty_fl_406_0 : flB Tryz.prog 406 0 0 = true := by kernel_rfl
theorem ty_fl_406_1 : flB Tryz.prog 406 1 1 = true := by kernel_rfl
theorem ty_fl_406_2 : flB Tryz.prog 406 2 9 = true := by kernel_rfl
theorem ty_fl_406_3 : flB Tryz.prog 406 3 73 = true := by kernel_rfl
theorem ty_fl_406_4 : flB Tryz.prog 406 4 74 = true := by kernel_rfl
theorem ty_ze_406 : zeB Tryz.prog 406 ([.bool false] ++ List.replicate 8 (.int .u32 0) ++ List.replicate 64 (.int .u8 0) ++ [.int .i64 0, .int .u64 0]) := by unfold zeB; kernel_rfl
theorem ty_ar_408 : arB Tryz.prog 408 8 5 1 = true := by kernel_rfl
theorem ty_ze_408 : zeB Tryz.prog 408 (List.replicate 8 (.int .u8 0)) := by unfold zeB; kernel_rfl
theorem ty_zv_80 : (Tryz.prog.info? 80).bind (·.zero) = some (.agg #[]) := by kernel_rfl
theorem ty_zv_220 : (Tryz.prog.info? 220).bind (·.zero) = some (.pointer none) := by kernel_rfl
theorem ty_zv_309 : (Tryz.prog.info? 309).bind (·.zero) = some (.slice none 0 0) := by kernel_rfl
theorem fn_ca_16 : callable Tryz.prog 16 = true := by kernel_rfl
theorem fn_ca_17 : callable Tryz.prog 17 = true := by kernel_rfl
theorem fn_ca_18 : callable Tryz.prog 18 = true := by kernel_rfl
theorem fn_ca_19 : callable Tryz.prog 19 = true := by kernel_rfl
theorem fn_ca_20 : callable Tryz.prog 20 = true := by kernel_rfl
theorem fn_ca_23 : callable Tryz.prog 23 = true := by kernel_rfl
theorem fn_ca_31 : callable Tryz.prog 31 = true := by kernel_rfl
theorem fn_ca_63 : callable Tryz.prog 63 = true := by kernel_rfl
theorem fn_ca_64 : callable Tryz.prog 64 = true := by kernel_rfl
theorem fn_ca_65 : callable Tryz.prog 65 = true := by kernel_rfl
theorem fn_ca_66 : callable Tryz.prog 66 = true := by kernel_rfl
theorem fn_ca_67 : callable Tryz.prog 67 = true := by kernel_rfl
theorem fn_ca_68 : callable Tryz.prog 68 = true := by kernel_rfl
theorem fn_ca_69 : callable Tryz.prog 69 = true := by kernel_rfl
theorem fn_ca_70 : callable Tryz.prog 70 = true := by kernel_rfl
theorem fn_ca_75 : callable Tryz.prog 75 = true := by kernel_rfl
theorem fn_ca_76 : callable Tryz.prog 76 = true := by kernel_rfl
theorem fn_ca_77 : callable Tryz.prog 77 = true := by kernel_rfl
theorem fn_ca_78 : callable Tryz.prog 78 = true := by kernel_rfl
theorem fn_ca_79 : callable Tryz.prog 79 = true := by kernel_rfl
theorem fn_ca_80 : callable Tryz.prog 80 = true := by kernel_rfl
theorem fn_ca_81 : callable Tryz.prog 81 = true := by kernel_rfl
theorem fn_ca_82 : callable Tryz.prog 82 = true := by kernel_rfl
theorem fn_ca_83 : callable Tryz.prog 83 = true := by kernel_rfl
theorem fn_ca_84 : callable Tryz.prog 84 = true := by kernel_rfl
theorem fn_ca_85 : callable Tryz.prog 85 = true := by kernel_rfl
theorem fn_ca_86 : callable Tryz.prog 86 = true := by kernel_rfl
theorem fn_ca_91 : callable Tryz.prog 91 = true := by kernel_rfl
theorem fn_ca_92 : callable Tryz.prog 92 = true := by kernel_rfl
theorem fn_ca_93 : callable Tryz.prog 93 = true := by kernel_rfl
theorem fn_ca_94 : callable Tryz.prog 94 = true := by kernel_rfl
theorem fn_ca_95 : callable Tryz.prog 95 = true := by kernel_rfl
theorem fn_ca_96 : callable Tryz.prog 96 = true := by kernel_rfl
theorem fn_ca_97 : callable Tryz.prog 97 = true := by kernel_rfl
theorem fn_ca_99 : callable Tryz.prog 99 = true := by kernel_rfl
theorem fn_ca_103 : callable Tryz.prog 103 = true := by kernel_rfl
theorem fn_ca_120 : callable Tryz.prog 120 = true := by kernel_rfl
theorem fn_ca_123 : callable Tryz.prog 123 = true := by kernel_rfl
theorem fn_ca_125 : callable Tryz.prog 125 = true := by kernel_rfl
theorem fn_ca_126 : callable Tryz.prog 126 = true := by kernel_rfl
theorem fn_ca_128 : callable Tryz.prog 128 = true := by kernel_rfl
theorem fn_ca_129 : callable Tryz.prog 129 = true := by kernel_rfl
theorem fn_ca_144 : callable Tryz.prog 144 = true := by kernel_rfl
theorem fn_ca_146 : callable Tryz.prog 146 = true := by kernel_rfl
theorem fn_ca_149 : callable Tryz.prog 149 = true := by kernel_rfl
theorem fn_ca_150 : callable Tryz.prog 150 = true := by kernel_rfl
theorem fn_ca_151 : callable Tryz.prog 151 = true := by kernel_rfl
theorem fn_ca_152 : callable Tryz.prog 152 = true := by kernel_rfl
theorem fn_ca_153 : callable Tryz.prog 153 = true := by kernel_rfl
theorem fn_ca_154 : callable Tryz.prog 154 = true := by kernel_rfl
theorem fn_ca_155 : callable Tryz.prog 155 = true := by kernel_rfl
theorem fn_ca_156 : callable Tryz.prog 156 = true := by kernel_rfl
theorem fn_ca_157 : callable Tryz.prog 157 = true := by kernel_rfl
theorem fn_ca_158 : callable Tryz.prog 158 = true := by kernel_rfl
theorem fn_ca_159 : callable Tryz.prog 159 = true := by kernel_rfl
theorem fn_ca_160 : callable Tryz.prog 160 = true := by kernel_rfl
theorem fn_ca_161 : callable Tryz.prog 161 = true := by kernel_rfl
theorem fn_ca_162 : callable Tryz.prog 162 = true := by kernel_rfl
theorem fn_ca_163 : callable Tryz.prog 163 = true := by kernel_rfl
theorem fn_ca_164 : callable Tryz.prog 164 = true := by kernel_rfl
theorem fn_ca_165 : callable Tryz.prog 165 = true := by kernel_rfl
theorem fn_ca_166 : callable Tryz.prog 166 = true := by kernel_rfl
theorem fn_ca_167 : callable Tryz.prog 167 = true := by kernel_rfl
theorem fn_ca_168 : callable Tryz.prog 168 = true := by kernel_rfl
theorem fn_ca_169 : callable Tryz.prog 169 = true := by kernel_rfl
theorem fn_ca_172 : callable Tryz.prog 172 = true := by kernel_rfl
theorem fn_ca_174 : callable Tryz.prog 174 = true := by kernel_rfl
theorem fn_ca_175 : callable Tryz.prog 175 = true := by kernel_rfl
theorem fn_ca_176 : callable Tryz.prog 176 = true := by kernel_rfl
theorem fn_ca_177 : callable Tryz.prog 177 = true := by kernel_rfl
theorem fn_ca_184 : callable Tryz.prog 184 = true := by kernel_rfl
theorem fn_ca_189 : callable Tryz.prog 189 = true := by kernel_rfl
theorem fn_ca_192 : callable Tryz.prog 192 = true := by kernel_rfl
theorem fn_ca_193 : callable Tryz.prog 193 = true := by kernel_rfl
theorem fn_ca_194 : callable Tryz.prog 194 = true := by kernel_rfl
theorem fn_ca_195 : callable Tryz.prog 195 = true := by kernel_rfl
theorem fn_ca_196 : callable Tryz.prog 196 = true := by kernel_rfl
theorem fn_ca_197 : callable Tryz.prog 197 = true := by kernel_rfl
theorem fn_ca_198 : callable Tryz.prog 198 = true := by kernel_rfl
theorem fn_ca_199 : callable Tryz.prog 199 = true := by kernel_rfl
theorem fn_ca_200 : callable Tryz.prog 200 = true := by kernel_rfl
theorem fn_ca_207 : callable Tryz.prog 207 = true := by kernel_rfl
theorem fn_ca_208 : callable Tryz.prog 208 = true := by kernel_rfl
theorem fn_ca_209 : callable Tryz.prog 209 = true := by kernel_rfl
theorem fn_ca_210 : callable Tryz.prog 210 = true := by kernel_rfl
theorem fn_ca_211 : callable Tryz.prog 211 = true := by kernel_rfl
theorem fn_ca_216 : callable Tryz.prog 216 = true := by kernel_rfl
theorem fn_ca_220 : callable Tryz.prog 220 = true := by kernel_rfl
theorem fn_ca_221 : callable Tryz.prog 221 = true := by kernel_rfl
theorem fn_ca_222 : callable Tryz.prog 222 = true := by kernel_rfl
theorem fn_ca_231 : callable Tryz.prog 231 = true := by kernel_rfl
theorem fn_ca_233 : callable Tryz.prog 233 = true := by kernel_rfl
theorem fn_ca_234 : callable Tryz.prog 234 = true := by kernel_rfl
theorem fn_ca_241 : callable Tryz.prog 241 = true := by kernel_rfl
theorem fn_ca_246 : callable Tryz.prog 246 = true := by kernel_rfl
theorem fn_ca_247 : callable Tryz.prog 247 = true := by kernel_rfl
theorem fn_ca_248 : callable Tryz.prog 248 = true := by kernel_rfl
theorem fn_ca_249 : callable Tryz.prog 249 = true := by kernel_rfl
theorem fn_ca_250 : callable Tryz.prog 250 = true := by kernel_rfl
theorem fn_ca_251 : callable Tryz.prog 251 = true := by kernel_rfl
theorem fn_ca_252 : callable Tryz.prog 252 = true := by kernel_rfl
theorem fn_ca_253 : callable Tryz.prog 253 = true := by kernel_rfl
theorem fn_ca_254 : callable Tryz.prog 254 = true := by kernel_rfl
theorem fn_ca_255 : callable Tryz.prog 255 = true := by kernel_rfl
theorem fn_ca_266 : callable Tryz.prog 266 = true := by kernel_rfl
theorem fn_ca_267 : callable Tryz.prog 267 = true := by kernel_rfl
theorem fn_ca_268 : callable Tryz.prog 268 = true := by kernel_rfl
theorem fn_ca_269 : callable Tryz.prog 269 = true := by kernel_rfl
theorem fn_ca_274 : callable Tryz.prog 274 = true := by kernel_rfl
theorem fn_ca_280 : callable Tryz.prog 280 = true := by kernel_rfl
theorem fn_ca_281 : callable Tryz.prog 281 = true := by kernel_rfl
theorem fn_ca_282 : callable Tryz.prog 282 = true := by kernel_rfl
theorem fn_ca_283 : callable Tryz.prog 283 = true := by kernel_rfl
theorem fn_ca_298 : callable Tryz.prog 298 = true := by kernel_rfl
theorem fn_ca_302 : callable Tryz.prog 302 = true := by kernel_rfl
theorem fn_ca_304 : callable Tryz.prog 304 = true := by kernel_rfl
theorem fn_ca_305 : callable Tryz.prog 305 = true := by kernel_rfl
theorem fn_ca_306 : callable Tryz.prog 306 = true := by kernel_rfl
theorem fn_ca_317 : callable Tryz.prog 317 = true := by kernel_rfl
theorem mixed : Tryz.prog.follows .mixedOrders = true := by kernel_rfl
end Go.Proofs.YtcngmkjdpoiiaaaGreatDoor

/- The eighth part of the program logic: strings of bytes; how a call's rule becomes a row's. -/
namespace Go.Proofs.YtcngmkjdpoiiaaaGreatDoor
open Go Go.RowKit Go.ChangeShapes Go.WideShapes

/-- All are bytes. -/
def IsB (xs : List Int) : Prop := ∀ x ∈ xs, 0 ≤ x ∧ x ≤ 255
theorem strOfNums_inj {xs ys : List Int} (hx : IsB xs) (hy : IsB ys) : (strOfNums xs).toList = (strOfNums ys).toList ↔ xs = ys := by
 constructor
 ·intro h
  have h2 : (xs.map fun n => UInt8.ofNat n.toNat) = ys.map fun n => UInt8.ofNat n.toNat := by
   have e : ∀ zs : List Int, (strOfNums zs).toList = zs.map fun n => UInt8.ofNat n.toNat := fun zs => by
    rw [ByteArray.toList_eq, strOfNums_data]
   rw [e, e] at h; exact h
  clear h
  induction xs generalizing ys with
  | nil => cases ys with
   | nil => rfl
   | cons y ys => simp at h2
  | cons x xs ih =>
   cases ys with
   | nil => simp at h2
   | cons y ys =>
    simp only [List.map_cons, List.cons.injEq] at h2
    have hx0 := hx x (by simp)
    have hy0 := hy y (by simp)
    have e : x.toNat = y.toNat := by
     have := congrArg UInt8.toNat h2.1
     simp only [UInt8.toNat_ofNat'] at this
     omega
    have : x = y := by omega
    subst this
    rw [ih (fun z hz => hx z (by simp [hz])) (fun z hz => hy z (by simp [hz])) h2.2]
 ·rintro rfl; rfl
section
variable {C : Cx} {F : Fx} {l : Env} {rs rs' : List HP} {K : Act → World → Prop} {o : Oper} {Q : Exit → Act → World → Prop} {d : Nat}
theorem V_str {t t' e c : Nat} {x : Operand} {base : Option Addr} {xs : List Int} (ho : o.op = .convert t t' x) (hs : C.P.underlying t = some (.slice e)) (he : C.P.underlying e = some (.int .u8)) (ht : C.P.underlying t' = some .string) (hx : ev l x = some (.slice base xs.length c)) (hr : Rw C F rs base (ints .u8 xs)) : OpV C F l rs o (.string (strOfNums xs)) := fun a w r n => by
 simp only [execOp, ho, r.ev hx, Sem.run_bind]
 rcases (hr w n).cases with h0 | ⟨b, j, rfl, hrow⟩
 ·have : xs = [] := by cases xs with | nil => rfl | cons => cases h0
  subst this
  cases base with
  | none => rw [run_convert_bytes_nil w t e hs he _ _ t' ht]; rfl
  | some ad =>
   obtain ⟨b, j, sp⟩ := ad
   have hl : (loadCells ⟨b, j, sp⟩ ([] : List Int).length).run C.P w = .ok #[] w := run_loadCells_list w _ [] (fun _ _ h => by cases h)
   rw [run_convert_bytes_string w t t' e _ _ _ hs he ht, run_bytesToString w ⟨b, j, sp⟩ _ c [] hl]
   rfl
 ·rw [run_convert_bytes_arg w t e hs he b j xs.length c xs rfl (fun i hi => by
   have := hrow i _ (ints_at (k := .u8) hi)
   rwa [add_zero_off] at this) t' ht]
  rfl
theorem P_eqStr {t t' : Nat} {x y : Operand} {xs ys : List Int} (ho : o.op = .binOp .eql t x y t') (hx : ev l x = some (.string (strOfNums xs))) (hy : ev l y = some (.string (strOfNums ys))) (h1 : IsB xs) (h2 : IsB ys) : OpP C F l o (.bool (decide (xs = ys))) := fun a w r => by
 have : ((strOfNums xs).toList == (strOfNums ys).toList) = decide (xs = ys) := by
  by_cases h : xs = ys
  ·subst h; simp
  ·have := mt (strOfNums_inj h1 h2).1 h; simp [h, this]
 simp [execOp, ho, r.ev hx, r.ev hy, binOp, eqGuard, Op.stringOp, this]
end

theorem Move.below {C : Cx} {W W' : World} {h : Heap} (m : Move C W Heap.none W' h) : Below W.heap.size W W' := ⟨m.os, m.tape, m.output, m.size, fun k hk => m.keep k hk rfl⟩
theorem Spec.calls {C : Cx} {f : FuncId} {args : List Value} {pre : World → Heap → Prop} {post : Value → List HP → Prop} {W : World} (s : Spec C f args pre [] post) (hok : C.ok W) (hp : pre W Heap.none) :
  Calls C.P f args.toArray W (fun e W' => ∃ v rs, e = .returned v ∧ post v rs ∧ Below W.heap.size W W') :=
 (s W Heap.none rfl ⟨fun _ _ h => by (cases h), fun _ _ h => by (cases h), hok⟩ hp).mono fun e W' ⟨v, rs, h', e1, e2, _, m⟩ => ⟨v, rs, e1, e2, m.below⟩
theorem SpecV.calls {C : Cx} {f : FuncId} {args : List Value} {pre : World → Prop} {v : Value} {W : World} (s : SpecV C f args pre v) (hok : C.ok W) (hp : pre W) : Calls C.P f args.toArray W (fun e W' => e = .returned v ∧ Below W.heap.size W W') :=
 (Spec.calls s hok hp).mono fun e W' ⟨u, rs, e1, e2, b⟩ => ⟨by rw [e1, e2.1], b⟩

section
variable {H : Type} {enc : TypeId × Value → H} {P : Program} {w : World} {base : Nat} {spare : Nat → Bool} {held : Bool}
/-- An array of whole numbers is read. -/
theorem open_intArr {t n e fuel : Nat} {k : IntKind} {cs : List Value} {x : DataW H × List MemPlace} (ht : P.underlying t = some (.array n e)) (he : P.underlying e = some (.int k)) (hc : P.cellsOf e = 1) (hct : P.cellsOf t = n)
  (h : DataW.trod enc P w base spare held fuel t cs = some x) : ∃ zs : List Int, cs = ints k zs ∧ zs.length = n ∧ x = (.agg (lits k zs), []) ∧ ∀ z ∈ zs, (Lit.int k z).wf = true := by
 obtain ⟨xs, m, rfl, hx, hlen, hn, hel⟩ := DataW.trod_array ht h
 have each : ∀ i, i < n → ∃ z, cs[i]? = some (.int k z) ∧ xs[i]? = some (.lit (.int k z), []) ∧ (Lit.int k z).wf = true := by
  intro i hi
  have h1 := hel i hi
  have hxi : xs[i]? = some xs[i] := List.getElem?_eq_getElem (by omega)
  rw [hxi, hc, Nat.mul_one] at h1
  obtain ⟨z, e1, e2, e3⟩ := DataW.trod_int he h1
  refine ⟨z, ?_, by rw [hxi, e2], e3⟩
  have : ((cs.drop i).take 1)[0]? = some (.int k z) := by rw [e1]; rfl
  simpa using this
 have hlit : ∀ i z, i < n → cs[i]? = some (.int k z) → xs[i]? = some (.lit (.int k z), []) := fun i z hi hz => by
  obtain ⟨z', h1, h2, _⟩ := each i hi
  rw [h1, Option.some.injEq, Value.int.injEq] at hz
  rw [h2, hz.2]
 refine ⟨xs.map fun y => numOf y, ?_, by simp [hn], ?_, ?_⟩
 ·apply List.ext_getElem?
  intro i
  by_cases hi : i < n
  ·obtain ⟨z, h1, h2, _⟩ := each i hi
   rw [h1]; simp [ints, h2, numOf]
  ·rw [List.getElem?_eq_none (by omega), List.getElem?_eq_none (by simp [ints]; omega)]
 ·rw [hx]
  congr 1
  ·congr 1
   apply List.ext_getElem?
   intro i
   by_cases hi : i < n
   ·obtain ⟨z, h1, h2, _⟩ := each i hi
    simp [lits, h2, numOf]
   ·rw [List.getElem?_eq_none (by simp; omega), List.getElem?_eq_none (by simp [lits]; omega)]
  ·rw [List.flatMap_eq_nil_iff]
   intro y hy
   obtain ⟨i, hi, e⟩ := List.mem_iff_getElem.1 hy
   obtain ⟨z, _, h2, _⟩ := each i (by omega)
   rw [List.getElem?_eq_getElem hi, e] at h2
   rw [Option.some.inj h2]
 ·intro z hz
  obtain ⟨y, hy, rfl⟩ := List.mem_map.1 hz
  obtain ⟨i, hi, e⟩ := List.mem_iff_getElem.1 hy
  obtain ⟨z, _, h2, h3⟩ := each i (by omega)
  rw [List.getElem?_eq_getElem hi, e] at h2
  rw [Option.some.inj h2]; exact h3
theorem lits_inj {k : IntKind} {xs ys : List Int} (h : lits (H := H) k xs = lits k ys) : xs = ys := by
 unfold lits at h
 exact (List.map_inj_right (fun a b h => by injection h with h; injection h)).1 h
theorem var_heap {n : String} {g : Nat} {cs : Array Value} (hg : P.globalNamed n = some g) (h : w.var? P n = some cs) : ∃ T fr, w.heap[g]? = some (.cells cs T fr) := by
 simp only [World.var?, hg, Option.bind_some] at h
 split at h
 ·rename_i cs' T fr hh
  rw [Option.some.injEq] at h
  subst h; exact ⟨T, fr, hh⟩
 ·cases h
/-- The arguments read behind the call as they did. -/
theorem below_trodAll (hl : laidOutB P = true) {W W' : World} (hb : Below W.heap.size W W') : ∀ {ts : List TypeId} {vs : List Value} {ds : List (DataW H)} {ps : List MemPlace}, (ts.all fun t => P.readableRec t && Nat.blt t P.types.size) = true →
  DataW.TrodAll enc P W 0 (fun _ => true) true ts vs ds ps → (∀ x ∈ ps, x.block < W.heap.size) → DataW.TrodAll enc P W' 0 (fun b => decide (b < W.heap.size)) true ts vs ds ps
 | [], vs, ds, ps, _, h, _ => by obtain ⟨rfl, rfl, rfl⟩ := trodAll_nil h; exact trodAll_mk0
 | t :: ts, vs, ds, ps, ht, h, hlt => by
  obtain ⟨v, vs', d, ds', p, q, rfl, rfl, rfl, h1, h2⟩ := trodAll_cons h
  simp only [List.all_cons, Bool.and_eq_true] at ht
  exact ⟨p, q, Below.trod hl ht.1.1 (Nat.le_of_ble_eq_true ht.1.2) h1 hb (fun x hx => hlt x (List.mem_append_left _ hx)), below_trodAll hl hb ht.2 h2 (fun x hx => hlt x (List.mem_append_right _ hx)), rfl⟩
end
end Go.Proofs.YtcngmkjdpoiiaaaGreatDoor

/- The ninth part of the program logic: rows of rows of whole numbers; made slices. -/
namespace Go.Proofs.YtcngmkjdpoiiaaaGreatDoor
open Go Go.RowKit

section
variable {k : IntKind} {n : Nat} {xss : List (List Int)} (h : ∀ x ∈ xss, x.length = n)
include h
end

/-- The cells of a made slice. -/
def madeL (z : List Value) (m : Nat) : List Value := (madeCells z.toArray m).toList
theorem madeL_length (z : List Value) (m : Nat) : (madeL z m).length = m := by rw [madeL, Array.length_toList, size_madeCells]
section
variable {C : Cx} {F : Fx} {l : Env} {rs rs' : List HP} {K : Act → World → Prop} {o : Oper} {Q : Exit → Act → World → Prop} {d : Nat}
/-- An owned slice that is not empty has a block. -/
theorem St.ownSome (p : List HP) {q : List HP} {T sz n : Nat} {v : Value} {cs : List Value} (hn : 0 < n) (h : ∀ b cap, v = .slice (some ⟨b, 0, none⟩) n cap → n ≤ cap → St C F l (p ++ ownS T sz v n cs :: q) K) : St C F l (p ++ ownS T sz v n cs :: q) K := fun a w r nw => by
 obtain ⟨_, hv, _⟩ := nw.has (r := ownS T sz v n cs) ⟨p, q, rfl, rfl⟩
 rcases hv.2 with ⟨_, h0, _⟩ | ⟨b, cap, junk, e, hc, _⟩
 ·omega
 ·exact h b cap e hc a w r nw
theorem St.ownForm (p : List HP) {q : List HP} {T sz n : Nat} {v : Value} {cs : List Value} (h : ∀ base cap, v = .slice base n cap → n ≤ cap → St C F l (p ++ ownS T sz v n cs :: q) K) : St C F l (p ++ ownS T sz v n cs :: q) K := fun a w r nw => by
 obtain ⟨_, hv, _⟩ := nw.has (r := ownS T sz v n cs) ⟨p, q, rfl, rfl⟩
 obtain ⟨b, cap, e, hc⟩ := hv.form
 exact h b cap e hc a w r nw
theorem Rd.own {T sz n cap b j : Nat} {cs : List Value} {u : Value} (m : Has rs (ownS T sz (.slice (some ⟨b, 0, none⟩) n cap) n cs) (ownS T sz (.slice (some ⟨b, 0, none⟩) n cap) n cs) rs) (hu : cs[j]? = some u) : Rd C F rs ⟨b, j, none⟩ u := fun w nw => by
 obtain ⟨ad, e, hc⟩ := (Sn.own (C := C) (F := F) m rfl).rw_ w nw j u hu
 rw [Option.some.injEq] at e
 subst e
 rwa [add_zero_off, Nat.zero_add] at hc
end
end Go.Proofs.YtcngmkjdpoiiaaaGreatDoor

/- The tenth part of the program logic: regions of open order in which what is read stays apart from what is written. -/
namespace Go.Proofs.YtcngmkjdpoiiaaaGreatDoor
open Go Go.RowKit
section
variable {C : Cx} {F : Fx} {l : Env} {rs rs' rq : List HP} {o : Oper} {Q : Exit → Act → World → Prop} {ops : Array Oper} {d i : Nat} {v : Value} {rest : List (Nat × Nat)}
/-- The walk of a region whose order is open; what its quiet operations read lies in rq. -/
def StQ (C : Cx) (F : Fx) (ops : Array Oper) (Q : Exit → Act → World → Prop) (order : List (Nat × Nat)) (l : Env) (rq rs : List HP) : Prop := St C F l rs (wpSch C.P ops Q order (Now C F rq))
theorem R_openQ {id : Nat} {os : List Oper} (order : List (Nat × Nat)) (rq : List HP) (hw : Weak rs rq) (hm : C.P.follows .mixedOrders = true) (hB : schB os.toArray order = true) (hQ : QOk Q) (h : StQ C F os.toArray Q order l rq rs) : St C F l rs ((Code.region id os.toArray true).wp C.P Q) := fun a w r n =>
 wp_region_sch order hm hB hQ ((n.drew _ (Nat.le_succ _)).weak hw) (h a _ r (n.drew _ (Nat.le_succ _)))
theorem O_nilQ (h : St C F l rs (Q .normal)) : StQ C F ops Q [] l rq rs := h
theorem O_pureQ (ho : ops[i]? = some o) (hw : wantedE ops l o = true) (hd : o.dst = some d) (hn : Nat.blt d F.n = true) (hv : OpP C F l o v) (k : StQ C F ops Q rest ((d, v) :: l) rq rs) : StQ C F ops Q ((i, 0) :: rest) l rq rs := fun a w r n =>
 ⟨o, v, ho, fun S' => .inl ⟨wanted_of r hw, fun w' _ => hv a w' r⟩, by rw [hd]; exact k _ _ (r.put hn v) n⟩
theorem O_valQ (ho : ops[i]? = some o) (hw : wantedE ops l o = true) (hd : o.dst = some d) (hn : Nat.blt d F.n = true) (hv : OpV C F l rq o v) (k : StQ C F ops Q rest ((d, v) :: l) rq rs) : StQ C F ops Q ((i, 1) :: rest) l rq rs := fun a w r n =>
 ⟨o, v, ho, .inl ⟨wanted_of r hw, fun w' hw' => hv a w' r hw'⟩, by rw [hd]; exact k _ _ (r.put hn v) n⟩
theorem O_keepQ (ho : ops[i]? = some o) (hw : wantedE ops l o = true) (h : OpW C F l rs o (fun a w => ∃ S' : World → Prop, (∀ x, S' x → Now C F rq x) ∧ S' w ∧ wpSch C.P ops Q rest S' a w) Q) : StQ C F ops Q ((i, 2) :: rest) l rq rs := fun a w r n => by
 show wpOp C.P ops Q i _ a w
 unfold wpOp
 simp only [ho, wanted_of r hw, if_true]
 exact .inl (h a w r n)
theorem O_newQ (ho : ops[i]? = some o) (hw : wantedE ops l o = true) (h : OpW C F l rs o (fun a w => ∃ S' : World → Prop, S' w ∧ wpSch C.P ops Q rest S' a w) Q) : StQ C F ops Q ((i, 3) :: rest) l rq rs := fun a w r n => by
 show wpOp C.P ops Q i _ a w
 unfold wpOp
 simp only [ho, wanted_of r hw, if_true]
 exact .inl (h a w r n)
theorem K_keepQ {l2 : Env} (hw : Weak rs' rq) (k : StQ C F ops Q rest l2 rq rs') : St C F l2 rs' (fun a w => ∃ S' : World → Prop, (∀ x, S' x → Now C F rq x) ∧ S' w ∧ wpSch C.P ops Q rest S' a w) := fun a w r n => ⟨Now C F rq, fun _ h => h, n.weak hw, k a w r n⟩
theorem K_newQ {l2 : Env} (rq' : List HP) (hw : Weak rs' rq') (k : StQ C F ops Q rest l2 rq' rs') : St C F l2 rs' (fun a w => ∃ S' : World → Prop, S' w ∧ wpSch C.P ops Q rest S' a w) := fun a w r n => ⟨Now C F rq', n.weak hw, k a w r n⟩
/-! ### Two loud operations of which either may come first -/
inductive Sch where
 | nil
 | op (i k : Nat) (rest : Sch)
 | two (i j : Nat) (x y : Sch)
def Sch.all : Sch → List (Nat × Nat)
 | .nil => []
 | .op i k r => (i, k) :: r.all
 | .two i j x y => (i, 2) :: (j, 2) :: (x.all ++ y.all)
def Sch.len : Sch → Nat
 | .nil => 0
 | .op _ _ r => r.len + 1
 | .two _ _ x _ => x.len + 1
def goT (ops : Array Oper) (all : List (Nat × Nat)) : Sch → Array Bool → Bool
 | .nil, listed => (Region.ready .any ops listed).isEmpty
 | .op i k rest, listed => (Region.ready .any ops listed).contains i &&
  (bif Nat.ble k 1 then Region.free .any ops listed i && (Nat.beq k 0 || all.all fun jk => !(Nat.beq jk.2 3) || waits ops jk.1 i) else Region.ready .any ops listed == [i]) && goT ops all rest (listed.setIfInBounds i true)
 | .two i j x y, listed => (Region.ready .any ops listed == [i, j] || Region.ready .any ops listed == [j, i]) && Nat.beq x.len y.len && goT ops all x (listed.setIfInBounds i true) && goT ops all y (listed.setIfInBounds j true)
def schT (ops : Array Oper) (t : Sch) : Bool := Region.noSelect ops && Nat.beq t.len ops.size && goT ops t.all t (Array.replicate ops.size false)
def wpT (P : Program) (ops : Array Oper) (Q : Exit → Act → World → Prop) : Sch → (World → Prop) → Act → World → Prop
 | .nil, _, a, w => Q .normal a w
 | .op i 0 rest, S, a, w => ∃ o v, ops[i]? = some o ∧ (∀ S', Holds P ops S' o v a) ∧ wpT P ops Q rest S (a.put o.dst v) w
 | .op i 1 rest, S, a, w => ∃ o v, ops[i]? = some o ∧ Holds P ops S o v a ∧ wpT P ops Q rest S (a.put o.dst v) w
 | .op i 2 rest, S, a, w => wpOp P ops Q i (fun a' w' => ∃ S' : World → Prop, (∀ x, S' x → S x) ∧ S' w' ∧ wpT P ops Q rest S' a' w') a w
 | .op i 3 rest, _, a, w => wpOp P ops Q i (fun a' w' => ∃ S' : World → Prop, S' w' ∧ wpT P ops Q rest S' a' w') a w
 | .op _ _ _, _, _, _ => False
 | .two i j x y, S, a, w => wpOp P ops Q i (fun a' w' => ∃ S' : World → Prop, (∀ z, S' z → S z) ∧ S' w' ∧ wpT P ops Q x S' a' w') a w ∧ wpOp P ops Q j (fun a' w' => ∃ S' : World → Prop, (∀ z, S' z → S z) ∧ S' w' ∧ wpT P ops Q y S' a' w') a w
theorem wpT_sound {P : Program} {ops : Array Oper} {Q : Exit → Act → World → Prop} (hs : Region.noSelect ops = true) (hQ : ∀ d v c a w, Q (.panic c) (a.put d v) w → Q (.panic c) a w) (all : List (Nat × Nat)) :
  ∀ (t : Sch) (S : World → Prop) (listed : Array Bool) (a : Act) (w : World), (∀ x, x ∈ t.all → x ∈ all) → goT ops all t listed = true → Closed ops listed → S w → wpT P ops Q t S a w → wpAnyG P ops Q (newOf all) S t.len listed a w
 | .nil, S, listed, a, w, _, hB, _, _, h => ⟨by simpa [goT] using hB, h⟩
 | .two i j x y, S, listed, a, w, hall, hB, hcl, hS, h => by
  unfold goT at hB
  simp only [Bool.and_eq_true, Bool.or_eq_true] at hB
  obtain ⟨⟨⟨hr, hl⟩, hx⟩, hy⟩ := hB
  have hl := Nat.eq_of_beq_eq_true hl
  have hr' : ∀ m, m ∈ Region.ready .any ops listed → m = i ∨ m = j := fun m hm => by
   rcases hr with hr | hr
   ·rw [show Region.ready .any ops listed = [i, j] by simpa using hr] at hm; simpa using hm
   ·rw [show Region.ready .any ops listed = [j, i] by simpa using hr] at hm; simpa [or_comm] using hm
  have hne : Region.ready .any ops listed ≠ [] := fun e => by rcases hr with hr | hr <;> simp [e] at hr
  have hri : i ∈ Region.ready .any ops listed := by rcases hr with hr | hr <;> (rw [show Region.ready .any ops listed = _ by simpa using hr]; simp)
  have hrj : j ∈ Region.ready .any ops listed := by rcases hr with hr | hr <;> (rw [show Region.ready .any ops listed = _ by simpa using hr]; simp)
  refine ⟨fun h0 => absurd h0 hne, fun m hm => ?_⟩
  have ax : ∀ z, z ∈ x.all → z ∈ all := fun z hz => hall z (by unfold Sch.all; simp [hz])
  have ay : ∀ z, z ∈ y.all → z ∈ all := fun z hz => hall z (by unfold Sch.all; simp [hz])
  rcases hr' m hm with rfl | rfl
  ·exact wpOp_mono (fun a' w' ⟨S', hs', hS', hn⟩ => ⟨S', fun _ => hs', hS', wpT_sound hs hQ all x S' _ _ _ ax hx (hcl.list hri) hS' hn⟩) h.1
  ·exact wpOp_mono (fun a' w' ⟨S', hs', hS', hn⟩ => ⟨S', fun _ => hs', hS', by rw [hl]; exact wpT_sound hs hQ all y S' _ _ _ ay hy (hcl.list hrj) hS' hn⟩) h.2
 | .op i k rest, S, listed, a, w, hall, hB, hcl, hS, h => by
  unfold goT at hB
  simp only [Bool.and_eq_true] at hB
  obtain ⟨⟨hr, hk⟩, hB'⟩ := hB
  have hrest : ∀ z, z ∈ rest.all → z ∈ all := fun z hz => hall z (by unfold Sch.all; exact List.mem_cons_of_mem _ hz)
  have hhead : (i, k) ∈ all := hall _ (by unfold Sch.all; exact List.mem_cons_self)
  have hcl' := hcl.list (j := i) (by simpa using hr)
  match k, hk, h, hhead with
  | 0, hk, h, _ =>
   obtain ⟨o, v, ho, hy, hn⟩ := h
   simp only [Nat.ble, cond_true, Bool.and_eq_true] at hk
   exact wpAnyG_first ho (Region.noSelect_spec hs) (hQ _ _) (G := fun _ a => ∀ S', Holds P ops S' o v a) (fun S a g => g S) (fun S a a' g e1 e2 S' => (g S').of_same e1 e2) (fun _ _ _ g _ => g) (.inr fun _ _ _ g => g)
    rest.len S listed a w (Region.free_spec ho hk.1) hcl (by simpa using hr) hy hS (wpT_sound hs hQ all rest S _ _ _ hrest hB' hcl' hS hn)
  | 1, hk, h, _ =>
   obtain ⟨o, v, ho, hy, hn⟩ := h
   simp only [Nat.ble, cond_true, Bool.and_eq_true] at hk
   have hw : ∀ j, newOf all j = true → waits ops j i = true := fun j hj => by
    unfold newOf at hj
    obtain ⟨jk, hm, he⟩ := List.any_eq_true.1 hj
    simp only [Bool.and_eq_true] at he
    have h2 := hk.2
    simp only [Bool.or_eq_true] at h2
    rcases h2 with h2 | h2
    ·cases h2
    ·have h3 := List.all_eq_true.1 h2 jk hm
     simp only [he.2, Bool.not_true, Bool.false_or] at h3
     rwa [Nat.eq_of_beq_eq_true he.1] at h3
   exact wpAnyG_first ho (Region.noSelect_spec hs) (hQ _ _) (G := fun S a => Holds P ops S o v a) (fun S a g => g) (fun S a a' g e1 e2 => g.of_same e1 e2) (fun _ _ _ g l => g.weak l) (.inl hw)
    rest.len S listed a w (Region.free_spec ho hk.1) hcl (by simpa using hr) hy hS (wpT_sound hs hQ all rest S _ _ _ hrest hB' hcl' hS hn)
  | 2, hk, h, _ =>
   have hk' : Region.ready .any ops listed = [i] := by simpa [Nat.ble] using hk
   refine ⟨fun h0 => (by rw [hk'] at h0; cases h0), fun j hj => ?_⟩
   rw [hk'] at hj
   obtain rfl : j = i := by simpa using hj
   exact wpOp_mono (fun a' w' ⟨S', hs', hS', hn⟩ => ⟨S', fun _ => hs', hS', wpT_sound hs hQ all rest S' _ _ _ hrest hB' hcl' hS' hn⟩) h
  | 3, hk, h, hhead =>
   have hk' : Region.ready .any ops listed = [i] := by simpa [Nat.ble] using hk
   refine ⟨fun h0 => (by rw [hk'] at h0; cases h0), fun j hj => ?_⟩
   rw [hk'] at hj
   obtain rfl : j = i := by simpa using hj
   have hnw : newOf all j = true := by
    unfold newOf
    exact List.any_eq_true.2 ⟨(j, 3), hhead, by simp⟩
   exact wpOp_mono (fun a' w' ⟨S', hS', hn⟩ => ⟨S', fun hf => (by rw [hnw] at hf; cases hf), hS', wpT_sound hs hQ all rest S' _ _ _ hrest hB' hcl' hS' hn⟩) h
  | k + 4, hk, h, _ => exact h.elim
/-- The walk of such a region. -/
def StT (C : Cx) (F : Fx) (ops : Array Oper) (Q : Exit → Act → World → Prop) (t : Sch) (l : Env) (rs : List HP) : Prop := St C F l rs (wpT C.P ops Q t (Now C F rs))
theorem T_open {id : Nat} {os : List Oper} (t : Sch) (hm : C.P.follows .mixedOrders = true) (hB : schT os.toArray t = true) (hQ : QOk Q) (h : StT C F os.toArray Q t l rs) : St C F l rs ((Code.region id os.toArray true).wp C.P Q) := fun a w r n => by
 unfold schT at hB
 simp only [Bool.and_eq_true] at hB
 obtain ⟨⟨h1, h2⟩, h3⟩ := hB
 have h2 := Nat.eq_of_beq_eq_true h2
 refine wp_region_any hm ?_
 have key := wpT_sound h1 hQ t.all t (Now C F rs) (Array.replicate os.toArray.size false) a { w with drawn := w.drawn + 1 } (fun _ h => h) h3 (fun k o _ hk => by rw [getD_none] at hk; cases hk) (n.drew _ (Nat.le_succ _)) (h a _ r (n.drew _ (Nat.le_succ _)))
 rw [h2] at key
 exact wpAny_of_G (new := newOf t.all) _ _ _ _ _ key
theorem T_nil (h : St C F l rs (Q .normal)) : StT C F ops Q .nil l rs := h
variable {tt tx ty : Sch} {j : Nat}
theorem T_pure (ho : ops[i]? = some o) (hw : wantedE ops l o = true) (hd : o.dst = some d) (hn : Nat.blt d F.n = true) (hv : OpP C F l o v) (k : StT C F ops Q tt ((d, v) :: l) rs) : StT C F ops Q (.op i 0 tt) l rs := fun a w r n =>
 ⟨o, v, ho, fun S' => .inl ⟨wanted_of r hw, fun w' _ => hv a w' r⟩, by rw [hd]; exact k _ _ (r.put hn v) n⟩
theorem T_val (ho : ops[i]? = some o) (hw : wantedE ops l o = true) (hd : o.dst = some d) (hn : Nat.blt d F.n = true) (hv : OpV C F l rs o v) (k : StT C F ops Q tt ((d, v) :: l) rs) : StT C F ops Q (.op i 1 tt) l rs := fun a w r n =>
 ⟨o, v, ho, .inl ⟨wanted_of r hw, fun w' hw' => hv a w' r hw'⟩, by rw [hd]; exact k _ _ (r.put hn v) n⟩
theorem T_keep (ho : ops[i]? = some o) (hw : wantedE ops l o = true) (h : OpW C F l rs o (fun a w => ∃ S' : World → Prop, (∀ x, S' x → Now C F rs x) ∧ S' w ∧ wpT C.P ops Q tt S' a w) Q) : StT C F ops Q (.op i 2 tt) l rs := fun a w r n => by
 show wpOp C.P ops Q i _ a w
 unfold wpOp
 simp only [ho, wanted_of r hw, if_true]
 exact .inl (h a w r n)
theorem T_two (h1 : StT C F ops Q (.op i 2 tx) l rs) (h2 : StT C F ops Q (.op j 2 ty) l rs) : StT C F ops Q (.two i j tx ty) l rs := fun a w r n => ⟨h1 a w r n, h2 a w r n⟩
theorem K_keepT {l2 : Env} (hw : Weak rs' rs) (k : StT C F ops Q tt l2 rs') : St C F l2 rs' (fun a w => ∃ S' : World → Prop, (∀ x, S' x → Now C F rs x) ∧ S' w ∧ wpT C.P ops Q tt S' a w) := fun a w r n => ⟨Now C F rs', fun x nx => nx.weak hw, n, k a w r n⟩
theorem Sn.left {base : Option Addr} {cs ds : List Value} (s : Sn C F rs base (cs ++ ds)) : Sn C F rs base cs := by
 have := s.take cs.length
 rwa [List.take_left] at this
theorem Rds.sn {b j k : Nat} {cs us : List Value} (s : Sn C F rs (some ⟨b, j, none⟩) cs) (hu : ∀ (i : Nat) (v : Value), us[i]? = some v → cs[k + i]? = some v) : Rds C F rs ⟨b, j + k, none⟩ us := fun w n i v hv => by
 obtain ⟨ad, e, hc⟩ := s.rw_ w n (k + i) v (hu i v hv)
 rw [Option.some.injEq] at e
 subst e
 rw [add_zero_off] at hc ⊢
 rwa [Nat.add_assoc]
theorem St.openOwnF {K : Act → World → Prop} (p : List HP) {q : List HP} {T sz n : Nat} {v : Value} {cs : List Value} (hn : 0 < n) (h : ∀ b cap junk, n ≤ cap → cap ≤ maxLen → cap * sz ≤ (cs ++ junk).length → v = .slice (some ⟨b, 0, none⟩) n cap → St C F l (p ++ blk b (cs ++ junk) T :: q) K) :
  St C F l (p ++ ownS T sz v n cs :: q) K := by
 refine St.openAt (X := Nat × Nat × List Value) (s := fun x => fun hp => (n ≤ x.2.1 ∧ x.2.1 ≤ maxLen ∧ x.2.1 * sz ≤ (cs ++ x.2.2).length ∧ v = .slice (some ⟨x.1, 0, none⟩) n x.2.1) ∧ blk x.1 (cs ++ x.2.2) T hp) p (fun hp hx => ?_) fun x => ?_
 ·rcases hx.2 with ⟨_, h0, _⟩ | ⟨b, cap, junk, hv, hc, hm, hl, hb⟩
  ·omega
  ·exact ⟨(b, cap, junk), ⟨hc, hm, hl, hv⟩, hb⟩
 ·intro a w hr ⟨hp, hs, hm⟩
  obtain ⟨c, d, hc, ⟨u, v', ⟨⟨h1, h2, h3, h4⟩, hu⟩, hv, d1, rfl⟩, d2, rfl⟩ := Sep.append.1 hs
  exact h x.1 x.2.1 x.2.2 h1 h2 h3 h4 a w hr ⟨_, Sep.append.2 ⟨c, u.join v', hc, ⟨u, v', hu, hv, d1, rfl⟩, d2, rfl⟩, hm⟩
theorem splice_left (cs junk us : List Value) (o : Nat) (h : o + us.length ≤ cs.length) : splice (cs ++ junk) o us = splice cs o us ++ junk := by
 unfold splice
 rw [List.take_append_of_le_length (by omega), List.drop_append_of_le_length (by omega)]
 simp
end
end Go.Proofs.YtcngmkjdpoiiaaaGreatDoor

/- The twelfth part of the program logic: loops and joins that keep the rest of the environment as it is; piles of many slices. -/
namespace Go.Proofs.YtcngmkjdpoiiaaaGreatDoor
open Go Go.RowKit
theorem Env.get?_append (a b : Env) (t : Nat) : Env.get? (a ++ b) t = (Env.get? a t).or (Env.get? b t) := by
 induction a with
 | nil => simp [Env.get?]
 | cons x a ih =>
  obtain ⟨k, v⟩ := x
  have e1 : ∀ l, Env.get? ((k, v) :: l) t = bif Nat.beq k t then some v else Env.get? l t := fun _ => rfl
  rw [List.cons_append, e1, e1]
  cases Nat.beq k t
  ·simp only [cond_false]; exact ih
  ·simp
theorem EnvLe.append {l a b : Env} (ha : EnvLe l a) (hb : EnvLe l b) : EnvLe l (a ++ b) := fun t v h => by
 rw [Env.get?_append] at h
 cases e : Env.get? a t with
 | none => rw [e] at h; exact hb t v (by simpa using h)
 | some u => rw [e] at h; exact ha t v (by rw [e]; simpa using h)
theorem EnvLe.consE {l l' : Env} {t : Nat} {v v' : Value} (h : l.get? t = some v) (e : v = v') (hl : EnvLe l l') : EnvLe l ((t, v') :: l') := .cons (e ▸ h) hl
section
variable {C : Cx} {F : Fx} {l l0 : Env} {rs rs' : List HP} {K K' : Act → World → Prop}
theorem R_loopE {Q : Exit → Act → World → Prop} {c : Code} {G : Type} (hl0 : EnvLe l l0) (e : G → Env) (r : G → List HP) (inv : G → Prop) (m : G → Nat) (g : G) (hg : inv g) (he : EnvLe l (e g)) (hr : Weak rs (r g))
  (round : ∀ g, inv g → St C F (e g ++ l0) (r g) (c.wp C.P (Exit.then (fun a w => ∃ g', inv g' ∧ m g' < m g ∧ Rep F.n F.ds (e g' ++ l0) a ∧ Now C F (r g') w) Q))) : St C F l rs ((Code.loop c).wp C.P Q) :=
 R_loop (fun g => e g ++ l0) r inv m g hg (he.append hl0) hr round
theorem R_joinE {Q : Exit → Act → World → Prop} {G : Type} (hl0 : EnvLe l l0) (e : G → Env) (r : G → List HP) (inv : G → Prop) {x y : Code}
  (hx : St C F l rs (x.wp C.P (Exit.then (fun a w => ∃ g, inv g ∧ Rep F.n F.ds (e g ++ l0) a ∧ Now C F (r g) w) Q)))
  (hy : ∀ g, inv g → St C F (e g ++ l0) (r g) (y.wp C.P Q)) : St C F l rs ((Code.seq x y).wp C.P Q) := R_join (fun g => e g ++ l0) r inv hx hy
theorem R_joinE0 {Q : Exit → Act → World → Prop} {G : Type} (hl0 : EnvLe l l0) (e : G → Env) (inv : G → Prop) {x y : Code}
  (hx : St C F l rs (x.wp C.P (Exit.then (fun a w => ∃ g, inv g ∧ Rep F.n F.ds (e g ++ l0) a ∧ Now C F rs w) Q)))
  (hy : ∀ g, inv g → St C F (e g ++ l0) rs (y.wp C.P Q)) : St C F l rs ((Code.seq x y).wp C.P Q) := R_join (fun g => e g ++ l0) (fun _ => rs) inv hx hy
end
section
variable {C : Cx} {F : Fx} {l : Env} {rs rs' rq : List HP} {o : Oper} {Q : Exit → Act → World → Prop} {ops : Array Oper} {d i : Nat} {v : Value} {rest : List (Nat × Nat)} {tt : Sch}
theorem O_noX (ho : ops[i]? = some o) (hw : unwantedE ops l o = true) (hd : o.dst = some d) (hn : Nat.blt d F.n = true) (k : StO C F ops Q rest ((d, undef) :: l) rs) : StO C F ops Q ((i, 1) :: rest) l rs := fun a w r n =>
 ⟨o, undef, ho, .inr ⟨unwanted_of r hw, rfl⟩, by rw [hd]; exact k _ _ (r.put hn undef) n⟩
end
end Go.Proofs.YtcngmkjdpoiiaaaGreatDoor

/- The thirteenth part of the program logic: families of resources; slices that grow while what they grew from is still looked at. -/
namespace Go.Proofs.YtcngmkjdpoiiaaaGreatDoor
open Go Go.RowKit
/-- Separate resources, one for each of a list. -/
def fam {α : Type} (f : α → HP) (xs : List α) : HP := fun h => Sep (xs.map f) h
section
variable {α : Type} {f : α → HP} {rs : List HP}
theorem Weak.famNil : Weak rs (fam f [] :: rs) := fun h s => ⟨Heap.none.join h, ⟨Heap.none, h, rfl, s, Heap.disj_none h, rfl⟩, by rw [Heap.none_join]; exact Heap.Le.refl h⟩
theorem Weak.famJoin {xs ys : List α} : Weak (fam f xs :: fam f ys :: rs) (fam f (xs ++ ys) :: rs) := fun h s => by
 obtain ⟨x, y, hx, ⟨p, q, hp, hq, d1, rfl⟩, d2, rfl⟩ := s
 obtain ⟨d3, d4⟩ := Heap.disj_join.1 d2
 refine ⟨(x.join p).join q, ⟨x.join p, q, ?_, hq, Heap.join_disj.2 ⟨d4, d1⟩, rfl⟩, by rw [Heap.join_assoc]; exact Heap.Le.refl _⟩
 show Sep ((xs ++ ys).map f) _
 rw [List.map_append]
 exact Sep.append.2 ⟨x, p, hx, hp, d3, rfl⟩
theorem Weak.famPart {xs ys : List α} : Weak (fam f (xs ++ ys) :: rs) (fam f xs :: fam f ys :: rs) := fun h s => by
 obtain ⟨a, q, ha, hq, d, rfl⟩ := s
 have ha : Sep ((xs ++ ys).map f) a := ha
 rw [List.map_append] at ha
 obtain ⟨x, y, hx, hy, d1, rfl⟩ := Sep.append.1 ha
 obtain ⟨d3, d4⟩ := Heap.join_disj.1 d
 exact ⟨x.join (y.join q), ⟨x, y.join q, hx, ⟨y, q, hy, hq, d4, rfl⟩, Heap.disj_join.2 ⟨d1, d3⟩, rfl⟩, by rw [Heap.join_assoc]; exact Heap.Le.refl _⟩
theorem Weak.famOne {x : α} : Weak (f x :: rs) (fam f [x] :: rs) := fun h ⟨a, b, ha, hb, d, e⟩ => ⟨h, ⟨a, b, Sep.single.2 ha, hb, d, e⟩, Heap.Le.refl _⟩
theorem Weak.famThe {x : α} : Weak (fam f [x] :: rs) (f x :: rs) := fun h ⟨a, b, ha, hb, d, e⟩ => ⟨h, ⟨a, b, Sep.single.1 ha, hb, d, e⟩, Heap.Le.refl _⟩
theorem Weak.swap {a b : HP} : Weak (a :: b :: rs) (b :: a :: rs) := Weak.pick (p := [a]) (Weak.refl _)
theorem Weak.famAdd {x : α} {xs : List α} : Weak (f x :: fam f xs :: rs) (fam f (xs ++ [x]) :: rs) := Weak.swap.trans ((Weak.keep Weak.famOne).trans Weak.famJoin)
theorem list_split {l : List α} {i : Nat} {x : α} (h : l[i]? = some x) : l = l.take i ++ ([x] ++ l.drop (i + 1)) := by
 have hlt := (List.getElem?_eq_some_iff.1 h).1
 rw [List.getElem?_eq_getElem hlt, Option.some.injEq] at h
 rw [List.singleton_append, ← h, ← List.drop_eq_getElem_cons hlt, List.take_append_drop]
/-- One is taken out .. -/
theorem Weak.famOpen {xs : List α} {i : Nat} {x : α} (h : xs[i]? = some x) : Weak (fam f xs :: rs) (f x :: fam f (xs.take i) :: fam f (xs.drop (i + 1)) :: rs) := by
 have h2 : Weak (fam f xs :: rs) (fam f (xs.take i ++ ([x] ++ xs.drop (i + 1))) :: rs) := by rw [← list_split h]; exact Weak.refl _
 exact h2.trans (Weak.famPart.trans ((Weak.keep (Weak.famPart.trans Weak.famThe)).trans Weak.swap))
/-- .. and put back, changed. -/
theorem Weak.famClose {xs : List α} {i : Nat} {y : α} (h : i < xs.length) : Weak (f y :: fam f (xs.take i) :: fam f (xs.drop (i + 1)) :: rs) (fam f (xs.set i y) :: rs) := by
 have e : xs.set i y = xs.take i ++ ([y] ++ xs.drop (i + 1)) := by rw [List.set_eq_take_append_cons_drop, if_pos h]; rfl
 rw [e]
 exact Weak.swap.trans ((Weak.keep (Weak.famOne.trans Weak.famJoin)).trans Weak.famJoin)
end
section
variable {C : Cx} {F : Fx} {l : Env} {rs rs' : List HP} {K : Act → World → Prop} {o : Oper} {Q : Exit → Act → World → Prop} {d : Nat}
theorem Sn.fam {α : Type} {f : α → HP} {xs : List α} {i : Nat} {x : α} {base : Option Addr} {cs : List Value} (m : Has rs (fam f xs) (fam f xs) rs) (hx : xs[i]? = some x) (s : ∀ rs, Has rs (f x) (f x) rs → Sn C F rs base cs) : Sn C F rs base cs := fun w h hs mv j v hv => by
 obtain ⟨a, c, ha, dj, rfl, _⟩ := Sep.take m hs
 have ha : Sep (xs.map f) a := ha
 rw [list_split hx, List.map_append, List.map_append] at ha
 obtain ⟨a1, a2, h1, h2, d1, rfl⟩ := Sep.append.1 ha
 obtain ⟨a3, a4, h3, h4, d2, rfl⟩ := Sep.append.1 h2
 have h3 := Sep.single.1 h3
 obtain ⟨d3, d4⟩ := Heap.join_disj.1 dj
 obtain ⟨d5, d6⟩ := Heap.join_disj.1 d4
 obtain ⟨d7, d8⟩ := Heap.disj_join.1 d1
 have e : (a1.join (a3.join a4)).join c = a3.join ((a1.join a4).join c) := by
  rw [← Heap.join_assoc, ← Heap.join_assoc a3, ← Heap.join_assoc a3, Heap.join_comm d7]
 have hs2 : Sep [f x, fun k => k = (a1.join a4).join c] ((a1.join (a3.join a4)).join c) := ⟨a3, _, h3, Sep.single.2 rfl, Heap.disj_join.2 ⟨Heap.disj_join.2 ⟨d7.symm, d2⟩, d5⟩, e⟩
 exact s _ Has.h0 w _ hs2 mv j v hv
/-- A cell of an owned slice is written. -/
theorem W_storeOwn1 {t b c j T sz n : Nat} {x y : Operand} {v : Value} {cs : List Value} (ho : o.op = .store t x y) (hd : o.dst = none) (hx : ev l x = some (.pointer (some ⟨b, j, none⟩))) (hy : ev l y = some v) (ht : scB C.P t = true) (h1 : v.oneCell' = true)
  (m : Has rs (ownS T sz (.slice (some ⟨b, 0, none⟩) n c) n cs) (ownS T sz (.slice (some ⟨b, 0, none⟩) n c) n (cs.set j v)) rs') (hj : j < cs.length) (k : St C F l rs' K) : OpW C F l rs o K Q := fun a w r nw => by
 obtain ⟨h, s, mv⟩ := nw
 obtain ⟨xx, c', own, dj, rfl, back⟩ := Sep.take m s
 have hl := own.1
 rcases own.2 with ⟨_, hn0, _⟩ | ⟨b', cap, junk, e, hc, hm, hl2, fr, hf, rfl⟩
 ·rw [hl, hn0, Nat.zero_mul] at hj; omega
 ·simp only [Value.slice.injEq, Option.some.injEq, Addr.mk.injEq] at e
  obtain ⟨⟨rfl, _⟩, _, rfl⟩ := e
  have hblk := mv.sub b _ (Heap.le_join_left _ _ b _ (Heap.one_same _ _))
  obtain ⟨w', hr, p⟩ := run_store_blk (P := C.P) (j := j) hblk hf (by rw [List.length_append]; omega) h1
  have hcells : v.cells = #[v] := by cases v <;> first | rfl | (simp [Value.oneCell'] at h1)
  unfold Oper.wp
  have : (execOp a.eval o).run C.P w = .ok .skip w' := by
   simp [execOp, ho, Instr.storeAt, Instr.sureAddr, r.ev hx, r.ev hy, storeVar, (run_isAgg_sc ht w).2, hcells, storeCells, hr, add_zero_off]
  rw [this]
  show K (a.put o.dst undef) w'
  rw [hd]
  obtain ⟨djn, m3⟩ := mv.put dj p.os p.tape p.output p.drawn p.size p.at_ p.other
  have hsp : (cs ++ junk).set j v = cs.set j v ++ junk := List.set_append_left _ _ hj
  rw [hsp] at m3 djn
  refine k a w' r ⟨_, back _ ⟨by rw [List.length_set]; exact hl, .inr ⟨b, c, junk, rfl, hc, hm, ?_, ⟨fr, ?_, rfl⟩⟩⟩ djn, m3⟩
  ·rw [List.length_append, List.length_set, ← List.length_append]; exact hl2
  ·rw [List.length_append, List.length_set, ← List.length_append]; exact hf
/-- Cells of an owned slice are written, side by side. -/
theorem W_storeOwn {t b c j T sz n k2 : Nat} {x y : Operand} {vs cs : List Value} (ho : o.op = .store t x y) (hd : o.dst = none) (hx : ev l x = some (.pointer (some ⟨b, j, none⟩))) (hy : ev l y = some (.agg vs.toArray)) (ht : agB C.P t k2 = true) (hlv : vs.length = k2)
  (h1 : ∀ v ∈ vs, v.oneCell' = true) (m : Has rs (ownS T sz (.slice (some ⟨b, 0, none⟩) n c) n cs) (ownS T sz (.slice (some ⟨b, 0, none⟩) n c) n (splice cs j vs)) rs') (hj : j + vs.length ≤ cs.length) (k : St C F l rs' K) : OpW C F l rs o K Q := fun a w r nw => by
 obtain ⟨h, s, mv⟩ := nw
 obtain ⟨xx, c', own, dj, rfl, back⟩ := Sep.take m s
 have hl := own.1
 rcases own.2 with ⟨⟨b0, e⟩, hn0, rfl⟩ | ⟨b', cap, junk, e, hc, hm, hl2, fr, hf, rfl⟩
 ·rw [hl, hn0, Nat.zero_mul] at hj
  have hv0 : vs = [] := List.eq_nil_of_length_eq_zero (by omega)
  subst hv0
  have hj0 : j = 0 := by simpa using hj
  subst hj0
  subst hlv
  unfold Oper.wp
  have : (execOp a.eval o).run C.P w = .ok .skip w := by
   simp [execOp, ho, Instr.storeAt, Instr.sureAddr, r.ev hx, r.ev hy, storeVar, (run_isAgg_ag ht w).2, Value.cells, storeCells]
  rw [this]
  show K (a.put o.dst undef) w
  rw [hd]
  exact k a w r ⟨_, back _ ⟨by rw [splice_nil]; exact hl, .inl ⟨⟨b0, e⟩, hn0, rfl⟩⟩ dj, mv⟩
 ·simp only [Value.slice.injEq, Option.some.injEq, Addr.mk.injEq] at e
  obtain ⟨⟨rfl, _⟩, _, rfl⟩ := e
  have hblk := mv.sub b _ (Heap.le_join_left _ _ b _ (Heap.one_same _ _))
  obtain ⟨w', hr, p⟩ := run_storeCells_blk (P := C.P) (o := j) vs 0 (cs ++ junk) w hblk hf (by rw [List.length_append]; omega) h1
  subst hlv
  unfold Oper.wp
  have : (execOp a.eval o).run C.P w = .ok .skip w' := by
   simp [execOp, ho, Instr.storeAt, Instr.sureAddr, r.ev hx, r.ev hy, storeVar, (run_isAgg_ag ht w).2, Value.cells, hr]
  rw [this]
  show K (a.put o.dst undef) w'
  rw [hd]
  obtain ⟨djn, m3⟩ := mv.put dj p.os p.tape p.output p.drawn p.size p.at_ p.other
  have hsp : splice (cs ++ junk) (j + 0) vs = splice cs j vs ++ junk := splice_left cs junk vs j hj
  rw [hsp] at m3 djn
  have hls := length_splice cs j vs hj
  refine k a w' r ⟨_, back _ ⟨by rw [hls]; exact hl, .inr ⟨b, c, junk, rfl, hc, hm, ?_, ⟨fr, ?_, rfl⟩⟩⟩ djn, m3⟩
  ·rw [List.length_append, hls, ← List.length_append]; exact hl2
  ·rw [List.length_append, hls, ← List.length_append]; exact hf
end
theorem Sep.map {α β : Type} {f : α → HP} {g : β → HP} {c : α → β} : ∀ {xs : List α} {h : Heap}, (∀ x ∈ xs, ∀ h, f x h → g (c x) h) → Sep (xs.map f) h → Sep ((xs.map c).map g) h
 | [], _, _, s => s
 | x :: xs, _, hh, ⟨a, b, ha, hb, d, e⟩ => ⟨a, b, hh x (by simp) a ha, Sep.map (xs := xs) (fun y hy => hh y (by simp [hy])) hb, d, e⟩
section
variable {C : Cx} {F : Fx} {l : Env} {rs rs' : List HP} {K : Act → World → Prop}
theorem rd_own1 {T sz n cap b i : Nat} {cs : List Value} {u : Value} (m : Has rs (ownS T sz (.slice (some ⟨b, 0, none⟩) n cap) n cs) (ownS T sz (.slice (some ⟨b, 0, none⟩) n cap) n cs) rs) (hu : cs[i]? = some u) : Rd C F rs ⟨b, 0 + i * 1, none⟩ u := by
 rw [Nat.zero_add, Nat.mul_one]; exact Rd.own m hu
end
/-- .. and put back as it was. -/
theorem Weak.famShut {α : Type} {f : α → HP} {rs : List HP} {xs : List α} {i : Nat} {x : α} (h : xs[i]? = some x) : Weak (f x :: fam f (xs.take i) :: fam f (xs.drop (i + 1)) :: rs) (fam f xs :: rs) := by
 have hlt := (List.getElem?_eq_some_iff.1 h).1
 have e : xs.set i x = xs := by
  rw [List.getElem?_eq_getElem hlt, Option.some.injEq] at h
  rw [← h]; exact List.set_getElem_self hlt
 have := Weak.famClose (f := f) (rs := rs) (y := x) hlt
 rwa [e] at this
end Go.Proofs.YtcngmkjdpoiiaaaGreatDoor

/- How arguments of whatever plain type are read: combinators over the type's make. -/
namespace Go.Proofs.YtcngmkjdpoiiaaaGreatDoor
open Go Go.RowKit Go.ChangeShapes Go.WideShapes

theorem bulk_one {H : Type} (d : DataW H) : 1 ≤ Rows.uptoBulk d := by
 cases d with
 | lit l => cases l <;> simp [Rows.uptoBulk]
 | nil => simp [Rows.uptoBulk]
 | ptr d => simp [Rows.uptoBulk]
 | slice elems spare => simp [Rows.uptoBulk]
 | agg parts => simp [Rows.uptoBulk]
 | iface t d => simp [Rows.uptoBulk]
 | map entries => simp [Rows.uptoBulk]
 | held h => simp [Rows.uptoBulk]
/-- A slice: its base, its room, what its elements are. -/
structure Sl (α : Type) where
 b : Option Addr
 c : Nat
 xs : List α
def Sl.val {α : Type} (s : Sl α) : Value := .slice s.b s.xs.length s.c
/-- Cells of type t are read as an α. -/
def Reads (P : Program) (t : TypeId) {α : Type} (cells : α → List Value) (Hd : World → α → Prop) (bulk : α → Nat) (Small : α → Prop) : Prop :=
 ∀ (H : Type) (enc : TypeId × Value → H) (W : World) (hd : Bool) (fuel : Nat) (cs : List Value) (x : DataW H × List MemPlace), DataW.trod enc P W 0 (fun _ => true) hd fuel t cs = some x →
  ∃ a, cs = cells a ∧ Hd W a ∧ bulk a ≤ Rows.uptoBulk x.1 ∧ ((∀ m ∈ DataW.weights P t x.1, m ≤ reachBytes) → Small a)
theorem fits_of_wf {k : IntKind} {z : Int} (h : (Lit.int k z).wf = true) : fits k z := by
 cases k <;> simp [Lit.wf, IntKind.min, IntKind.max, IntKind.signed, IntKind.bits] at h <;> simp only [fits] <;> omega
section
variable {P : Program}
theorem Reads.int {t : TypeId} {k : IntKind} (ht : P.underlying t = some (.int k)) : Reads P t (fun z : Int => [.int k z]) (fun _ z => fits k z) (fun _ => 1) (fun _ => True) := fun H enc W hd fuel cs x h => by
 obtain ⟨z, e1, e2, e3⟩ := DataW.trod_int ht h
 exact ⟨z, e1, fits_of_wf e3, bulk_one _, fun _ => trivial⟩
theorem Reads.bool {t : TypeId} (ht : P.underlying t = some .bool) : Reads P t (fun z : Bool => [.bool z]) (fun _ z => True) (fun _ => 1) (fun _ => True) := fun H enc W hd fuel cs x h => by
 obtain ⟨z, e1, e2⟩ := DataW.trod_bool ht h
 exact ⟨z, e1, trivial, bulk_one _, fun _ => trivial⟩
theorem str_nums (s : ByteArray) : ∃ xs : List Int, IsB xs ∧ s = strOfNums xs ∧ xs.length = s.size := by
 refine ⟨s.data.toList.map fun c => (c.toNat : Int), fun x hx => ?_, ?_, by rw [List.length_map, Array.length_toList]; rfl⟩
 ·obtain ⟨c, _, rfl⟩ := List.mem_map.1 hx
  have := c.toNat_lt; omega
 ·apply ByteArray.ext
  apply Array.ext'
  rw [strOfNums_data, List.map_map]
  have : (fun n : Int => UInt8.ofNat n.toNat) ∘ (fun c : UInt8 => (c.toNat : Int)) = id := by funext c; simp
  rw [this, List.map_id]
theorem Reads.string {t : TypeId} (ht : P.underlying t = some .string) : Reads P t (fun z : List Int => [.string (strOfNums z)]) (fun _ z => IsB z ∧ z.length ≤ maxLen) (fun z => z.length + 1) (fun z => z.length ≤ reachBytes) := fun H enc W hd fuel cs x h => by
 obtain ⟨s, e1, e2, e3⟩ := DataW.trod_string ht h
 obtain ⟨xs, h1, h2, h3⟩ := str_nums s
 refine ⟨xs, by rw [e1, h2], ⟨h1, by omega⟩, ?_, fun hm => ?_⟩
 ·rw [e2]
  simp only [Rows.uptoBulk]
  have : s.data.toList.length = s.size := by rw [Array.length_toList]; rfl
  omega
 ·have := hm s.data.toList.length (by rw [e2]; simp [DataW.weights])
  have h4 : s.data.toList.length = s.size := by rw [Array.length_toList]; rfl
  omega
theorem list_choice' {α : Type} {Q : Nat → α → Prop} : ∀ n, (∀ i, i < n → ∃ p, Q i p) → ∃ l : List α, l.length = n ∧ ∀ i p, l[i]? = some p → Q i p
 | 0, _ => ⟨[], rfl, fun _ _ h => by cases h⟩
 | n + 1, h => by
  obtain ⟨l, hl, hp⟩ := list_choice' n fun i hi => h i (by omega)
  obtain ⟨p, hpp⟩ := h n (by omega)
  refine ⟨l ++ [p], by simp [hl], fun i q hq => ?_⟩
  by_cases hi : i < n
  ·rw [List.getElem?_append_left (by omega)] at hq; exact hp i q hq
  ·rw [List.getElem?_append_right (by omega)] at hq
   have : i = n := by
    have := (List.getElem?_eq_some_iff.1 hq).1
    simp at this; omega
   subst this
   simp [hl] at hq
   rw [← hq]; exact hpp
/-! ### Rows of things of one size -/
section
variable {α : Type} {g : α → List Value} {n : Nat} {xs : List α} (h : ∀ x ∈ xs, (g x).length = n)
include h
theorem rows_length : (xs.flatMap g).length = xs.length * n := by
 induction xs with
 | nil => simp
 | cons x xs ih => rw [List.flatMap_cons, List.length_append, h x (by simp), ih (fun y hy => h y (by simp [hy])), List.length_cons, Nat.add_mul]; omega
theorem rows_drop (p : Nat) : (xs.flatMap g).drop (p * n) = (xs.drop p).flatMap g := by
 induction xs generalizing p with
 | nil => simp
 | cons x xs ih =>
  cases p with
  | zero => simp
  | succ p =>
   have hx := h x (by simp)
   rw [List.flatMap_cons, Nat.add_mul, Nat.one_mul, Nat.add_comm, ← hx, List.drop_length_add_append, hx, ih (fun y hy => h y (by simp [hy])), List.drop_succ_cons]
theorem rows_take (p : Nat) : (xs.flatMap g).take (p * n) = (xs.take p).flatMap g := by
 induction xs generalizing p with
 | nil => simp
 | cons x xs ih =>
  cases p with
  | zero => simp
  | succ p =>
   have hx := h x (by simp)
   rw [List.flatMap_cons, Nat.add_mul, Nat.one_mul, Nat.add_comm, ← hx, List.take_length_add_append, hx, ih (fun y hy => h y (by simp [hy])), List.take_succ_cons, List.flatMap_cons]
theorem rows_at {i : Nat} {x : α} (hi : xs[i]? = some x) (j : Nat) (v : Value) (hj : (g x)[j]? = some v) : (xs.flatMap g)[i * n + j]? = some v := by
 rw [← List.getElem?_drop, rows_drop h]
 have : xs.drop i = x :: xs.drop (i + 1) := by
  have hlt := (List.getElem?_eq_some_iff.1 hi).1
  rw [List.drop_eq_getElem_cons hlt]
  rw [List.getElem?_eq_getElem hlt, Option.some.injEq] at hi
  rw [hi]
 rw [this, List.flatMap_cons, List.getElem?_append_left (List.getElem?_eq_some_iff.1 hj).1]
 exact hj
theorem rows_splice {i : Nat} {x : α} (hi : i < xs.length) (hx : (g x).length = n) : splice (xs.flatMap g) (i * n) (g x) = (xs.set i x).flatMap g := by
 unfold splice
 rw [hx, rows_take h, show i * n + n = (i + 1) * n by rw [Nat.add_mul, Nat.one_mul], rows_drop h, List.set_eq_take_append_cons_drop, if_pos hi, List.flatMap_append, List.flatMap_cons, List.append_assoc]
theorem rows_set {i j : Nat} {x y : α} {v : Value} (hi : xs[i]? = some x) (hj : j < n) (hy : g y = (g x).set j v) : (xs.flatMap g).set (i * n + j) v = (xs.set i y).flatMap g := by
 have hlt := (List.getElem?_eq_some_iff.1 hi).1
 have hx := h x (List.mem_of_getElem? hi)
 have hgy : (g y).length = n := by rw [hy, List.length_set]; exact hx
 rw [← rows_splice h hlt hgy]
 apply List.ext_getElem?
 intro k
 have hl := rows_length h
 have hmul : (i + 1) * n ≤ xs.length * n := Nat.mul_le_mul_right n hlt
 rw [Nat.add_mul, Nat.one_mul] at hmul
 unfold splice
 rw [List.getElem?_set]
 by_cases hk1 : k < i * n
 ·rw [if_neg (by omega), List.append_assoc, List.getElem?_append_left (by rw [List.length_take]; omega), List.getElem?_take, if_pos hk1]
 ·by_cases hk2 : k < i * n + n
  ·rw [List.append_assoc, List.getElem?_append_right (by rw [List.length_take]; omega), List.length_take, Nat.min_eq_left (by omega), List.getElem?_append_left (by omega), hy, List.getElem?_set]
   by_cases e : i * n + j = k
   ·rw [if_pos e, if_pos (by omega), if_pos (by omega), if_pos (by omega)]
   ·rw [if_neg e, if_neg (by omega)]
    have h2 := rows_at h hi (k - i * n) _ (List.getElem?_eq_getElem (by omega))
    rw [show i * n + (k - i * n) = k by omega] at h2
    rw [h2, List.getElem?_eq_getElem]
  ·rw [if_neg (by omega), List.getElem?_append_right (by rw [List.length_append, List.length_take]; omega), List.length_append, List.length_take, Nat.min_eq_left (by omega), List.getElem?_drop, hgy]
   congr 1; omega
end
theorem rows_one {α : Type} {g : α → List Value} {xs : List α} (h : ∀ x ∈ xs, ∀ v ∈ g x, v.oneCell' = true) : ∀ v ∈ xs.flatMap g, v.oneCell' = true := fun v hv => by
 obtain ⟨x, hx, hv⟩ := List.mem_flatMap.1 hv
 exact h x hx v hv
section
variable {α : Type} {cells : α → List Value} {Hd : World → α → Prop} {bulk : α → Nat} {Small : α → Prop}
theorem bulkAll_le {H : Type} : ∀ (l : List α) (ys : List (DataW H)), ys.length = l.length → (∀ (i : Nat) (a : α) (y : DataW H), l[i]? = some a → ys[i]? = some y → bulk a ≤ Rows.uptoBulk y) → (l.map bulk).sum ≤ Rows.uptoBulkAll ys
 | [], _, _, _ => Nat.zero_le _
 | a :: l, [], h, _ => by cases h
 | a :: l, y :: ys, h, hh => by
  have h1 := hh 0 a y rfl rfl
  have h2 := bulkAll_le l ys (by simpa using h) fun i a y ha hy => hh (i + 1) a y ha hy
  simp only [List.map_cons, List.sum_cons, Rows.uptoBulkAll]; omega
theorem weights_mem_all {H : Type} {e : TypeId} : ∀ {ds : List (DataW H)} {d : DataW H}, d ∈ ds → ∀ m ∈ DataW.weights P e d, m ∈ DataW.weightsAll P e ds
 | d0 :: ds, d, hd, m, hm => by
  simp only [DataW.weightsAll, List.mem_append]
  rcases List.mem_cons.1 hd with rfl | hd
  ·exact .inl hm
  ·exact .inr (weights_mem_all hd m hm)
theorem Reads.slice {t e sz by_ : Nat} (ht : slB P t e sz by_ = true) (hc : P.cellsOf e = sz) (hb : P.bytesOf e = by_) (hsz : ∀ a, (cells a).length = sz ∨ True) (r : Reads P e cells Hd bulk Small) :
  Reads P t (fun s : Sl α => [.slice s.b s.xs.length s.c]) (fun W s => s.xs.length ≤ s.c ∧ s.c ≤ maxLen ∧ Row W s.b (s.xs.flatMap cells) ∧ (∀ x ∈ s.xs, Hd W x ∧ (cells x).length = sz)) (fun s => (s.xs.map bulk).sum + 1) (fun s => s.xs.length * by_ ≤ reachBytes ∧ ∀ x ∈ s.xs, Small x) := fun H enc W hd fuel cs x h => by
 rcases DataW.trod_slice (slB_spec ht).1 h with ⟨e1, e2⟩ | ⟨a, len, cap, elems, rest, n, _, e1, hx, _, hlc, hcm, hlen, hel, _, _⟩
 ·exact ⟨⟨none, 0, []⟩, e1, ⟨Nat.le_refl _, Nat.zero_le _, Row.nil, fun _ h => by cases h⟩, bulk_one _, fun _ => ⟨by simp, fun _ h => by cases h⟩⟩
 ·obtain ⟨l, hl, hp⟩ := list_choice' (Q := fun i (p : α) => ∃ y, elems[i]? = some y ∧ (cells p).length = sz ∧ (∀ (j : Nat) (v : Value), (cells p)[j]? = some v → W.cell? ((a.add (i * sz)).add j) = some v) ∧ Hd W p ∧ bulk p ≤ Rows.uptoBulk y.1 ∧ ((∀ m ∈ DataW.weights P e y.1, m ≤ reachBytes) → Small p)) len fun i hi => by
   have h1 := hel i hi
   rw [hc, List.getElem?_eq_getElem (by omega)] at h1
   obtain ⟨us, hus, htr⟩ := Option.bind_eq_some_iff.1 h1
   obtain ⟨_, hl1, hc1⟩ := World.cells?_some hus
   obtain ⟨p, q1, q2, q3, q4⟩ := r H enc W hd n us _ htr
   refine ⟨p, _, List.getElem?_eq_getElem (by omega), by rw [← q1]; exact hl1, fun j v hv => ?_, q2, q3, q4⟩
   rw [← q1] at hv
   have hj := (List.getElem?_eq_some_iff.1 hv).1
   have := hc1 j (by omega)
   rw [this, ← hv]
  have hx9 := hx
  have hlen2 : ∀ x ∈ l, (cells x).length = sz := fun x hx => by
   obtain ⟨i, hi, e⟩ := List.mem_iff_getElem.1 hx
   obtain ⟨y, _, h2, _⟩ := hp i x (by rw [List.getElem?_eq_getElem hi, e])
   exact h2
  refine ⟨⟨some a, cap, l⟩, by rw [e1]; show _ = [Value.slice (some a) l.length cap]; rw [hl], ⟨by show l.length ≤ cap; omega, hcm, fun j v hv => ⟨a, rfl, ?_⟩, fun x hx => ?_⟩, ?_, fun hm => ⟨?_, fun x hx => ?_⟩⟩
  ·have hj := (List.getElem?_eq_some_iff.1 hv).1
   have hv : (l.flatMap cells)[j]? = some v := hv
   have hj : j < (l.flatMap cells).length := hj
   rw [rows_length hlen2] at hj
   have hs0 : 0 < sz := Nat.pos_of_ne_zero fun e => by subst e; simp at hj
   have hi : j / sz < l.length := by rw [Nat.div_lt_iff_lt_mul hs0]; exact hj
   obtain ⟨y, _, h2, h3, _⟩ := hp (j / sz) _ (List.getElem?_eq_getElem hi)
   have hm2 : j % sz < (cells l[j / sz]).length := by rw [h2]; exact Nat.mod_lt _ hs0
   have h4 := rows_at hlen2 (List.getElem?_eq_getElem hi) (j % sz) _ (List.getElem?_eq_getElem hm2)
   have e : j / sz * sz + j % sz = j := by rw [Nat.mul_comm]; exact Nat.div_add_mod j sz
   rw [e, hv] at h4
   have h5 := h3 (j % sz) _ (List.getElem?_eq_getElem hm2)
   have e5 : (a.add (j / sz * sz)).add (j % sz) = a.add j := by
    have : (a.add (j / sz * sz)).add (j % sz) = a.add (j / sz * sz + j % sz) := by
     unfold Addr.add
     by_cases h1 : j / sz * sz = 0 <;> by_cases h2 : j % sz = 0 <;> simp [h1, h2, Nat.add_assoc]
    rw [this, e]
   rw [e5] at h5
   rw [h5, h4]
  ·obtain ⟨i, hi, e⟩ := List.mem_iff_getElem.1 hx
   obtain ⟨y, _, _, _, h4, _⟩ := hp i x (by rw [List.getElem?_eq_getElem hi, e])
   exact ⟨h4, hlen2 x hx⟩
  ·rw [hx]
   simp only [Rows.uptoBulk]
   have := bulkAll_le (bulk := bulk) l (elems.map (·.1)) (by simp [hlen, hl]) fun i p y hpi hy => by
    obtain ⟨y2, h1, _, _, _, h5, _⟩ := hp i p hpi
    rw [List.getElem?_map, h1] at hy
    obtain rfl := Option.some.inj hy
    exact h5
   show (l.map bulk).sum + 1 ≤ _
   omega
  ·have := hm ((elems.length + rest.length) * by_) (by rw [hx]; simp [DataW.weights, (slB_spec ht).1, hb])
   have h2 : l.length * by_ ≤ (elems.length + rest.length) * by_ := Nat.mul_le_mul_right _ (by omega)
   show l.length * by_ ≤ _
   omega
  ·obtain ⟨i, hi, e⟩ := List.mem_iff_getElem.1 hx
   obtain ⟨y, h1, _, _, _, _, h6⟩ := hp i x (by rw [List.getElem?_eq_getElem hi, e])
   refine h6 fun m hm2 => hm m ?_
   rw [hx9]
   simp only [DataW.weights, (slB_spec ht).1, List.mem_cons, List.mem_append]
   exact .inr (.inl (weights_mem_all (List.mem_map.2 ⟨y, List.mem_of_getElem? h1, rfl⟩) m hm2))
theorem Reads.as {t : TypeId} {β : Type} {cells' : β → List Value} {Hd' : World → β → Prop} {bulk' : β → Nat} {Small' : β → Prop} (f : α → β) (r : Reads P t cells Hd bulk Small) (h1 : ∀ a, cells a = cells' (f a)) (h2 : ∀ W a, Hd W a → Hd' W (f a)) (h3 : ∀ a, bulk' (f a) ≤ bulk a) (h4 : ∀ a, Small a → Small' (f a)) : Reads P t cells' Hd' bulk' Small' := fun H enc W hd fuel cs x h => by
 obtain ⟨a, e1, e2, e3, e4⟩ := r H enc W hd fuel cs x h
 exact ⟨f a, by rw [e1, h1], h2 W a e2, Nat.le_trans (h3 a) e3, fun hm => h4 a (e4 hm)⟩
end
/-! ### Arrays of whole numbers -/
theorem Reads.ints {t e n : Nat} {k : IntKind} (ht : P.underlying t = some (.array n e)) (he : P.underlying e = some (.int k)) (hc : P.cellsOf e = 1) (hct : P.cellsOf t = n) : Reads P t (fun zs : List Int => Go.Proofs.YtcngmkjdpoiiaaaGreatDoor.ints k zs) (fun _ zs => zs.length = n ∧ ∀ z ∈ zs, fits k z) (fun _ => 1) (fun _ => True) := fun H enc W hd fuel cs x h => by
 obtain ⟨zs, e1, e2, e3, e4⟩ := open_intArr ht he hc hct h
 exact ⟨zs, e1, ⟨e2, fun z hz => fits_of_wf (e4 z hz)⟩, bulk_one _, fun _ => trivial⟩
/-! ### Structs -/
/-- A struct's fields: type, place, size. -/
def fsB (P : Program) (t : TypeId) (ds : List (Nat × Nat × Nat)) : Bool := match P.underlying t with
 | some (.struct fs) => fs.toList.map (fun f => (f.type, f.offset, P.cellsOf f.type)) == ds
 | _ => false
def ReadsF (P : Program) (ds : List (Nat × Nat × Nat)) (o tot : Nat) {α : Type} (cells : α → List Value) (Hd : World → α → Prop) (bulk : α → Nat) (Small : α → Prop) : Prop :=
 ∀ (H : Type) (enc : TypeId × Value → H) (W : World) (hd : Bool) (n : Nat) (cs : List Value) (xs : List (DataW H × List MemPlace)), cs.length = tot → xs.length = ds.length →
  (∀ (i : Nat) (d : Nat × Nat × Nat), ds[i]? = some d → DataW.trod enc P W 0 (fun _ => true) hd n d.1 ((cs.drop d.2.1).take d.2.2) = xs[i]?) →
  ∃ a, cs.drop o = cells a ∧ Hd W a ∧ bulk a ≤ Rows.uptoBulkAll (xs.map (·.1)) ∧ ((∀ m ∈ DataW.weightsEach P (ds.map (·.1)) (xs.map (·.1)), m ≤ reachBytes) → Small a)
theorem ReadsF.nil {tot : Nat} : ReadsF P [] tot tot (fun _ : Unit => []) (fun _ _ => True) (fun _ => 0) (fun _ => True) := fun H enc W hd n cs xs h1 h2 h3 =>
 ⟨(), List.drop_eq_nil_of_le (by omega), trivial, Nat.zero_le _, fun _ => trivial⟩
section
variable {α β : Type} {ca : α → List Value} {Ha : World → α → Prop} {ba : α → Nat} {Sa : α → Prop} {cb : β → List Value} {Hb : World → β → Prop} {bb : β → Nat} {Sb : β → Prop}
theorem ReadsF.cons {t o s tot : Nat} {ds : List (Nat × Nat × Nat)} (r : Reads P t ca Ha ba Sa) (rs : ReadsF P ds (o + s) tot cb Hb bb Sb) :
  ReadsF P ((t, o, s) :: ds) o tot (fun x : α × β => ca x.1 ++ cb x.2) (fun W x => (Ha W x.1 ∧ (ca x.1).length ≤ s) ∧ Hb W x.2) (fun x => ba x.1 + bb x.2) (fun x => Sa x.1 ∧ Sb x.2) := fun H enc W hd n cs xs h1 h2 h3 => by
 cases xs with
 | nil => cases h2
 | cons x xs =>
  have h0 := h3 0 _ rfl
  obtain ⟨a, e1, e2, e3, e4⟩ := r H enc W hd n _ x h0
  obtain ⟨b, f1, f2, f3, f4⟩ := rs H enc W hd n cs xs h1 (by simpa using h2) fun i d hd => h3 (i + 1) d hd
  refine ⟨(a, b), ?_, ⟨⟨e2, by rw [← e1, List.length_take]; exact Nat.min_le_left _ _⟩, f2⟩, ?_, fun hm => ⟨e4 fun m hm2 => hm m ?_, f4 fun m hm2 => hm m ?_⟩⟩
  ·show cs.drop o = ca a ++ cb b
   have e1 : (cs.drop o).take s = ca a := e1
   rw [← e1, ← f1, ← List.drop_drop, List.take_append_drop]
  ·simp only [List.map_cons, Rows.uptoBulkAll]; omega
  ·simp only [List.map_cons, DataW.weightsEach, List.mem_append]; exact .inl hm2
  ·simp only [List.map_cons, DataW.weightsEach, List.mem_append]; exact .inr hm2
theorem Reads.struct {t tot : Nat} {ds : List (Nat × Nat × Nat)} (ht : fsB P t ds = true) (hc : P.cellsOf t = tot) (rs : ReadsF P ds 0 tot ca Ha ba Sa) : Reads P t ca (fun W a => Ha W a ∧ (ca a).length = tot) (fun a => ba a + 1) Sa := fun H enc W hd fuel cs x h => by
 unfold fsB at ht
 split at ht
 ·rename_i fs hfs
  have hds : fs.toList.map (fun f => (f.type, f.offset, P.cellsOf f.type)) = ds := by simpa using ht
  obtain ⟨xs, n, _, hx, hl, hxl, hel⟩ := DataW.trod_struct hfs h
  obtain ⟨a, e1, e2, e3, e4⟩ := rs H enc W hd n cs xs (by rw [hl, hc]) (by rw [← hds, List.length_map, hxl]; simp) fun i d hd2 => by
   rw [← hds, List.getElem?_map] at hd2
   obtain ⟨f, hf, rfl⟩ := Option.map_eq_some_iff.1 hd2
   exact hel i f (by simpa using hf)
  rw [List.drop_zero] at e1
  refine ⟨a, e1, ⟨e2, by rw [← e1, hl, hc]⟩, ?_, fun hm => e4 fun m hm2 => hm m ?_⟩
  ·rw [hx]; simp only [Rows.uptoBulk]; omega
  ·rw [hx]
   simp only [DataW.weights, hfs]
   have : fs.toList.map (·.type) = ds.map (·.1) := by rw [← hds, List.map_map]; rfl
   rw [this]; exact hm2
 ·cases ht
end
/-! ### Arguments -/
section
variable {α : Type} {cells : α → List Value} {Hd : World → α → Prop} {bulk : α → Nat} {Small : α → Prop} {H : Type} {enc : TypeId × Value → H} {W : World} {hd : Bool} {base : Nat} {rr : Reach}
theorem Reads.arg {t : TypeId} {v : Value} {d : DataW H} {ps : List MemPlace} (r : Reads P t cells Hd bulk Small) (h : DataW.Trod enc P W 0 (fun _ => true) hd t v d ps) :
  ∃ a, v.cells.toList = cells a ∧ Hd W a ∧ bulk a ≤ Rows.uptoBulk d ∧ ∀ (ts : List TypeId) (ds : List (DataW H)) (j : Nat), (DataW.weightsEach P ts ds).all (· ≤ reachBytes) = true → ts[j]? = some t → ds[j]? = some d → Small a := by
 obtain ⟨fuel, hf⟩ := h
 obtain ⟨a, e1, e2, e3, e4⟩ := r H enc W hd fuel _ _ hf
 exact ⟨a, e1, e2, e3, fun ts ds j hall ht hd' => e4 fun m hm => of_decide_eq_true (List.all_eq_true.1 hall _ (DataW.weights_mem_each ht hd' m hm))⟩
theorem Reads.argSlice {t e : TypeId} {v : Value} {d : DataW H} {ps : List MemPlace} {Hs : World → Sl α → Prop} {bs : Sl α → Nat} {Ss : Sl α → Prop} (r : Reads P t (fun s : Sl α => [.slice s.b s.xs.length s.c]) Hs bs Ss) (ht : P.underlying t = some (.slice e)) (hv : Value.okWide P W rr base t v) (h : DataW.Trod enc P W 0 (fun _ => true) hd t v d ps) :
  ∃ s : Sl α, v = s.val ∧ Hs W s ∧ bs s ≤ Rows.uptoBulk d ∧ ∀ (ts : List TypeId) (ds : List (DataW H)) (j : Nat), (DataW.weightsEach P ts ds).all (· ≤ reachBytes) = true → ts[j]? = some t → ds[j]? = some d → Ss s := by
 obtain ⟨a0, n0, c0, rfl⟩ := okWide_slice ht hv
 obtain ⟨s, e1, e2⟩ := r.arg h
 have e1 : [Value.slice a0 n0 c0] = [Value.slice s.b s.xs.length s.c] := e1
 simp only [List.cons.injEq, and_true] at e1
 exact ⟨s, e1, e2⟩
theorem Reads.argStruct {t : TypeId} {fs : Array Field} {v : Value} {d : DataW H} {ps : List MemPlace} (r : Reads P t cells Hd bulk Small) (ht : P.underlying t = some (.struct fs)) (hv : Value.okWide P W rr base t v) (h : DataW.Trod enc P W 0 (fun _ => true) hd t v d ps) :
  ∃ a, v = .agg (cells a).toArray ∧ Hd W a ∧ bulk a ≤ Rows.uptoBulk d ∧ ∀ (ts : List TypeId) (ds : List (DataW H)) (j : Nat), (DataW.weightsEach P ts ds).all (· ≤ reachBytes) = true → ts[j]? = some t → ds[j]? = some d → Small a := by
 obtain ⟨arr, rfl, _⟩ := okWide_struct ht hv
 obtain ⟨a, e1, e2⟩ := r.arg h
 have e1 : arr.toList = cells a := e1
 exact ⟨a, by rw [← e1], e2⟩
end
end
end Go.Proofs.YtcngmkjdpoiiaaaGreatDoor

/- The fourteenth part of the program logic: comparisons with nil, of structs, min and max, empty literals. -/
namespace Go.Proofs.YtcngmkjdpoiiaaaGreatDoor
open Go Go.RowKit
section
variable {P : Program} {w : World} {t : Nat}
theorem run_equalIn_slice (d : Nat) {e n c : Nat} {b : Option Addr} (h1 : P.underlying t = some (.slice e)) : (Op.equalIn (d + 1) t (.slice b n c) (.slice none 0 0)).run P w = .ok b.isNone w := by
 simp only [Op.equalIn, Sem.run_bind, run_underlying h1, Result.andThen_ok]
 cases b <;> simp
theorem run_equalIn_bool' (d : Nat) {a b : Bool} (ht : P.underlying t = some .bool) : (Op.equalIn (d + 1) t (.bool a) (.bool b)).run P w = .ok (a == b) w := by
 simp only [Op.equalIn, Sem.run_bind, run_underlying ht, Result.andThen_ok, Sem.run_pure]
end
section
variable {C : Cx} {F : Fx} {l : Env} {rs rs' : List HP} {K : Act → World → Prop} {o : Oper} {Q : Exit → Act → World → Prop} {d : Nat}
theorem P_eql_slice {t t' e sz by_ n c : Nat} {x y : Operand} {b : Option Addr} (ho : o.op = .binOp .eql t x y t') (ht : slB C.P t e sz by_ = true) (hx : ev l x = some (.slice b n c)) (hy : ev l y = some (.slice none 0 0)) : OpP C F l o (.bool b.isNone) := fun a w r => by
 have h1 := (slB_spec ht).1
 have : (Op.equal t (.slice b n c) (.slice none 0 0)).run C.P w = .ok b.isNone w := run_equalIn_slice 9999 h1
 simp [execOp, ho, r.ev hx, r.ev hy, binOp, eqGuard, this]
theorem P_eql_bool {t t' : Nat} {x y : Operand} {a b : Bool} (ho : o.op = .binOp .eql t x y t') (ht : C.P.underlying t = some .bool) (hx : ev l x = some (.bool a)) (hy : ev l y = some (.bool b)) : OpP C F l o (.bool (a == b)) := fun ac w r => by
 have : (Op.equal t (.bool a) (.bool b)).run C.P w = .ok (a == b) w := run_equalIn_bool' 9999 ht
 simp [execOp, ho, r.ev hx, r.ev hy, binOp, eqGuard, this]
theorem P_neq_bool {t t' : Nat} {x y : Operand} {a b : Bool} (ho : o.op = .binOp .neq t x y t') (ht : C.P.underlying t = some .bool) (hx : ev l x = some (.bool a)) (hy : ev l y = some (.bool b)) : OpP C F l o (.bool (a != b)) := fun ac w r => by
 have : (Op.equal t (.bool a) (.bool b)).run C.P w = .ok (a == b) w := run_equalIn_bool' 9999 ht
 simp [execOp, ho, r.ev hx, r.ev hy, binOp, eqGuard, this, bne]
theorem P_max2 {ts : Array TypeId} {x y : Operand} {k k' : IntKind} {m n : Int} (ho : o.op = .call { callee := .builtin .max, args := #[x, y], argTypes := ts }) (hx : ev l x = some (.int k m)) (hy : ev l y = some (.int k' n)) : OpP C F l o (.int k (if n > m then n else m)) := fun a w r => by
 simp [execOp, ho, resolve, invoke, builtin, r.ev hx, r.ev hy, run_max_int2]
theorem P_min3 {ts : Array TypeId} {x y z : Operand} {k k' k'' : IntKind} {m n q : Int} (ho : o.op = .call { callee := .builtin .min, args := #[x, y, z], argTypes := ts }) (hx : ev l x = some (.int k m)) (hy : ev l y = some (.int k' n)) (hz : ev l z = some (.int k'' q)) : OpP C F l o (.int k (if q < (if n < m then n else m) then q else (if n < m then n else m))) := fun a w r => by
 simp [execOp, ho, resolve, invoke, builtin, r.ev hx, r.ev hy, r.ev hz, run_min_int3]
/-- A literal without elements. -/
theorem W_lit0 {t e sz by_ : Nat} (ho : o.op = .buildSlice t 0 #[]) (hd : o.dst = some d) (hn : Nat.blt d F.n = true) (ht : slB C.P t e sz by_ = true)
  (k : ∀ b, St C F ((d, .slice (some ⟨b, 0, none⟩) 0 0) :: l) (blk b [] e :: rs) K) : OpW C F l rs o K Q := fun a w r n => by
 obtain ⟨h1, ti, h2, h3, _⟩ := slB_spec ht
 unfold Oper.wp
 have : (execOp a.eval o).run C.P w = .ok (.value (.slice (some ⟨w.heap.size, 0, none⟩) 0 0)) (w.alloc (.cells #[] e)) := by
  simp [execOp, ho, Instr.buildSlice, run_underlying h1, sizeOf, typeInfo, h2, Instr.fill, newRow]
  congr 2
  apply Array.ext' 
  simp
 rw [this]
 show K (a.put o.dst _) _
 rw [hd]
 exact k _ _ _ (r.put hn _) (n.alloc [] e)
end
/-! ### Equality of structs of numbers, truth values and texts -/
/-- The type's cells are numbers or truth values, as the fields tell. -/
def seB (P : Program) (t n : Nat) : Bool := match P.underlying t with
 | some (.struct fs) => !P.stoodInHeld t && !P.eqGuardType P.depth t && (fs.toList.map (fun f => (f.offset, f.name != "_", scB P f.type && (match P.underlying f.type with | some (.int _) => true | _ => false))) == (List.range n).map fun i => (i, true, true))
 | _ => false
theorem run_eqFields_ints {P : Program} {w : World} (dp : Nat) : ∀ (fs : List Field) (o : Nat) (xs ys : List Value), xs.length = fs.length → ys.length = fs.length → (∀ (i : Nat) (x y : Value), xs[i]? = some x → ys[i]? = some y → ∃ k a b, x = .int k a ∧ y = .int k b) →
  (∀ (i : Nat) (f : Field), fs[i]? = some f → f.offset = o + i ∧ (f.name != "_") = true ∧ scB P f.type = true ∧ ∃ k, P.underlying f.type = some (.int k)) →
  ∀ (px py : List Value), px.length = o → py.length = o → (Op.eqFields (dp + 1) (px ++ xs).toArray (py ++ ys).toArray fs).run P w = .ok (@decide (xs = ys) (Classical.propDecidable _)) w
 | [], o, xs, ys, hx, hy, _, _, px, py, _, _ => by
  have : xs = [] := List.eq_nil_of_length_eq_zero hx
  have : ys = [] := List.eq_nil_of_length_eq_zero hy
  subst xs; subst ys
  simp [Op.eqFields]
 | f :: fs, o, x :: xs, y :: ys, hx, hy, hk, hf, px, py, hpx, hpy => by
  obtain ⟨h1, h2, h3, k, h4⟩ := hf 0 f rfl
  obtain ⟨k', a, b, rfl, rfl⟩ := hk 0 x y rfl rfl
  have hname : f.name ≠ "_" := by simpa using h2
  have e1 : (part f.type (px ++ Value.int k' a :: xs).toArray f.offset).run P w = .ok (.int k' a) w := by
   simp [part, run_isAgg_sc h3, h1, ← hpx]
  have e2 : (part f.type (py ++ Value.int k' b :: ys).toArray f.offset).run P w = .ok (.int k' b) w := by
   simp [part, run_isAgg_sc h3, h1, ← hpy]
  have e3 := run_equalIn_int (P := P) w dp f.type k' k a b h4
  unfold Op.eqFields
  rw [if_pos hname]
  simp only [Sem.run_bind, e1, e2, e3, Result.andThen_ok]
  by_cases hab : a = b
  ·subst hab
   have ih := run_eqFields_ints (P := P) (w := w) dp fs (o + 1) xs ys (by simpa using hx) (by simpa using hy) (fun i x y hx hy => hk (i + 1) x y hx hy) (fun i f hf' => by
    obtain ⟨g1, g2⟩ := hf (i + 1) f hf'
    exact ⟨by omega, g2⟩) (px ++ [.int k' a]) (py ++ [.int k' a]) (by simp [hpx]) (by simp [hpy])
   simp only [List.append_assoc, List.singleton_append] at ih
   simp only [beq_self_eq_true, Bool.not_true, Bool.false_eq_true, if_false, ih]
   congr 1
   by_cases hxy : xs = ys
   ·subst hxy; simp
   ·have : ¬ (Value.int k' a :: xs = Value.int k' a :: ys) := by simpa using hxy
    simp [hxy, this]
  ·have hb : (a == b) = false := by simpa using hab
   have : ¬ (Value.int k' a :: xs = Value.int k' b :: ys) := by simp [hab]
   simp [hb, this]
section
variable {C : Cx} {F : Fx} {l : Env} {rs rs' : List HP} {K : Act → World → Prop} {o : Oper} {Q : Exit → Act → World → Prop} {d : Nat}
theorem run_eqStruct {P : Program} {w : World} {t n : Nat} {xs ys : List Value} (ht : seB P t n = true) (hx : xs.length = n) (hy : ys.length = n) (hk : ∀ (i : Nat) (x y : Value), xs[i]? = some x → ys[i]? = some y → ∃ k a b, x = .int k a ∧ y = .int k b) :
  (Op.equalIn 10000 t (.agg xs.toArray) (.agg ys.toArray)).run P w = .ok (@decide (xs = ys) (Classical.propDecidable _)) w ∧ P.eqGuardType P.depth t = false := by
 unfold seB at ht
 split at ht
 ·rename_i fs hfs
  simp only [Bool.and_eq_true, Bool.not_eq_true'] at ht
  obtain ⟨⟨hp, hg⟩, hm⟩ := ht
  refine ⟨?_, hg⟩
  have hff : P.fieldsOf t = fs := by unfold Program.fieldsOf; rw [hfs]
  refine (run_equalIn_struct (P := P) w 9999 t xs.toArray ys.toArray (by rw [hff]; exact hfs) hp).trans ?_
  rw [hff]
  have hm2 := eq_of_beq hm
  have hlen : fs.toList.length = n := by have := congrArg List.length hm2; simpa using this
  refine run_eqFields_ints (P := P) (w := w) 9998 fs.toList 0 xs ys (by omega) (by omega) hk (fun i f hf => ?_) [] [] rfl rfl
  have h2 := congrArg (fun l => l[i]?) hm2
  simp only [List.getElem?_map, hf, Option.map_some] at h2
  have hi : i < n := by have := (List.getElem?_eq_some_iff.1 hf).1; omega
  rw [List.getElem?_range hi] at h2
  simp only [Option.map_some, Option.some.injEq, Prod.mk.injEq, Bool.and_eq_true] at h2
  obtain ⟨h3, h4, h5, h6⟩ := h2
  refine ⟨by omega, h4, h5, ?_⟩
  split at h6
  ·rename_i k hk'; exact ⟨k, hk'⟩
  ·cases h6
 ·cases ht
theorem P_neq_struct {t t' n : Nat} {x y : Operand} {xs ys : List Value} {b : Bool} (ho : o.op = .binOp .neq t x y t') (ht : seB C.P t n = true) (hx : ev l x = some (.agg xs.toArray)) (hy : ev l y = some (.agg ys.toArray)) (h1 : xs.length = n) (h2 : ys.length = n)
  (hk : ∀ (i : Nat) (x y : Value), xs[i]? = some x → ys[i]? = some y → ∃ k a b, x = .int k a ∧ y = .int k b) (hb : b = false ↔ xs = ys) : OpP C F l o (.bool b) := fun a w r => by
 obtain ⟨h3, hg⟩ := run_eqStruct (P := C.P) (w := w) ht h1 h2 hk
 have e : @decide (xs = ys) (Classical.propDecidable _) = !b := by
  by_cases h : xs = ys
  ·have := hb.2 h; rw [this]; simp [h]
  ·cases b with
   | false => exact absurd (hb.1 rfl) h
   | true => simp [h]
 rw [e] at h3
 simp only [execOp, ho, r.ev hx, r.ev hy, Sem.run_bind, run_eqGuard_agg w .neq t x y _ _ hg, Result.andThen_ok, run_neq_struct, h3, Sem.run_pure, Bool.not_not]
end
theorem Weak.keep_to {r s : HP} {rs : List HP} (t : ∀ h, r h → s h) : Weak (r :: rs) [s] := (Weak.turn .h0 t).trans (Weak.keep (Weak.nil _))
theorem ownS.to2 {T sz n n' : Nat} {v : Value} {cs cs' : List Value} {rs : List HP} (hn : n = n') (hc : cs = cs') : Weak (ownS T sz v n cs :: rs) [ownS T sz v n' cs'] := by subst hn; subst hc; exact Weak.keep (Weak.nil _)
theorem ownS.to1 {T sz n n' : Nat} {v : Value} {cs cs' : List Value} {rs : List HP} (hn : n = n') (hc : cs = cs') : Weak (ownS T sz v n cs :: rs) (ownS T sz v n' cs' :: rs) := by subst hn; subst hc; exact Weak.refl _
theorem Sn.rowAt0 {C : Cx} {F : Fx} {rs : List HP} {b j : Nat} {cs us : List Value} (s : Sn C F rs (some ⟨b, j, none⟩) cs) (hu : ∀ (i : Nat) (v : Value), us[i]? = some v → cs[i]? = some v) : ∀ w, Now C F rs w → RowAt w ⟨b, j, none⟩ us := fun w n i v hv => by
 obtain ⟨ad, e, hc⟩ := s.rw_ w n i v (hu i v hv)
 rw [Option.some.injEq] at e
 subst e; exact hc
end Go.Proofs.YtcngmkjdpoiiaaaGreatDoor

/- The fifteenth part of the program logic: locks (calls that run here and now and write one cell). -/
namespace Go.Proofs.YtcngmkjdpoiiaaaGreatDoor
open Go Go.RowKit
theorem put_setCell {w : World} {g j T : Nat} {cur : List Value} {fr : Nat × Nat} {v : Value} (hg : w.heap[g]? = some (.cells cur.toArray T fr)) : PutRel w g (.cells (cur.set j v).toArray T fr) (w.setCell ⟨g, j, none⟩ v) := by
 refine ⟨rfl, rfl, rfl, rfl, World.size_setCell _ _ _, ?_, fun i hi => heap_setCell_other _ _ _ _ hi⟩
 simp only [World.setCell]
 rw [Array.getElem?_modify, if_pos rfl, hg]
 simp
section
variable {C : Cx} {F : Fx} {l : Env} {rs rs' : List HP} {K : Act → World → Prop} {o : Oper} {Q : Exit → Act → World → Prop} {d : Nat}
/-- A call that writes one cell and answers v, here and now. -/
theorem W_extSet {xs : List Operand} {ts : Array TypeId} {f : FuncId} {vs : List Value} {v u x : Value} {b j T : Nat} {cs : List Value}
  (ho : o.op = .call { callee := .value (.func f), args := xs.toArray, argTypes := ts }) (hd : o.dst = some d) (hn : Nat.blt d F.n = true) (hx : evL l xs = some vs) (hj : cs[j]? = some x)
  (he : ∀ w : World, w.cell? ⟨b, j, none⟩ = some x → w.frozen? ⟨b, j, none⟩ = false → (callFunc f vs.toArray).run C.P w = .ok (.value v) (w.setCell ⟨b, j, none⟩ u))
  (m : Has rs (blk b cs T) (blk b (cs.set j u) T) rs') (k : St C F ((d, v) :: l) rs' K) : OpW C F l rs o K Q := fun a w r n => by
 have m0 : Has rs (blk b cs T) (blk b cs T) rs := by obtain ⟨p, q, e, _⟩ := m; exact ⟨p, q, e, e⟩
 obtain ⟨fr, hg, hf⟩ := n.getBlk m0
 have hlt := (List.getElem?_eq_some_iff.1 hj).1
 have hc : w.cell? ⟨b, j, none⟩ = some x := by simp [World.cell?, hg, hj]
 have hz : w.frozen? ⟨b, j, none⟩ = false := by
  simp only [World.frozen?, hg]
  simp only [Bool.and_eq_false_iff, decide_eq_false_iff_not]
  omega
 unfold Oper.wp
 have : (execOp a.eval o).run C.P w = .ok (.value v) (w.setCell ⟨b, j, none⟩ u) := by
  unfold execOp
  have hg2 : a.eval (.func f) = .func (.func f) #[] #[] := rfl
  simp only [ho, resolve, hg2, Deferred.ofValue, invoke, Sem.run_bind, Sem.run_pure, Result.andThen_ok, List.map_toArray, r.evL hx]
  simpa using he w hc hz
 rw [this]
 show K (a.put o.dst v) _
 rw [hd]
 refine k _ _ (r.put hn v) (n.put m (by simp) fun fr' hg' _ => ?_)
 rw [hg] at hg'
 injection hg' with hg'
 injection hg' with _ _ e
 exact e ▸ put_setCell hg
/-! ### Maps -/
/-- A map of the call's own. -/
def mapH (b : Nat) (es : Array MapEntry) (clock : Nat) : HP := fun h => h = Heap.one b (.map es clock)
/-- What a lookup yields. -/
def lookV (ok : Bool) (res : Option (Nat × Value)) (z : Value) : Value :=
 let v := match res with | some (_, v) => v | none => z
 if ok then .tuple #[v, .bool res.isSome] else v
theorem put_map {w : World} {b clock : Nat} {es : Array MapEntry} {x : Obj} (hb : w.heap[b]? = some (.map es clock)) : PutRel w b x { w with heap := w.heap.setIfInBounds b x } := by
 have hlt := (Array.getElem?_eq_some_iff.1 hb).1
 exact ⟨rfl, rfl, rfl, rfl, by simp, by simp [Array.getElem?_setIfInBounds, hlt], fun i hi => by simp [Array.getElem?_setIfInBounds, Ne.symm hi]⟩
theorem Now.allocMap {w : World} (n : Now C F rs w) : Now C F (mapH w.heap.size #[] 0 :: rs) (w.alloc (.map #[] 0)) := by
 have hng := n.ng
 obtain ⟨h, s, m⟩ := n
 obtain ⟨dj, m2⟩ := m.alloc hng (.map #[] 0)
 exact ⟨_, ⟨_, h, rfl, s, dj, rfl⟩, m2⟩
theorem W_makeMap {t : Nat} (ho : o.op = .makeMap t none) (hd : o.dst = some d) (hn : Nat.blt d F.n = true) (k : ∀ b, St C F ((d, .map (some b)) :: l) (mapH b #[] 0 :: rs) K) : OpW C F l rs o K Q := fun a w r n => by
 unfold Oper.wp
 have : (execOp a.eval o).run C.P w = .ok (.value (.map (some w.heap.size))) (w.alloc (.map #[] 0)) := by
  simp [execOp, ho, Instr.makeMap]
 rw [this]
 show K (a.put o.dst _) _
 rw [hd]
 exact k _ _ _ (r.put hn _) n.allocMap
end
end Go.Proofs.YtcngmkjdpoiiaaaGreatDoor

/- The sixteenth part of the program logic: deferred calls. -/
namespace Go.Proofs.YtcngmkjdpoiiaaaGreatDoor
open Go Go.RowKit
/-- A function, called when its caller leaves. -/
def SpecD (C : Cx) (f : FuncId) (args : List Value) (pre : World → Heap → Prop) (R0 RS : List HP) : Prop :=
 ∀ w h, Sep R0 h → Sub C w h → pre w h → ∀ u, CallsD C.P f args.toArray u w (fun e u' w' => u' = u ∧ ∃ v h', e = .returned v ∧ Sep RS h' ∧ Move C w h w' h')
theorem SpecD.enter {C : Cx} {f : FuncId} {fn : Func} {c : Code} {args : List Value} {pre : World → Heap → Prop} {R0 RS : List HP} {post : Value → List HP → Prop}
  (hpost : ∀ v rs, post v rs → rs = RS) (hf : C.P.funcs[f]? = some fn) (hb : fn.body = some c) (n : Nat) (hn : fn.ntmps = n) (hle : Nat.ble args.length n = true)
  (h : ∀ w k, Sep R0 k → Sub C w k → pre w k → St C ⟨n, [], w, k⟩ (envOf 0 args) R0 (c.wp C.P (bodyPost C.P fn fun e w' => ∃ v rs h', e = .returned v ∧ post v rs ∧ Sep rs h' ∧ Move C w k w' h'))) : SpecD C f args pre R0 RS := by
 intro w k hs hu hp u
 refine CallsD.mono (callsD_of_wp (u := u) hf hb (h w k hs hu hp _ w ⟨?_, rfl, ?_⟩ ⟨k, hs, Move.start hu⟩)) ?_
 ·have := Nat.le_of_ble_eq_true hle
  simp [hn]; omega
 ·intro t v ht
  obtain ⟨_, h2⟩ := envOf_get args 0 t v ht
  have hlt := (List.getElem?_eq_some_iff.1 h2).1
  simp only [Nat.sub_zero] at h2 hlt
  rw [Array.getElem?_append, if_pos (by simpa using hlt)]
  simpa using h2
 ·rintro e u' w' ⟨h1, v, rs, h', e1, e2, e3, e4⟩
  obtain rfl := hpost v rs e2
  exact ⟨h1, v, h', e1, e3, e4⟩
def dfr (f : FuncId) (vs : List Value) : Deferred := { target := .fn (.func f) #[], args := vs.toArray }
section
variable {C : Cx} {F : Fx} {l : Env} {rs rs' : List HP} {K : Act → World → Prop} {o : Oper} {Q : Exit → Act → World → Prop} {d : Nat}
theorem W_defer {xs : List Operand} {ts : Array TypeId} {f : FuncId} {vs : List Value} (ho : o.op = .defer { callee := .value (.func f), args := xs.toArray, argTypes := ts }) (hd : o.dst = none) (hx : evL l xs = some vs)
  (k : St C ⟨F.n, dfr f vs :: F.ds, F.w, F.h⟩ l rs K) : OpW C F l rs o K Q := fun a w r n => by
 unfold Oper.wp
 have : (execOp a.eval o).run C.P w = .ok (.defer (dfr f vs)) w := by
  unfold execOp
  have hg2 : a.eval (.func f) = .func (.func f) #[] #[] := rfl
  simp [ho, resolve, hg2, Deferred.ofValue, List.map_toArray, r.evL hx, dfr]
 rw [this]
 show K ({ a with defers := dfr f vs :: a.defers }.put o.dst undef) w
 rw [hd]
 exact k _ w ⟨r.size, by show dfr f vs :: a.defers = _; rw [r.defers], r.get⟩ n
/-- A function that defers calls. -/
theorem Spec.enterD {f : FuncId} {fn : Func} {c : Code} {args : List Value} {pre : World → Heap → Prop} {R0 : List HP} {post : Value → List HP → Prop}
  (hf : C.P.funcs[f]? = some fn) (hb : fn.body = some c) (n : Nat) (hn : fn.ntmps = n) (hle : Nat.ble args.length n = true)
  (h : ∀ w k, Sep R0 k → Sub C w k → pre w k → St C ⟨n, [], w, k⟩ (envOf 0 args) R0 (c.wp C.P (bodyPostD C.P fn fun e w' => ∃ v rs h', e = .returned v ∧ post v rs ∧ Sep rs h' ∧ Move C w k w' h'))) : Spec C f args pre R0 post := by
 intro w k hs hu hp
 refine calls_of_wp_defers hf hb (h w k hs hu hp _ w ⟨?_, rfl, ?_⟩ ⟨k, hs, Move.start hu⟩)
 ·have := Nat.le_of_ble_eq_true hle
  simp [hn]; omega
 ·intro t v ht
  obtain ⟨_, h2⟩ := envOf_get args 0 t v ht
  have hlt := (List.getElem?_eq_some_iff.1 h2).1
  simp only [Nat.sub_zero] at h2 hlt
  rw [Array.getElem?_append, if_pos (by simpa using hlt)]
  simpa using h2
/-- The end of such a body: one deferred call is run, then the results are read. -/
theorem R_endD {fn : Func} {xs : List ResultVar} {vs dvs : List Value} {f : FuncId} {pre : World → Heap → Prop} {R0 RS rest rs2 : List HP} {post : Value → List HP → Prop} (hds : F.ds = [dfr f dvs]) (hc : callable C.P f = true) (hs : SpecD C f dvs pre R0 RS) (sp : Split rs R0 rest)
  (hp : ∀ w a b, Sep R0 a → Sep rest b → a.Disj b → Move C F.w F.h w (a.join b) → pre w a) (hf : fn.results = xs.toArray) (h : ResV C F l (RS ++ rest) xs vs) (hpost : post (packV vs) rs2) (hw : Weak (RS ++ rest) rs2) :
  St C F l rs (bodyPostD C.P fn (fun e w' => ∃ v rs h', e = .returned v ∧ post v rs ∧ Sep rs h' ∧ Move C F.w F.h w' h') .ret) := fun a w r n => by
 show Leaves C.P fn a.tmps _ a.defers .returning w
 rw [r.defers.trans hds]
 obtain ⟨hh, s, m⟩ := n
 obtain ⟨h', s', le⟩ := sp hh s
 obtain ⟨c, d, hc', hd, dj, rfl⟩ := Sep.append.1 s'
 have m' := m.le le
 have hinv : (invoke (.fn (.func f) #[]) dvs.toArray).run C.P w = .ok (.enter f dvs.toArray) w := by
  simp only [invoke]
  rw [run_call hc]
  simp
 refine leaves_cons (by simp) hinv (CallsD.mono (hs w c hc' (m'.le (Heap.le_join_left _ _)).subOf (hp w c d hc' hd dj m') .returning) ?_)
 rintro e u' w' ⟨rfl, v, h2, rfl, hs2, mv⟩
 obtain ⟨dj2, mv2⟩ := m'.call dj mv
 show Leaves C.P fn a.tmps _ [] (settle .returning) w'
 refine ⟨_, h.results hf r ⟨_, Sep.append.2 ⟨h2, d, hs2, hd, dj2, rfl⟩, mv2⟩, ?_⟩
 obtain ⟨k', s3, le3⟩ := hw _ (Sep.append.2 ⟨h2, d, hs2, hd, dj2, rfl⟩)
 exact ⟨_, rs2, k', rfl, hpost, s3, mv2.le le3⟩
end
end Go.Proofs.YtcngmkjdpoiiaaaGreatDoor
