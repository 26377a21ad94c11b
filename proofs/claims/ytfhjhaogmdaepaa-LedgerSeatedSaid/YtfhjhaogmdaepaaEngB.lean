/- The second part of the program logic: environments of temporaries, the judgement 'St', its rules for code, loops and calls. -/
import Derived.Test.YtfhjhaogmdaepaaEngA
import Derived.OrdersHeld
import Derived.Laws.Append
set_option linter.unusedVariables false
set_option linter.unusedSimpArgs false
namespace Go.Proofs.Ytfhjhaogmdaepaa
open Go Go.RowKit

/-! ### Environments -/
abbrev Env := List (Nat × Value)
def Env.get? : Env → Nat → Option Value
  | [], _ => none
  | (k, v) :: l, t => bif Nat.beq k t then some v else Env.get? l t
def ev (l : Env) : Operand → Option Value
  | .tmp t => l.get? t
  | .const v => some v
  | .global g => some (.pointer (some ⟨g, 0, none⟩))
  | .func f => some (.func (.func f) #[] #[])
def evL (l : Env) : List Operand → Option (List Value)
  | [] => some []
  | x :: xs => match ev l x, evL l xs with
    | some v, some vs => some (v :: vs)
    | _, _ => none

structure Rep (n : Nat) (ds : List Deferred) (l : Env) (a : Act) : Prop where
  size : a.tmps.size = n
  defers : a.defers = ds
  get : ∀ t v, l.get? t = some v → a.tmps[t]? = some v

theorem Rep.ev {n : Nat} {ds : List Deferred} {l : Env} {a : Act} (h : Rep n ds l a) {x : Operand} {v : Value} (hx : ev l x = some v) : a.eval x = v := by
  cases x with
  | tmp t =>
    have := h.get t v hx
    simp [Act.eval, this]
  | const u => exact Option.some.inj hx
  | global g => exact Option.some.inj hx
  | func f => exact Option.some.inj hx
theorem Rep.evL {n : Nat} {ds : List Deferred} {l : Env} {a : Act} (h : Rep n ds l a) : ∀ {xs : List Operand} {vs : List Value}, evL l xs = some vs → xs.map a.eval = vs
  | [], vs, hx => Option.some.inj hx
  | x :: xs, vs, hx => by
    unfold Go.Proofs.Ytfhjhaogmdaepaa.evL at hx
    split at hx
    · rename_i v us hv hus
      rw [List.map_cons, h.ev hv, Rep.evL h hus]
      exact Option.some.inj hx
    · cases hx
theorem Rep.put {n : Nat} {ds : List Deferred} {l : Env} {a : Act} (h : Rep n ds l a) {d : Nat} (hd : Nat.blt d n = true) (v : Value) : Rep n ds ((d, v) :: l) (a.put (some d) v) := by
  have hd' : d < a.tmps.size := by rw [h.size]; exact Nat.le_of_ble_eq_true hd
  refine ⟨by simp [Act.put, h.size], h.defers, fun t u ht => ?_⟩
  unfold Env.get? at ht
  cases e : Nat.beq d t with
  | true =>
    rw [e] at ht
    obtain rfl := Nat.eq_of_beq_eq_true e
    simp only [cond_true, Option.some.injEq] at ht
    simp [Act.put, hd', ht]
  | false =>
    rw [e] at ht
    have hne : d ≠ t := Nat.ne_of_beq_eq_false e
    simp only [cond_false] at ht
    simp [Act.put, Array.getElem?_setIfInBounds_ne hne, h.get t u ht]
theorem Rep.put0 {n : Nat} {ds : List Deferred} {l : Env} {a : Act} (h : Rep n ds l a) (v : Value) : Rep n ds l (a.put none v) := h

def EnvLe (l l' : Env) : Prop := ∀ t v, l'.get? t = some v → l.get? t = some v
theorem EnvLe.refl (l : Env) : EnvLe l l := fun _ _ h => h
theorem EnvLe.nil {l : Env} : EnvLe l [] := fun _ _ h => by cases h
theorem EnvLe.cons {l l' : Env} {t : Nat} {v : Value} (h : l.get? t = some v) (hl : EnvLe l l') : EnvLe l ((t, v) :: l') := fun s u hs => by
  unfold Env.get? at hs
  cases e : Nat.beq t s with
  | true =>
    rw [e] at hs
    obtain rfl := Nat.eq_of_beq_eq_true e
    simp only [cond_true, Option.some.injEq] at hs
    subst hs; exact h
  | false =>
    rw [e] at hs
    simp only [cond_false] at hs
    exact hl s u hs
theorem Rep.le {n : Nat} {ds : List Deferred} {l l' : Env} {a : Act} (h : Rep n ds l a) (le : EnvLe l l') : Rep n ds l' a := ⟨h.size, h.defers, fun t v ht => h.get t v (le t v ht)⟩

/-! ### The judgement -/
/-- What is fixed while a body runs: how many temporaries, what is deferred, the world and the heaplet with which it was entered. -/
structure Fx where
  n : Nat
  ds : List Deferred
  w : World
  h : Heap

def Now (C : Cx) (F : Fx) (rs : List HP) (w : World) : Prop := ∃ h, Sep rs h ∧ Move C F.w F.h w h

theorem Now.weak {C : Cx} {F : Fx} {rs rs' : List HP} {w : World} (n : Now C F rs w) (k : Weak rs rs') : Now C F rs' w := by
  obtain ⟨h, s, m⟩ := n
  obtain ⟨h', s', l⟩ := k h s
  exact ⟨h', s', m.le l⟩
theorem Now.drew {C : Cx} {F : Fx} {rs : List HP} {w : World} (n : Now C F rs w) (k : Nat) (hk : w.drawn ≤ k) : Now C F rs { w with drawn := k } := by
  obtain ⟨h, s, m⟩ := n
  exact ⟨h, s, m.drew k hk⟩
theorem Now.ok {C : Cx} {F : Fx} {rs : List HP} {w : World} (n : Now C F rs w) : C.ok w := n.elim fun _ x => x.2.ok

/-- From whatever frame and world fits: K. -/
def St (C : Cx) (F : Fx) (l : Env) (rs : List HP) (K : Act → World → Prop) : Prop := ∀ a w, Rep F.n F.ds l a → Now C F rs w → K a w

section
variable {C : Cx} {F : Fx} {l l' : Env} {rs rs' : List HP} {K K' : Act → World → Prop}

theorem St.mono (h : St C F l rs K) (k : ∀ a w, K a w → K' a w) : St C F l rs K' := fun a w r n => k a w (h a w r n)
theorem St.prune (h : St C F l' rs' K) (he : EnvLe l l') (hw : Weak rs rs') : St C F l rs K := fun a w r n => h a w (r.le he) (n.weak hw)
theorem St.env (he : EnvLe l l') (h : St C F l' rs K) : St C F l rs K := h.prune he (Weak.refl rs)
theorem St.res (hw : Weak rs rs') (h : St C F l rs' K) : St C F l rs K := h.prune (EnvLe.refl l) hw
/-- A resource is opened at its place (give 'p' as a list of blanks). -/
theorem St.openAt {X : Type} (p : List HP) {q : List HP} {r : HP} {s : X → HP} (o : ∀ a, r a → ∃ x, s x a) (h : ∀ x, St C F l (p ++ s x :: q) K) : St C F l (p ++ r :: q) K := by
  intro a w hr ⟨hp, hs, hm⟩
  obtain ⟨c, d, hc, ⟨u, v, hu, hv, d1, rfl⟩, d2, rfl⟩ := Sep.append.1 hs
  obtain ⟨x, hx⟩ := o u hu
  exact h x a w hr ⟨_, Sep.append.2 ⟨c, u.join v, hc, ⟨u, v, hx, hv, d1, rfl⟩, d2, rfl⟩, hm⟩
/-- A resource of which something is hidden, with what is known of it. -/
def ExP {X : Type} (p : X → Prop) (s : X → HP) : HP := fun h => ∃ x, p x ∧ s x h
theorem St.openP {X : Type} {f : X → Prop} {s : X → HP} (p : List HP) {q : List HP} (h : ∀ x, f x → St C F l (p ++ s x :: q) K) : St C F l (p ++ ExP f s :: q) K := by
  intro a w hr ⟨hp, hs, hm⟩
  obtain ⟨c, d, hc, ⟨u, v, ⟨x, hx, hu⟩, hv, d1, rfl⟩, d2, rfl⟩ := Sep.append.1 hs
  exact h x hx a w hr ⟨_, Sep.append.2 ⟨c, u.join v, hc, ⟨u, v, hu, hv, d1, rfl⟩, d2, rfl⟩, hm⟩
/-- A pure fact that a resource tells. -/
theorem St.fact {p : Prop} (hp : ∀ w, Now C F rs w → p) (h : p → St C F l rs K) : St C F l rs K := fun a w hr hn => h (hp w hn) a w hr hn

/-! ### Code -/
theorem R_seq {Q : Exit → Act → World → Prop} {x y : Code} (h : St C F l rs (x.wp C.P (Exit.then (y.wp C.P Q) Q))) : St C F l rs ((Code.seq x y).wp C.P Q) := fun a w r n => wp_seq (h a w r n)
theorem R_skip {Q : Exit → Act → World → Prop} (h : St C F l rs (Q .normal)) : St C F l rs (Code.skip.wp C.P Q) := fun a w r n => wp_skip (h a w r n)
theorem R_ret {Q : Exit → Act → World → Prop} (h : St C F l rs (Q .ret)) : St C F l rs (Code.ret.wp C.P Q) := fun a w r n => wp_ret (h a w r n)
theorem R_exit {Q : Exit → Act → World → Prop} {i : Nat} (h : St C F l rs (Q (.exit i))) : St C F l rs ((Code.exit i).wp C.P Q) := fun a w r n => wp_exit (h a w r n)
theorem R_block {Q : Exit → Act → World → Prop} {i : Nat} {c : Code} (h : St C F l rs (c.wp C.P (Exit.inBlock i Q))) : St C F l rs ((Code.block i c).wp C.P Q) := fun a w r n => wp_block (h a w r n)
theorem R_cond {Q : Exit → Act → World → Prop} {c : Operand} {x y : Code} {b : Bool} (hc : ev l c = some (.bool b)) (ht : b = true → St C F l rs (x.wp C.P Q)) (hf : b = false → St C F l rs (y.wp C.P Q)) :
    St C F l rs ((Code.cond c x y).wp C.P Q) := fun a w r n => by
  cases b
  · exact wp_cond_false (r.ev hc) (hf rfl a w r n)
  · exact wp_cond_true (r.ev hc) (ht rfl a w r n)
theorem R_condP {Q : Exit → Act → World → Prop} {c : Operand} {x y : Code} {p : Prop} {dp : Decidable p} (hc : ev l c = some (.bool (@decide p dp))) (ht : p → St C F l rs (x.wp C.P Q)) (hf : ¬p → St C F l rs (y.wp C.P Q)) :
    St C F l rs ((Code.cond c x y).wp C.P Q) := R_cond hc (fun h => ht (of_decide_eq_true h)) (fun h => hf (of_decide_eq_false h))
theorem R_condT {Q : Exit → Act → World → Prop} {c : Operand} {x y : Code} (hc : ev l c = some (.bool true)) (ht : St C F l rs (x.wp C.P Q)) : St C F l rs ((Code.cond c x y).wp C.P Q) := R_cond hc (fun _ => ht) (fun h => by cases h)
theorem R_condF {Q : Exit → Act → World → Prop} {c : Operand} {x y : Code} (hc : ev l c = some (.bool false)) (hf : St C F l rs (y.wp C.P Q)) : St C F l rs ((Code.cond c x y).wp C.P Q) := R_cond hc (fun h => by cases h) (fun _ => hf)
/-- Two ways that meet again. -/
theorem R_join {Q : Exit → Act → World → Prop} {G : Type} (e : G → Env) (r : G → List HP) (inv : G → Prop) {x y : Code}
    (hx : St C F l rs (x.wp C.P (Exit.then (fun a w => ∃ g, inv g ∧ Rep F.n F.ds (e g) a ∧ Now C F (r g) w) Q)))
    (hy : ∀ g, inv g → St C F (e g) (r g) (y.wp C.P Q)) : St C F l rs ((Code.seq x y).wp C.P Q) := fun a w hr hn =>
  wp_seq (wp_mono (hx a w hr hn) fun ex a' w' q => by
    cases ex with
    | normal => obtain ⟨g, hg, h1, h2⟩ := q; exact hy g hg a' w' h1 h2
    | _ => exact q)
theorem R_region {Q : Exit → Act → World → Prop} {id : Nat} {ops : List Oper} (h : St C F l rs (wpList C.P ops.toArray Q ops)) : St C F l rs ((Code.region id ops.toArray false).wp C.P Q) := fun a w r n => wp_region_lit (h a w r n)
theorem R_loop {Q : Exit → Act → World → Prop} {c : Code} {G : Type} (e : G → Env) (r : G → List HP) (inv : G → Prop) (m : G → Nat) (g : G) (hg : inv g) (he : EnvLe l (e g)) (hr : Weak rs (r g))
    (round : ∀ g, inv g → St C F (e g) (r g) (c.wp C.P (Exit.then (fun a w => ∃ g', inv g' ∧ m g' < m g ∧ Rep F.n F.ds (e g') a ∧ Now C F (r g') w) Q))) : St C F l rs ((Code.loop c).wp C.P Q) := by
  intro a w r0 n0
  classical
  let I : Act → World → Prop := fun a w => ∃ g, inv g ∧ Rep F.n F.ds (e g) a ∧ Now C F (r g) w
  -- the measure of a state: the least that a ghost of it has
  have key : ∀ n g, m g = n → inv g → ∀ a w, Rep F.n F.ds (e g) a → Now C F (r g) w → ∀ (b : Frame) (k : List Item) (cs : List Frame),
      ∃ ex a' w', Q ex a' w' ∧ Arrives C.P (lone (b.at a (.code c :: .inLoop c :: k)) cs w) b k cs ex a' w' := by
    intro n
    induction n using Nat.strongRecOn with
    | _ n ih =>
      intro g hm hg a w hra hnw b k cs
      obtain ⟨ex, a1, w1, hq, harr⟩ := round g hg a w hra hnw b (.inLoop c :: k) cs
      cases ex with
      | normal =>
        obtain ⟨g', hg', hlt, hr', hn'⟩ := hq
        obtain ⟨e2, a2, w2, hq2, harr2⟩ := ih (m g') (hm ▸ hlt) g' rfl hg' a1 w1 hr' hn' b k cs
        exact ⟨e2, a2, w2, hq2, .of_steps (Steps.trans harr (.one step_inLoop)) harr2⟩
      | exit id => exact ⟨_, a1, w1, hq, .pass (x := .inLoop c) rfl (fun _ _ => .inl (by simp)) harr⟩
      | goto l => exact ⟨_, a1, w1, hq, .pass (x := .inLoop c) rfl (fun _ _ => .inl (by simp)) harr⟩
      | ret => exact ⟨_, a1, w1, hq, .pass (x := .inLoop c) rfl (fun _ _ => .inl (by simp)) harr⟩
      | panic ch => exact ⟨_, a1, w1, hq, .pass (x := .inLoop c) rfl (fun _ _ => .inl (by simp)) harr⟩
      | outgrown => exact ⟨_, a1, w1, hq, .pass (x := .inLoop c) rfl (fun _ _ => .inl (by simp)) harr⟩
  intro b k cs
  obtain ⟨ex, a', w', hq, harr⟩ := key _ g rfl hg a w (r0.le he) (n0.weak hr) b k cs
  exact ⟨ex, a', w', hq, .of_steps (.one step_loop) harr⟩

/-! ### Behind a piece of code -/
theorem Q_then {Q : Exit → Act → World → Prop} {y : Code} (h : St C F l rs (y.wp C.P Q)) : St C F l rs (Exit.then (y.wp C.P Q) Q .normal) := h
theorem Q_then_exit {Q : Exit → Act → World → Prop} {k : Act → World → Prop} {i : Nat} (h : St C F l rs (Q (.exit i))) : St C F l rs (Exit.then k Q (.exit i)) := h
theorem Q_then_ret {Q : Exit → Act → World → Prop} {k : Act → World → Prop} (h : St C F l rs (Q .ret)) : St C F l rs (Exit.then k Q .ret) := h
theorem Q_block {Q : Exit → Act → World → Prop} {i : Nat} (h : St C F l rs (Q .normal)) : St C F l rs (Exit.inBlock i Q .normal) := h
theorem Q_block_ret {Q : Exit → Act → World → Prop} {i : Nat} (h : St C F l rs (Q .ret)) : St C F l rs (Exit.inBlock i Q .ret) := h
theorem Q_block_eq {Q : Exit → Act → World → Prop} {i : Nat} (h : St C F l rs (Q .normal)) : St C F l rs (Exit.inBlock i Q (.exit i)) := fun a w r n => by
  show (if i = i then Q .normal a w else Q (.exit i) a w)
  rw [if_pos rfl]; exact h a w r n
theorem Q_block_ne {Q : Exit → Act → World → Prop} {i j : Nat} (hne : Nat.beq j i = false) (h : St C F l rs (Q (.exit j))) : St C F l rs (Exit.inBlock i Q (.exit j)) := fun a w r n => by
  show (if j = i then Q .normal a w else Q (.exit j) a w)
  rw [if_neg (Nat.ne_of_beq_eq_false hne)]; exact h a w r n
theorem Q_round {G : Type} {e : G → Env} {r : G → List HP} {inv : G → Prop} {m : G → Nat} {g : G} {Q : Exit → Act → World → Prop} (g' : G) (hi : inv g') (hm : m g' < m g) (he : EnvLe l (e g')) (hr : Weak rs (r g')) :
    St C F l rs (Exit.then (fun a w => ∃ g', inv g' ∧ m g' < m g ∧ Rep F.n F.ds (e g') a ∧ Now C F (r g') w) Q .normal) := fun _ _ hra hn => ⟨g', hi, hm, hra.le he, hn.weak hr⟩
theorem Q_meet {G : Type} {e : G → Env} {r : G → List HP} {inv : G → Prop} {Q : Exit → Act → World → Prop} (g' : G) (hi : inv g') (he : EnvLe l (e g')) (hr : Weak rs (r g')) :
    St C F l rs (Exit.then (fun a w => ∃ g', inv g' ∧ Rep F.n F.ds (e g') a ∧ Now C F (r g') w) Q .normal) := fun _ _ hra hn => ⟨g', hi, hra.le he, hn.weak hr⟩

/-! ### Operations -/
def wantedE (ops : Array Oper) (l : Env) (o : Oper) : Bool :=
  match o.guard with
  | none => true
  | some (j, b) => match ((ops[j]?).bind (·.dst)).bind l.get? with
    | some (.bool c) => c == b
    | _ => false
def unwantedE (ops : Array Oper) (l : Env) (o : Oper) : Bool :=
  match o.guard with
  | none => false
  | some (j, b) => match ((ops[j]?).bind (·.dst)).bind l.get? with
    | some (.bool c) => c != b
    | some (.tuple _) => true
    | _ => false
theorem Rep.yielded {n : Nat} {ds : List Deferred} {a : Act} (r : Rep n ds l a) {ops : Array Oper} {j : Nat} {c : Bool} (h : ((ops[j]?).bind (·.dst)).bind l.get? = some (.bool c)) : yielded ops a.tmps j = some c := by
  unfold Go.yielded
  obtain ⟨t, ht, hl⟩ := Option.bind_eq_some_iff.1 h
  rw [ht]
  simp only [Option.bind_some, r.get t _ hl]
theorem Rep.yieldedNone {n : Nat} {ds : List Deferred} {a : Act} (r : Rep n ds l a) {ops : Array Oper} {j : Nat} {x : Array Value} (h : ((ops[j]?).bind (·.dst)).bind l.get? = some (.tuple x)) : Go.yielded ops a.tmps j = none := by
  unfold Go.yielded
  obtain ⟨t, ht, hl⟩ := Option.bind_eq_some_iff.1 h
  rw [ht]
  simp only [Option.bind_some, r.get t _ hl]
theorem wanted_of {n : Nat} {ds : List Deferred} {a : Act} (r : Rep n ds l a) {ops : Array Oper} {o : Oper} (h : wantedE ops l o = true) : Region.wanted o (yielded ops a.tmps) = true := by
  unfold wantedE at h
  unfold Region.wanted
  cases hg : o.guard with
  | none => rfl
  | some gb =>
    obtain ⟨j, b⟩ := gb
    rw [hg] at h
    simp only at h
    split at h
    · rename_i c hc
      have hcb : c = b := by simpa using h
      subst hcb
      simp only [r.yielded hc]
      simp
    · cases h
theorem unwanted_of {n : Nat} {ds : List Deferred} {a : Act} (r : Rep n ds l a) {ops : Array Oper} {o : Oper} (h : unwantedE ops l o = true) : Region.wanted o (yielded ops a.tmps) = false := by
  unfold unwantedE at h
  unfold Region.wanted
  cases hg : o.guard with
  | none => rw [hg] at h; cases h
  | some gb =>
    obtain ⟨j, b⟩ := gb
    rw [hg] at h
    simp only at h
    split at h
    · rename_i c hc
      simp only [r.yielded hc]
      cases b <;> cases c <;> simp_all
    · rename_i x hx
      simp only [r.yieldedNone hx]
      rfl
    · cases h

/-- In every fitting state the operation yields v and leaves the world as it is. -/
def OpV (C : Cx) (F : Fx) (l : Env) (rs : List HP) (o : Oper) (v : Value) : Prop := ∀ a w, Rep F.n F.ds l a → Now C F rs w → (execOp a.eval o).run C.P w = .ok (.value v) w
/-- The same in whatever world. -/
def OpP (C : Cx) (F : Fx) (l : Env) (o : Oper) (v : Value) : Prop := ∀ a w, Rep F.n F.ds l a → (execOp a.eval o).run C.P w = .ok (.value v) w
/-- The operation comes to K. -/
def OpW (C : Cx) (F : Fx) (l : Env) (rs : List HP) (o : Oper) (K : Act → World → Prop) (Q : Exit → Act → World → Prop) : Prop := ∀ a w, Rep F.n F.ds l a → Now C F rs w → o.wp C.P a w K Q
theorem OpP.v {o : Oper} {v : Value} (h : OpP C F l o v) : OpV C F l rs o v := fun a w r _ => h a w r

section
variable {ops : Array Oper} {Q : Exit → Act → World → Prop} {rest : List Oper} {o : Oper} {v : Value} {d : Nat}
theorem L_nil (h : St C F l rs (Q .normal)) : St C F l rs (wpList C.P ops Q []) := h
theorem W_val (hd : o.dst = some d) (hn : Nat.blt d F.n = true) (h : OpV C F l rs o v) (k : St C F ((d, v) :: l) rs K) : OpW C F l rs o K Q := fun a w r n => by
  unfold Oper.wp
  rw [h a w r n]
  show K (a.put o.dst v) w
  rw [hd]
  exact k _ w (r.put hn v) n
theorem L_op (hw : wantedE ops l o = true) (h : OpW C F l rs o (wpList C.P ops Q rest) Q) : St C F l rs (wpList C.P ops Q (o :: rest)) := fun a w r n => by
  unfold wpList
  rw [if_pos (wanted_of r hw)]
  exact .inl (h a w r n)
theorem L_val (hw : wantedE ops l o = true) (hd : o.dst = some d) (hn : Nat.blt d F.n = true) (h : OpV C F l rs o v) (k : St C F ((d, v) :: l) rs (wpList C.P ops Q rest)) : St C F l rs (wpList C.P ops Q (o :: rest)) :=
  L_op hw (W_val hd hn h k)
theorem L_no (hw : unwantedE ops l o = true) (hd : o.dst = some d) (hn : Nat.blt d F.n = true) (k : St C F ((d, undef) :: l) rs (wpList C.P ops Q rest)) : St C F l rs (wpList C.P ops Q (o :: rest)) := fun a w r n => by
  unfold wpList
  rw [if_neg (by rw [unwanted_of r hw]; simp), hd]
  exact k _ w (r.put hn undef) n
theorem L_no0 (hw : unwantedE ops l o = true) (hd : o.dst = none) (k : St C F l rs (wpList C.P ops Q rest)) : St C F l rs (wpList C.P ops Q (o :: rest)) := fun a w r n => by
  unfold wpList
  rw [if_neg (by rw [unwanted_of r hw]; simp), hd]
  exact k _ w r n
end

/-! ### Calls -/
/-- What a function keeps: entered with these arguments in a world that meets 'pre', the resources 'R0' its own for the time, it returns v with resources 'rs' such that 'post v rs'; all else is as it was. -/
def Spec (C : Cx) (f : FuncId) (args : List Value) (pre : World → Heap → Prop) (R0 : List HP) (post : Value → List HP → Prop) : Prop :=
  ∀ w h, Sep R0 h → Sub C w h → pre w h → Calls C.P f args.toArray w (fun e w' => ∃ v rs h', e = .returned v ∧ post v rs ∧ Sep rs h' ∧ Move C w h w' h')

theorem Spec.mono {f : FuncId} {args : List Value} {pre pre' : World → Heap → Prop} {R0 : List HP} {post post' : Value → List HP → Prop} (h : Spec C f args pre R0 post)
    (hp : ∀ w h, pre' w h → pre w h) (hq : ∀ v rs, post v rs → post' v rs) : Spec C f args pre' R0 post' := fun w k s u p =>
  (h w k s u (hp w k p)).mono fun _ _ ⟨v, rs, h', x1, x2, x3⟩ => ⟨v, rs, h', x1, hq _ _ x2, x3⟩

/-- The arguments' temporaries. -/
def envOf : Nat → List Value → Env
  | _, [] => []
  | k, v :: vs => (k, v) :: envOf (k + 1) vs
theorem envOf_get : ∀ (vs : List Value) (k t : Nat) (v : Value), (envOf k vs).get? t = some v → k ≤ t ∧ vs[t - k]? = some v
  | [], _, _, _, h => by cases h
  | u :: vs, k, t, v, h => by
    unfold envOf Env.get? at h
    cases e : Nat.beq k t with
    | true =>
      rw [e] at h
      obtain rfl := Nat.eq_of_beq_eq_true e
      simp only [cond_true] at h
      exact ⟨Nat.le_refl _, by simpa using h⟩
    | false =>
      rw [e] at h
      simp only [cond_false] at h
      have hne := Nat.ne_of_beq_eq_false e
      obtain ⟨h1, h2⟩ := envOf_get vs (k + 1) t v h
      refine ⟨by omega, ?_⟩
      rw [show t - k = (t - (k + 1)) + 1 by omega]
      simpa using h2

/-- A body is walked. -/
theorem Spec.enter {f : FuncId} {fn : Func} {c : Code} {args : List Value} {pre : World → Heap → Prop} {R0 : List HP} {post : Value → List HP → Prop}
    (hf : C.P.funcs[f]? = some fn) (hb : fn.body = some c) (n : Nat) (hn : fn.ntmps = n) (hle : Nat.ble args.length n = true)
    (h : ∀ w k, Sep R0 k → Sub C w k → pre w k → St C ⟨n, [], w, k⟩ (envOf 0 args) R0 (c.wp C.P (bodyPost C.P fn fun e w' => ∃ v rs h', e = .returned v ∧ post v rs ∧ Sep rs h' ∧ Move C w k w' h'))) : Spec C f args pre R0 post := by
  intro w k hs hu hp
  refine calls_of_wp hf hb (h w k hs hu hp _ w ⟨?_, rfl, ?_⟩ ⟨k, hs, Move.start hu⟩)
  · have := Nat.le_of_ble_eq_true hle
    simp [hn]; omega
  · intro t v ht
    obtain ⟨_, h2⟩ := envOf_get args 0 t v ht
    have hlt := (List.getElem?_eq_some_iff.1 h2).1
    simp only [Nat.sub_zero] at h2 hlt
    rw [Array.getElem?_append, if_pos (by simpa using hlt)]
    simpa using h2

/-- Some resources are taken for a call. -/
def Split (rs R0 rest : List HP) : Prop := Weak rs (R0 ++ rest)
theorem Split.nil (rs : List HP) : Split rs [] rs := Weak.refl rs
theorem Split.one {p q : List HP} {r : HP} : Split (p ++ r :: q) [r] (p ++ q) := Weak.front

def callable (P : Program) (f : FuncId) : Bool := match P.funcs[f]? with
  | some fn => !(fn.name == "runtime.NumGoroutine") && fn.body.isSome
  | none => false
theorem run_call {P : Program} {f : FuncId} (hc : callable P f = true) (args : Array Value) (w : World) : (callFunc f args).run P w = .ok (.enter f args) w := by
  unfold callable at hc
  unfold callFunc
  split at hc
  · rename_i fn hfn
    simp only [Bool.and_eq_true, Bool.not_eq_true'] at hc
    obtain ⟨h1, h2⟩ := hc
    have hb : fn.body.isNone = false := by cases h : fn.body with | none => rw [h] at h2; cases h2 | some _ => rfl
    simp only [Sem.run_bind, run_program, Result.andThen_ok, hfn, h1, hb, Bool.false_eq_true, if_false, Sem.run_pure]
  · cases hc

theorem W_callv {o : Oper} {Q : Exit → Act → World → Prop} {g : Operand} {xs : List Operand} {ts : Array TypeId} {f : FuncId} {fi ca : List Value} {args vs : List Value} {pre : World → Heap → Prop} {R0 rest : List HP} {post : Value → List HP → Prop}
    (ho : o.op = .call { callee := .value g, args := xs.toArray, argTypes := ts }) (hg : ev l g = some (.func (.func f) fi.toArray ca.toArray)) (hx : evL l xs = some vs) (hvs : fi ++ vs ++ ca = args) (hc : callable C.P f = true) (hs : Spec C f args pre R0 post)
    (sp : Split rs R0 rest) (hp : ∀ w a b, Sep R0 a → Sep rest b → a.Disj b → Move C F.w F.h w (a.join b) → pre w a)
    (k : ∀ v rs', post v rs' → ∀ a w, Rep F.n F.ds l a → Now C F (rs' ++ rest) w → K (a.put o.dst v) w) : OpW C F l rs o K Q := fun a w r n => by
  obtain ⟨h, s, m⟩ := n
  obtain ⟨h', s', le⟩ := sp h s
  obtain ⟨c, d, hc', hd, dj, rfl⟩ := Sep.append.1 s'
  have m' := m.le le
  have hrun : (execOp a.eval o).run C.P w = .ok (.enter f args.toArray) w := by
    unfold execOp
    simp only [ho, resolve, r.ev hg, Deferred.ofValue, invoke, Sem.run_bind, Sem.run_pure, Result.andThen_ok, List.map_toArray, r.evL hx]
    rw [run_call hc]
    simp [← hvs]
  unfold Oper.wp
  rw [hrun]
  show Calls C.P f args.toArray w _
  refine (hs w c hc' (m'.le (Heap.le_join_left _ _)).subOf (hp w c d hc' hd dj m')).mono ?_
  rintro e w' ⟨v, rs', h2, rfl, hpost, hs2, mv⟩
  obtain ⟨dj2, mv2⟩ := m'.call dj mv
  exact k v rs' hpost a w' r ⟨_, Sep.append.2 ⟨h2, d, hs2, hd, dj2, rfl⟩, mv2⟩

theorem W_call {o : Oper} {Q : Exit → Act → World → Prop} {xs : List Operand} {ts : Array TypeId} {f : FuncId} {vs : List Value} {pre : World → Heap → Prop} {R0 rest : List HP} {post : Value → List HP → Prop} {d : Nat}
    (ho : o.op = .call { callee := .value (.func f), args := xs.toArray, argTypes := ts }) (hd : o.dst = some d) (hn : Nat.blt d F.n = true) (hx : evL l xs = some vs) (hc : callable C.P f = true) (hs : Spec C f vs pre R0 post)
    (sp : Split rs R0 rest) (hp : ∀ w a b, Sep R0 a → Sep rest b → a.Disj b → Move C F.w F.h w (a.join b) → pre w a)
    (k : ∀ v rs', post v rs' → St C F ((d, v) :: l) (rs' ++ rest) K) : OpW C F l rs o K Q :=
  W_callv (fi := []) (ca := []) ho rfl hx (by simp) hc hs sp hp fun v rs' hpost a w r n => by rw [hd]; exact k v rs' hpost _ w (r.put hn v) n

/-! ### The end of a body -/
/-- What the results read as. -/
inductive ResV (C : Cx) (F : Fx) (l : Env) (rs : List HP) : List ResultVar → List Value → Prop
  | nil : ResV C F l rs [] []
  | tmp {t : Nat} {v : Value} {xs : List ResultVar} {vs : List Value} (h : l.get? t = some v) (k : ResV C F l rs xs vs) : ResV C F l rs (.tmp t :: xs) (v :: vs)
  | cell {t T : Nat} {ad : Addr} {v : Value} {xs : List ResultVar} {vs : List Value} (h : l.get? t = some (.pointer (some ad))) (hv : ∀ w, Now C F rs w → (loadVar T ad).run C.P w = .ok v w) (k : ResV C F l rs xs vs) :
      ResV C F l rs (.cell t T :: xs) (v :: vs)
theorem asAddr_some (a : Addr) : asAddr (.pointer (some a)) = pure a := rfl
theorem ResV.run {xs : List ResultVar} {vs : List Value} (h : ResV C F l rs xs vs) {a : Act} {w : World} (r : Rep F.n F.ds l a) (n : Now C F rs w) :
    (xs.mapM (m := Sem) (fun x : ResultVar => match x with
      | .tmp t => pure (a.tmps.getD t undef)
      | .cell p t => do loadVar t (← asAddr (a.tmps.getD p undef)))).run C.P w = .ok vs w := by
  induction h with
  | nil => simp
  | tmp h k ih =>
    have h' := r.get _ _ h
    rw [List.mapM_cons]
    simp only [Sem.run_bind, Sem.run_pure, Result.andThen_ok, ih]
    simp [h']
  | cell h hv k ih =>
    have hg := r.ev (x := .tmp _) h
    simp only [Act.eval] at hg
    rw [List.mapM_cons]
    simp only [Sem.run_bind, Sem.run_pure, hg, asAddr_some, Result.andThen_ok, hv w n, ih]
/-- One result stands for itself, others in a tuple. -/
def packV : List Value → Value
  | [v] => v
  | vs => .tuple vs.toArray
theorem ResV.results {fn : Func} {xs : List ResultVar} {vs : List Value} (hf : fn.results = xs.toArray) (h : ResV C F l rs xs vs) {a : Act} {w : World} (r : Rep F.n F.ds l a) (n : Now C F rs w) :
    (Go.results fn a.tmps).run C.P w = .ok (packV vs) w := by
  have hr := h.run r n
  unfold Go.results
  rw [hf, Array.mapM_eq_mapM_toList]
  simp only [Sem.run_bind, Sem.run_map, Sem.run_pure]
  refine (congrArg (fun r : Result (List Value) => (r.andThen fun a w' => Result.ok a.toArray w').andThen fun a w' => Result.ok (if h : a.size = 1 then a[0] else Value.tuple a) w') hr).trans ?_
  simp only [Result.andThen_ok]
  congr 1
  match vs with
  | [] => rfl
  | [_] => rfl
  | _ :: _ :: _ => simp [packV]

theorem R_end {fn : Func} {xs : List ResultVar} {vs : List Value} {post : Value → List HP → Prop} {rs2 : List HP} (hds : F.ds = []) (hf : fn.results = xs.toArray) (h : ResV C F l rs xs vs) (hp : post (packV vs) rs2) (hw : Weak rs rs2) :
    St C F l rs (bodyPost C.P fn (fun e w' => ∃ v rs h', e = .returned v ∧ post v rs ∧ Sep rs h' ∧ Move C F.w F.h w' h') .ret) := fun a w r n => by
  refine ⟨r.defers.trans hds, _, h.results hf r n, ?_⟩
  obtain ⟨k, s, m⟩ := n
  obtain ⟨k', s', le⟩ := hw k s
  exact ⟨_, rs2, k', rfl, hp, s', m.le le⟩
theorem R_end0 {fn : Func} {xs : List ResultVar} {vs : List Value} {post : Value → List HP → Prop} {rs2 : List HP} (hds : F.ds = []) (hf : fn.results = xs.toArray) (h : ResV C F l rs xs vs) (hp : post (packV vs) rs2) (hw : Weak rs rs2) :
    St C F l rs (bodyPost C.P fn (fun e w' => ∃ v rs h', e = .returned v ∧ post v rs ∧ Sep rs h' ∧ Move C F.w F.h w' h') .normal) := fun a w r n => R_end hds hf h hp hw a w r n
end
end Go.Proofs.Ytfhjhaogmdaepaa
