/- The twelfth part of the program logic: loops and joins that keep the rest of the environment as it is; piles of many slices. -/
import Derived.Test.YtfhjhaogmdaepaaEngK
set_option linter.unusedVariables false
set_option linter.unusedSimpArgs false
namespace Go.Proofs.Ytfhjhaogmdaepaa
open Go Go.RowKit
theorem Env.get?_append (a b : Env) (t : Nat) : Env.get? (a ++ b) t = (Env.get? a t).or (Env.get? b t) := by
  induction a with
  | nil => simp [Env.get?]
  | cons x a ih =>
    obtain ⟨k, v⟩ := x
    have e1 : ∀ l, Env.get? ((k, v) :: l) t = bif Nat.beq k t then some v else Env.get? l t := fun _ => rfl
    rw [List.cons_append, e1, e1]
    cases Nat.beq k t
    · simp only [cond_false]; exact ih
    · simp
theorem EnvLe.append {l a b : Env} (ha : EnvLe l a) (hb : EnvLe l b) : EnvLe l (a ++ b) := fun t v h => by
  rw [Env.get?_append] at h
  cases e : Env.get? a t with
  | none => rw [e] at h; exact hb t v (by simpa using h)
  | some u => rw [e] at h; exact ha t v (by rw [e]; simpa using h)
theorem EnvLe.consE {l l' : Env} {t : Nat} {v v' : Value} (h : l.get? t = some v) (e : v = v') (hl : EnvLe l l') : EnvLe l ((t, v') :: l') := .cons (e ▸ h) hl
section
variable {C : Cx} {F : Fx} {l l0 : Env} {rs rs' : List HP} {K K' : Act → World → Prop}
theorem R_loopE {Q : Exit → Act → World → Prop} {c : Code} {G : Type} (hl0 : EnvLe l l0) (e : G → Env) (r : G → List HP) (inv : G → Prop) (m : G → Nat) (g : G) (hg : inv g) (he : EnvLe l (e g)) (hr : Weak rs (r g))
    (round : ∀ g, inv g → St C F (e g ++ l0) (r g) (c.wp C.P (Exit.then (fun a w => ∃ g', inv g' ∧ m g' < m g ∧ Rep F.n F.ds (e g' ++ l0) a ∧ Now C F (r g') w) Q))) : St C F l rs ((Code.loop c).wp C.P Q) :=
  R_loop (fun g => e g ++ l0) r inv m g hg (he.append hl0) hr round
theorem R_joinE {Q : Exit → Act → World → Prop} {G : Type} (hl0 : EnvLe l l0) (e : G → Env) (r : G → List HP) (inv : G → Prop) {x y : Code}
    (hx : St C F l rs (x.wp C.P (Exit.then (fun a w => ∃ g, inv g ∧ Rep F.n F.ds (e g ++ l0) a ∧ Now C F (r g) w) Q)))
    (hy : ∀ g, inv g → St C F (e g ++ l0) (r g) (y.wp C.P Q)) : St C F l rs ((Code.seq x y).wp C.P Q) := R_join (fun g => e g ++ l0) r inv hx hy
theorem R_joinE0 {Q : Exit → Act → World → Prop} {G : Type} (hl0 : EnvLe l l0) (e : G → Env) (inv : G → Prop) {x y : Code}
    (hx : St C F l rs (x.wp C.P (Exit.then (fun a w => ∃ g, inv g ∧ Rep F.n F.ds (e g ++ l0) a ∧ Now C F rs w) Q)))
    (hy : ∀ g, inv g → St C F (e g ++ l0) rs (y.wp C.P Q)) : St C F l rs ((Code.seq x y).wp C.P Q) := R_join (fun g => e g ++ l0) (fun _ => rs) inv hx hy
end
section
variable {C : Cx} {F : Fx} {l : Env} {rs rs' rq : List HP} {o : Oper} {Q : Exit → Act → World → Prop} {ops : Array Oper} {d i : Nat} {v : Value} {rest : List (Nat × Nat)} {tt : Sch}
theorem O_noX (ho : ops[i]? = some o) (hw : unwantedE ops l o = true) (hd : o.dst = some d) (hn : Nat.blt d F.n = true) (k : StO C F ops Q rest ((d, undef) :: l) rs) : StO C F ops Q ((i, 1) :: rest) l rs := fun a w r n =>
  ⟨o, undef, ho, .inr ⟨unwanted_of r hw, rfl⟩, by rw [hd]; exact k _ _ (r.put hn undef) n⟩
theorem O_no3 (ho : ops[i]? = some o) (hw : unwantedE ops l o = true) (hd : o.dst = some d) (hn : Nat.blt d F.n = true) (k : StO C F ops Q rest ((d, undef) :: l) rs) : StO C F ops Q ((i, 3) :: rest) l rs := fun a w r n => by
  show wpOp C.P ops Q i _ a w
  unfold wpOp
  simp only [ho, unwanted_of r hw, Bool.false_eq_true, if_false]
  exact ⟨Now C F rs, n, by rw [hd]; exact k _ _ (r.put hn undef) n⟩
theorem O_noQ (ho : ops[i]? = some o) (hw : unwantedE ops l o = true) (hd : o.dst = some d) (hn : Nat.blt d F.n = true) (k : StQ C F ops Q rest ((d, undef) :: l) rq rs) : StQ C F ops Q ((i, 0) :: rest) l rq rs := fun a w r n =>
  ⟨o, undef, ho, fun S' => .inr ⟨unwanted_of r hw, rfl⟩, by rw [hd]; exact k _ _ (r.put hn undef) n⟩
theorem O_noXQ (ho : ops[i]? = some o) (hw : unwantedE ops l o = true) (hd : o.dst = some d) (hn : Nat.blt d F.n = true) (k : StQ C F ops Q rest ((d, undef) :: l) rq rs) : StQ C F ops Q ((i, 1) :: rest) l rq rs := fun a w r n =>
  ⟨o, undef, ho, .inr ⟨unwanted_of r hw, rfl⟩, by rw [hd]; exact k _ _ (r.put hn undef) n⟩
theorem O_no2Q (hwk : Weak rs rq) (ho : ops[i]? = some o) (hw : unwantedE ops l o = true) (hd : o.dst = some d) (hn : Nat.blt d F.n = true) (k : StQ C F ops Q rest ((d, undef) :: l) rq rs) : StQ C F ops Q ((i, 2) :: rest) l rq rs := fun a w r n => by
  show wpOp C.P ops Q i _ a w
  unfold wpOp
  simp only [ho, unwanted_of r hw, Bool.false_eq_true, if_false]
  exact ⟨Now C F rq, fun _ h => h, n.weak hwk, by rw [hd]; exact k _ _ (r.put hn undef) n⟩
theorem T_no (ho : ops[i]? = some o) (hw : unwantedE ops l o = true) (hd : o.dst = some d) (hn : Nat.blt d F.n = true) (k : StT C F ops Q tt ((d, undef) :: l) rs) : StT C F ops Q (.op i 0 tt) l rs := fun a w r n =>
  ⟨o, undef, ho, fun S' => .inr ⟨unwanted_of r hw, rfl⟩, by rw [hd]; exact k _ _ (r.put hn undef) n⟩
theorem T_noX (ho : ops[i]? = some o) (hw : unwantedE ops l o = true) (hd : o.dst = some d) (hn : Nat.blt d F.n = true) (k : StT C F ops Q tt ((d, undef) :: l) rs) : StT C F ops Q (.op i 1 tt) l rs := fun a w r n =>
  ⟨o, undef, ho, .inr ⟨unwanted_of r hw, rfl⟩, by rw [hd]; exact k _ _ (r.put hn undef) n⟩
end
end Go.Proofs.Ytfhjhaogmdaepaa
