/- The nineteenth part of the program logic: two loud operations of which either may come first, with what is read kept apart from what is written. -/
import Derived.Test.YtfhjhaogmdaepaaEngR
set_option linter.unusedVariables false
set_option linter.unusedSimpArgs false
namespace Go.Proofs.Ytfhjhaogmdaepaa
open Go Go.RowKit
section
variable {C : Cx} {F : Fx} {l : Env} {rs rs' rq : List HP} {o : Oper} {Q : Exit → Act → World → Prop} {ops : Array Oper} {d i : Nat} {v : Value} {tt tx ty : Sch} {j : Nat}
def StTQ (C : Cx) (F : Fx) (ops : Array Oper) (Q : Exit → Act → World → Prop) (t : Sch) (l : Env) (rq rs : List HP) : Prop := St C F l rs (wpT C.P ops Q t (Now C F rq))
theorem TQ_open {id : Nat} {os : List Oper} (t : Sch) (rq : List HP) (hwk : Weak rs rq) (hm : C.P.follows .mixedOrders = true) (hB : schT os.toArray t = true) (hQ : QOk Q) (h : StTQ C F os.toArray Q t l rq rs) : St C F l rs ((Code.region id os.toArray true).wp C.P Q) := fun a w r n => by
  unfold schT at hB
  simp only [Bool.and_eq_true] at hB
  obtain ⟨⟨h1, h2⟩, h3⟩ := hB
  have h2 := Nat.eq_of_beq_eq_true h2
  refine wp_region_any hm ?_
  have key := wpT_sound h1 hQ t.all t (Now C F rq) (Array.replicate os.toArray.size false) a { w with drawn := w.drawn + 1 } (fun _ h => h) h3 (fun k o _ hk => by rw [getD_none] at hk; cases hk) ((n.drew _ (Nat.le_succ _)).weak hwk) (h a _ r (n.drew _ (Nat.le_succ _)))
  rw [h2] at key
  exact wpAny_of_G (new := newOf t.all) _ _ _ _ _ key
theorem TQ_nil (h : St C F l rs (Q .normal)) : StTQ C F ops Q .nil l rq rs := h
theorem TQ_pure (ho : ops[i]? = some o) (hw : wantedE ops l o = true) (hd : o.dst = some d) (hn : Nat.blt d F.n = true) (hv : OpP C F l o v) (k : StTQ C F ops Q tt ((d, v) :: l) rq rs) : StTQ C F ops Q (.op i 0 tt) l rq rs := fun a w r n =>
  ⟨o, v, ho, fun S' => .inl ⟨wanted_of r hw, fun w' _ => hv a w' r⟩, by rw [hd]; exact k _ _ (r.put hn v) n⟩
theorem TQ_val (ho : ops[i]? = some o) (hw : wantedE ops l o = true) (hd : o.dst = some d) (hn : Nat.blt d F.n = true) (hv : OpV C F l rq o v) (k : StTQ C F ops Q tt ((d, v) :: l) rq rs) : StTQ C F ops Q (.op i 1 tt) l rq rs := fun a w r n =>
  ⟨o, v, ho, .inl ⟨wanted_of r hw, fun w' hw' => hv a w' r hw'⟩, by rw [hd]; exact k _ _ (r.put hn v) n⟩
theorem TQ_keep (ho : ops[i]? = some o) (hw : wantedE ops l o = true) (h : OpW C F l rs o (fun a w => ∃ S' : World → Prop, (∀ x, S' x → Now C F rq x) ∧ S' w ∧ wpT C.P ops Q tt S' a w) Q) : StTQ C F ops Q (.op i 2 tt) l rq rs := fun a w r n => by
  show wpOp C.P ops Q i _ a w
  unfold wpOp
  simp only [ho, wanted_of r hw, if_true]
  exact .inl (h a w r n)
theorem TQ_new (ho : ops[i]? = some o) (hw : wantedE ops l o = true) (h : OpW C F l rs o (fun a w => ∃ S' : World → Prop, S' w ∧ wpT C.P ops Q tt S' a w) Q) : StTQ C F ops Q (.op i 3 tt) l rq rs := fun a w r n => by
  show wpOp C.P ops Q i _ a w
  unfold wpOp
  simp only [ho, wanted_of r hw, if_true]
  exact .inl (h a w r n)
theorem TQ_two (h1 : StTQ C F ops Q (.op i 2 tx) l rq rs) (h2 : StTQ C F ops Q (.op j 2 ty) l rq rs) : StTQ C F ops Q (.two i j tx ty) l rq rs := fun a w r n => ⟨h1 a w r n, h2 a w r n⟩
theorem K_keepTQ {l2 : Env} (hw : Weak rs' rq) (k : StTQ C F ops Q tt l2 rq rs') : St C F l2 rs' (fun a w => ∃ S' : World → Prop, (∀ x, S' x → Now C F rq x) ∧ S' w ∧ wpT C.P ops Q tt S' a w) := fun a w r n => ⟨Now C F rq, fun _ h => h, n.weak hw, k a w r n⟩
theorem K_newTQ {l2 : Env} (k : StTQ C F ops Q tt l2 rs' rs') : St C F l2 rs' (fun a w => ∃ S' : World → Prop, S' w ∧ wpT C.P ops Q tt S' a w) := fun a w r n => ⟨Now C F rs', n, k a w r n⟩
end
end Go.Proofs.Ytfhjhaogmdaepaa
