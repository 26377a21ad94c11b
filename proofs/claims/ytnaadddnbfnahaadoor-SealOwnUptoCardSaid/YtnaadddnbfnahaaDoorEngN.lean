/- The fourteenth part of the program logic: comparisons with nil, of structs, min and max, empty literals. -/
import Derived.Test.YtnaadddnbfnahaaDoorRead
import Derived.Laws.Cover1
set_option linter.unusedVariables false
set_option linter.unusedSimpArgs false
namespace Go.Proofs.YtnaadddnbfnahaaDoor
open Go Go.RowKit
section
variable {P : Program} {w : World} {t : Nat}
theorem run_equalIn_bool' (d : Nat) {a b : Bool} (ht : P.underlying t = some .bool) : (Op.equalIn (d + 1) t (.bool a) (.bool b)).run P w = .ok (a == b) w := by
  simp only [Op.equalIn, Sem.run_bind, run_underlying ht, Result.andThen_ok, Sem.run_pure]
end
section
variable {C : Cx} {F : Fx} {l : Env} {rs rs' : List HP} {K : Act → World → Prop} {o : Oper} {Q : Exit → Act → World → Prop} {d : Nat}
theorem P_eql_bool {t t' : Nat} {x y : Operand} {a b : Bool} (ho : o.op = .binOp .eql t x y t') (ht : C.P.underlying t = some .bool) (hx : ev l x = some (.bool a)) (hy : ev l y = some (.bool b)) : OpP C F l o (.bool (a == b)) := fun ac w r => by
  have : (Op.equal t (.bool a) (.bool b)).run C.P w = .ok (a == b) w := run_equalIn_bool' 9999 ht
  simp [execOp, ho, r.ev hx, r.ev hy, binOp, eqGuard, this]
theorem P_neq_bool {t t' : Nat} {x y : Operand} {a b : Bool} (ho : o.op = .binOp .neq t x y t') (ht : C.P.underlying t = some .bool) (hx : ev l x = some (.bool a)) (hy : ev l y = some (.bool b)) : OpP C F l o (.bool (a != b)) := fun ac w r => by
  have : (Op.equal t (.bool a) (.bool b)).run C.P w = .ok (a == b) w := run_equalIn_bool' 9999 ht
  simp [execOp, ho, r.ev hx, r.ev hy, binOp, eqGuard, this, bne]
end
/-! ### Equality of structs of numbers, truth values and texts -/
section
variable {C : Cx} {F : Fx} {l : Env} {rs rs' : List HP} {K : Act → World → Prop} {o : Oper} {Q : Exit → Act → World → Prop} {d : Nat}
end
theorem ownS.to1 {T sz n n' : Nat} {v : Value} {cs cs' : List Value} {rs : List HP} (hn : n = n') (hc : cs = cs') : Weak (ownS T sz v n cs :: rs) (ownS T sz v n' cs' :: rs) := by subst hn; subst hc; exact Weak.refl _
theorem Sn.rowAt0 {C : Cx} {F : Fx} {rs : List HP} {b j : Nat} {cs us : List Value} (s : Sn C F rs (some ⟨b, j, none⟩) cs) (hu : ∀ (i : Nat) (v : Value), us[i]? = some v → cs[i]? = some v) : ∀ w, Now C F rs w → RowAt w ⟨b, j, none⟩ us := fun w n i v hv => by
  obtain ⟨ad, e, hc⟩ := s.rw_ w n i v (hu i v hv)
  rw [Option.some.injEq] at e
  subst e; exact hc
end Go.Proofs.YtnaadddnbfnahaaDoor
