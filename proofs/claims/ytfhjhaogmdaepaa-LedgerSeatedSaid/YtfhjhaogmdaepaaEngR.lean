/- The eighteenth part of the program logic: bodies that defer calls, with regions of open order; bundles of resources. -/
import Derived.Test.YtfhjhaogmdaepaaEngQ
import Derived.Laws.Externs
set_option linter.unusedVariables false
set_option linter.unusedSimpArgs false
namespace Go.Proofs.Ytfhjhaogmdaepaa
open Go Go.RowKit
/-- What is asked of a body that defers calls: it returns, and then its deferred calls are run. -/
def bodyPostX (P : Program) (fn : Func) (R : Ending → World → Prop) : Exit → Act → World → Prop
  | .normal, a, w | .ret, a, w => Leaves P fn a.tmps R a.defers .returning w
  | _, _, _ => False
theorem QOk.bodyX {P : Program} {fn : Func} {R : Ending → World → Prop} : QOk (bodyPostX P fn R) := fun d v c a w h => h
section
variable {C : Cx} {F : Fx} {l : Env} {rs rs' : List HP} {K : Act → World → Prop} {o : Oper} {Q : Exit → Act → World → Prop} {d : Nat}
theorem Spec.enterX {f : FuncId} {fn : Func} {c : Code} {args : List Value} {pre : World → Heap → Prop} {R0 : List HP} {post : Value → List HP → Prop}
    (hf : C.P.funcs[f]? = some fn) (hb : fn.body = some c) (n : Nat) (hn : fn.ntmps = n) (hle : Nat.ble args.length n = true)
    (h : ∀ w k, Sep R0 k → Sub C w k → pre w k → St C ⟨n, [], w, k⟩ (envOf 0 args) R0 (c.wp C.P (bodyPostX C.P fn fun e w' => ∃ v rs h', e = .returned v ∧ post v rs ∧ Sep rs h' ∧ Move C w k w' h'))) : Spec C f args pre R0 post :=
  Spec.enterD hf hb n hn hle fun w k hs hu hp => (h w k hs hu hp).mono fun a w' hw => wp_mono hw fun e a' w'' q => by
    cases e <;> first | exact q | exact q.elim
/-- The end of such a body where nothing is deferred yet. -/
theorem R_endN {fn : Func} {xs : List ResultVar} {vs : List Value} {post : Value → List HP → Prop} {rs2 : List HP} (hds : F.ds = []) (hf : fn.results = xs.toArray) (h : ResV C F l rs xs vs) (hp : post (packV vs) rs2) (hw : Weak rs rs2) :
    St C F l rs (bodyPostX C.P fn (fun e w' => ∃ v rs h', e = .returned v ∧ post v rs ∧ Sep rs h' ∧ Move C F.w F.h w' h') .ret) := fun a w r n => by
  show Leaves C.P fn a.tmps _ a.defers .returning w
  rw [r.defers.trans hds]
  refine ⟨_, h.results hf r n, ?_⟩
  obtain ⟨k, s, m⟩ := n
  obtain ⟨k', s', le⟩ := hw k s
  exact ⟨_, rs2, k', rfl, hp, s', m.le le⟩
/-- .. and where one call is deferred: it is run, then the results are read. -/
theorem R_endX {fn : Func} {xs : List ResultVar} {vs dvs : List Value} {f : FuncId} {pre : World → Heap → Prop} {R0 RS rest rs2 : List HP} {post : Value → List HP → Prop} (hds : F.ds = [dfr f dvs]) (hc : callable C.P f = true) (hs : SpecD C f dvs pre R0 RS) (sp : Split rs R0 rest)
    (hp : ∀ w a b, Sep R0 a → Sep rest b → a.Disj b → Move C F.w F.h w (a.join b) → pre w a) (hf : fn.results = xs.toArray) (h : ResV C F l (RS ++ rest) xs vs) (hpost : post (packV vs) rs2) (hw : Weak (RS ++ rest) rs2) :
    St C F l rs (bodyPostX C.P fn (fun e w' => ∃ v rs h', e = .returned v ∧ post v rs ∧ Sep rs h' ∧ Move C F.w F.h w' h') .ret) := R_endD (fn := fn) (post := post) hds hc hs sp hp hf h hpost hw
end
theorem run_zeroValue_of {P : Program} {t : Nat} {v : Value} (h : (P.info? t).bind (·.zero) = some v) (w : World) : (zeroValue t).run P w = .ok v w := by
  obtain ⟨i, hi, hz⟩ := Option.bind_eq_some_iff.1 h
  simp [zeroValue, typeInfo, hi, hz]
section
variable {C : Cx} {F : Fx} {l : Env} {rs : List HP} {o : Oper}
theorem P_ext {xs : List Operand} {ts : Array TypeId} {f : FuncId} {vs : List Value} {v : Value} (ho : o.op = .call { callee := .value (.func f), args := xs.toArray, argTypes := ts }) (hx : evL l xs = some vs) (he : ∀ w, (callFunc f vs.toArray).run C.P w = .ok (.value v) w) : OpP C F l o v := fun a w r => by
  unfold execOp
  have hg : a.eval (.func f) = .func (.func f) #[] #[] := rfl
  simp only [ho, resolve, hg, Deferred.ofValue, invoke, Sem.run_bind, Sem.run_pure, Result.andThen_ok, List.map_toArray, r.evL hx]
  simpa using he w
/-- unsafe.Pointer(p). -/
theorem V_toUnsafe {src dst t b j T : Nat} {x : Operand} {cs : List Value} {v : Value} (ho : o.op = .convert src dst x) (hs : C.P.underlying src = some (.pointer t)) (hd : C.P.underlying dst = some .unsafePointer) (hsz : (C.P.info? t).map (fun i => decide (i.size = 0)) = some false) (hx : ev l x = some (.pointer (some ⟨b, j, none⟩)))
    (m : Has rs (blk b cs T) (blk b cs T) rs) (hj : cs[j]? = some v) : OpV C F l rs o (.pointer (some ⟨b, j, none⟩)) := fun a w r n => by
  obtain ⟨fr, hg, hf⟩ := n.getBlk m
  have hc : w.cell? ⟨b, j, none⟩ = some v := by simp [World.cell?, hg, hj]
  have := run_convert_to_unsafe (P := C.P) hs hd hsz hc
  simp [execOp, ho, r.ev hx, this]
end
section
variable {C : Cx} {F : Fx} {l : Env} {rs rs' : List HP} {K : Act → World → Prop} {o : Oper} {Q : Exit → Act → World → Prop} {d : Nat}
/-- make([]T, 0, n). -/
theorem W_make0 {t e sz bytes n : Nat} {x y : Operand} {k1 k2 : IntKind} {z : List Value} (ho : o.op = .makeSlice t x y) (hd : o.dst = some d) (hn : Nat.blt d F.n = true) (ht : slB C.P t e sz bytes = true) (hz : zeB C.P e z) (hx : ev l x = some (.int k1 0)) (hy : ev l y = some (.int k2 (n : Int)))
    (hb : bytes * n ≤ 281474976710656) (hm : n ≤ maxLen) (k : ∀ v, St C F ((d, v) :: l) (ownS e sz v 0 [] :: rs) K) : OpW C F l rs o K Q := fun a w r nw => by
  obtain ⟨h1, ti, h2, h3, h3b⟩ := slB_spec ht
  unfold zeB at hz
  obtain ⟨zv, hz1, hz2⟩ := Option.map_eq_some_iff.1 hz
  obtain ⟨i, hi1, hiz⟩ := Option.bind_eq_some_iff.1 hz1
  rw [h2, Option.some.injEq] at hi1
  subst hi1
  have hzc : zv.cells = z.toArray := by rw [← hz2]
  have hb' : (ti.bytes : Int) * (n : Int) ≤ 281474976710656 := by
    have h : ((ti.bytes * n : Nat) : Int) ≤ 281474976710656 := by rw [h3b]; omega
    rwa [Int.natCast_mul] at h
  have hm' : n ≤ 9223372036854775807 := by simp only [maxLen] at hm; omega
  have hr := run_make (P := C.P) w t e ti zv h1 h2 hiz k1 k2 0 (n : Int) (by omega) (by omega) hb' (by omega)
  simp only [Int.toNat_natCast, h3, hzc] at hr
  unfold Oper.wp
  have : (execOp a.eval o).run C.P w = .ok (.value (.slice (some ⟨w.heap.size, 0, none⟩) 0 n)) (w.alloc (.cells (madeCells z.toArray (n * sz)) e)) := by
    simp only [execOp, ho, r.ev hx, r.ev hy, Sem.run_bind, hr, Result.andThen_ok, Sem.run_pure]
    rfl
  rw [this]
  show K (a.put o.dst _) _
  rw [hd]
  have h5 := nw.alloc (madeL z (n * sz)) e
  refine k _ _ _ (r.put hn _) (h5.weak (Weak.turn .h0 fun hh hb => ⟨by simp, .inr ⟨_, n, madeL z (n * sz), rfl, Nat.zero_le _, hm, (by rw [List.nil_append, madeL_length]; exact Nat.le_refl _), hb⟩⟩))
end
/-- Separate resources as one. -/
def bundle (L : List HP) : HP := fun h => Sep L h
theorem Weak.unbundle {L rs : List HP} : Weak (bundle L :: rs) (L ++ rs) := fun h ⟨a, b, ha, hb, d, e⟩ => ⟨h, Sep.append.2 ⟨a, b, ha, hb, d, e⟩, Heap.Le.refl _⟩
theorem Weak.bundle {L rs : List HP} : Weak (L ++ rs) (bundle L :: rs) := fun h s => by
  obtain ⟨a, b, ha, hb, d, e⟩ := Sep.append.1 s
  exact ⟨h, ⟨a, b, ha, hb, d, e⟩, Heap.Le.refl _⟩
theorem Weak.toEx {X : Type} {p : X → Prop} {s : X → HP} {rs : List HP} (x : X) (hp : p x) : Weak (s x :: rs) (ExP p s :: rs) := Weak.turn .h0 fun a ha => ⟨x, hp, ha⟩
theorem Weak.mid {p q q' : List HP} (w : Weak q q') : Weak (p ++ q) (p ++ q') := by
  induction p with
  | nil => exact w
  | cons a p ih => exact ih.keep
section
variable {C : Cx} {F : Fx} {l : Env} {rs : List HP} {K : Act → World → Prop}
/-- A bundle is opened at its place. -/
theorem St.unbundle (p : List HP) {L q : List HP} (h : St C F l (p ++ (L ++ q)) K) : St C F l (p ++ Go.Proofs.Ytfhjhaogmdaepaa.bundle L :: q) K := St.res (Weak.mid Weak.unbundle) h
end
end Go.Proofs.Ytfhjhaogmdaepaa
