/- The sixteenth part of the program logic: deferred calls. -/
import Derived.Test.YtfhjhaogmdaepaaEngO
import Derived.Defers
set_option linter.unusedVariables false
set_option linter.unusedSimpArgs false
namespace Go.Proofs.Ytfhjhaogmdaepaa
open Go Go.RowKit
/-- A function, called when its caller leaves. -/
def SpecD (C : Cx) (f : FuncId) (args : List Value) (pre : World → Heap → Prop) (R0 RS : List HP) : Prop :=
  ∀ w h, Sep R0 h → Sub C w h → pre w h → ∀ u, CallsD C.P f args.toArray u w (fun e u' w' => u' = u ∧ ∃ v h', e = .returned v ∧ Sep RS h' ∧ Move C w h w' h')
theorem SpecD.enter {C : Cx} {f : FuncId} {fn : Func} {c : Code} {args : List Value} {pre : World → Heap → Prop} {R0 RS : List HP} {post : Value → List HP → Prop}
    (hpost : ∀ v rs, post v rs → rs = RS) (hf : C.P.funcs[f]? = some fn) (hb : fn.body = some c) (n : Nat) (hn : fn.ntmps = n) (hle : Nat.ble args.length n = true)
    (h : ∀ w k, Sep R0 k → Sub C w k → pre w k → St C ⟨n, [], w, k⟩ (envOf 0 args) R0 (c.wp C.P (bodyPost C.P fn fun e w' => ∃ v rs h', e = .returned v ∧ post v rs ∧ Sep rs h' ∧ Move C w k w' h'))) : SpecD C f args pre R0 RS := by
  intro w k hs hu hp u
  refine CallsD.mono (callsD_of_wp (u := u) hf hb (h w k hs hu hp _ w ⟨?_, rfl, ?_⟩ ⟨k, hs, Move.start hu⟩)) ?_
  · have := Nat.le_of_ble_eq_true hle
    simp [hn]; omega
  · intro t v ht
    obtain ⟨_, h2⟩ := envOf_get args 0 t v ht
    have hlt := (List.getElem?_eq_some_iff.1 h2).1
    simp only [Nat.sub_zero] at h2 hlt
    rw [Array.getElem?_append, if_pos (by simpa using hlt)]
    simpa using h2
  · rintro e u' w' ⟨h1, v, rs, h', e1, e2, e3, e4⟩
    obtain rfl := hpost v rs e2
    exact ⟨h1, v, h', e1, e3, e4⟩
def dfr (f : FuncId) (vs : List Value) : Deferred := { target := .fn (.func f) #[], args := vs.toArray }
section
variable {C : Cx} {F : Fx} {l : Env} {rs rs' : List HP} {K : Act → World → Prop} {o : Oper} {Q : Exit → Act → World → Prop} {d : Nat}
theorem W_defer {xs : List Operand} {ts : Array TypeId} {f : FuncId} {vs : List Value} (ho : o.op = .defer { callee := .value (.func f), args := xs.toArray, argTypes := ts }) (hd : o.dst = none) (hx : evL l xs = some vs)
    (k : St C ⟨F.n, dfr f vs :: F.ds, F.w, F.h⟩ l rs K) : OpW C F l rs o K Q := fun a w r n => by
  unfold Oper.wp
  have : (execOp a.eval o).run C.P w = .ok (.defer (dfr f vs)) w := by
    unfold execOp
    have hg2 : a.eval (.func f) = .func (.func f) #[] #[] := rfl
    simp [ho, resolve, hg2, Deferred.ofValue, List.map_toArray, r.evL hx, dfr]
  rw [this]
  show K ({ a with defers := dfr f vs :: a.defers }.put o.dst undef) w
  rw [hd]
  exact k _ w ⟨r.size, by show dfr f vs :: a.defers = _; rw [r.defers], r.get⟩ n
/-- A function that defers calls. -/
theorem Spec.enterD {f : FuncId} {fn : Func} {c : Code} {args : List Value} {pre : World → Heap → Prop} {R0 : List HP} {post : Value → List HP → Prop}
    (hf : C.P.funcs[f]? = some fn) (hb : fn.body = some c) (n : Nat) (hn : fn.ntmps = n) (hle : Nat.ble args.length n = true)
    (h : ∀ w k, Sep R0 k → Sub C w k → pre w k → St C ⟨n, [], w, k⟩ (envOf 0 args) R0 (c.wp C.P (bodyPostD C.P fn fun e w' => ∃ v rs h', e = .returned v ∧ post v rs ∧ Sep rs h' ∧ Move C w k w' h'))) : Spec C f args pre R0 post := by
  intro w k hs hu hp
  refine calls_of_wp_defers hf hb (h w k hs hu hp _ w ⟨?_, rfl, ?_⟩ ⟨k, hs, Move.start hu⟩)
  · have := Nat.le_of_ble_eq_true hle
    simp [hn]; omega
  · intro t v ht
    obtain ⟨_, h2⟩ := envOf_get args 0 t v ht
    have hlt := (List.getElem?_eq_some_iff.1 h2).1
    simp only [Nat.sub_zero] at h2 hlt
    rw [Array.getElem?_append, if_pos (by simpa using hlt)]
    simpa using h2
/-- The end of such a body: one deferred call is run, then the results are read. -/
theorem R_endD {fn : Func} {xs : List ResultVar} {vs dvs : List Value} {f : FuncId} {pre : World → Heap → Prop} {R0 RS rest rs2 : List HP} {post : Value → List HP → Prop} (hds : F.ds = [dfr f dvs]) (hc : callable C.P f = true) (hs : SpecD C f dvs pre R0 RS) (sp : Split rs R0 rest)
    (hp : ∀ w a b, Sep R0 a → Sep rest b → a.Disj b → Move C F.w F.h w (a.join b) → pre w a) (hf : fn.results = xs.toArray) (h : ResV C F l (RS ++ rest) xs vs) (hpost : post (packV vs) rs2) (hw : Weak (RS ++ rest) rs2) :
    St C F l rs (bodyPostD C.P fn (fun e w' => ∃ v rs h', e = .returned v ∧ post v rs ∧ Sep rs h' ∧ Move C F.w F.h w' h') .ret) := fun a w r n => by
  show Leaves C.P fn a.tmps _ a.defers .returning w
  rw [r.defers.trans hds]
  obtain ⟨hh, s, m⟩ := n
  obtain ⟨h', s', le⟩ := sp hh s
  obtain ⟨c, d, hc', hd, dj, rfl⟩ := Sep.append.1 s'
  have m' := m.le le
  have hinv : (invoke (.fn (.func f) #[]) dvs.toArray).run C.P w = .ok (.enter f dvs.toArray) w := by
    simp only [invoke]
    rw [run_call hc]
    simp
  refine leaves_cons (by simp) hinv (CallsD.mono (hs w c hc' (m'.le (Heap.le_join_left _ _)).subOf (hp w c d hc' hd dj m') .returning) ?_)
  rintro e u' w' ⟨rfl, v, h2, rfl, hs2, mv⟩
  obtain ⟨dj2, mv2⟩ := m'.call dj mv
  show Leaves C.P fn a.tmps _ [] (settle .returning) w'
  refine ⟨_, h.results hf r ⟨_, Sep.append.2 ⟨h2, d, hs2, hd, dj2, rfl⟩, mv2⟩, ?_⟩
  obtain ⟨k', s3, le3⟩ := hw _ (Sep.append.2 ⟨h2, d, hs2, hd, dj2, rfl⟩)
  exact ⟨_, rs2, k', rfl, hpost, s3, mv2.le le3⟩
end
end Go.Proofs.Ytfhjhaogmdaepaa
