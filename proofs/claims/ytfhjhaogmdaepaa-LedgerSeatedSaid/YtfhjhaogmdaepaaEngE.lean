/- The fifth part of the program logic: regions whose order Go leaves open: what is quiet is done first, what is loud comes alone. -/
import Derived.Test.YtfhjhaogmdaepaaEngD
import Derived.Deep.Quiet
set_option linter.unusedVariables false
set_option linter.unusedSimpArgs false
namespace Go.Proofs.Ytfhjhaogmdaepaa
open Go Go.RowKit

section
variable {P : Program} {ops : Array Oper} {Q : Exit → Act → World → Prop}

/-- Does operation number j wait for number i, itself or by others? -/
def waitsN (ops : Array Oper) : Nat → Nat → Nat → Bool
  | 0, _, _ => false
  | f + 1, j, i => match ops[j]? with
    | some o => o.after.any fun e => Region.binds .any e && (Nat.beq e.on i || waitsN ops f e.on i)
    | none => false
def waits (ops : Array Oper) (j i : Nat) : Bool := waitsN ops ops.size j i
/-- What is listed waits for nothing that is not. -/
def Closed (ops : Array Oper) (listed : Array Bool) : Prop := ∀ k o, ops[k]? = some o → listed.getD k false = true → ∀ e ∈ o.after, Region.binds .any e = true → listed.getD e.on false = true
theorem Closed.waits {listed : Array Bool} (hc : Closed ops listed) : ∀ (f j i : Nat), waitsN ops f j i = true → (∀ o, ops[j]? = some o → ∀ e ∈ o.after, Region.binds .any e = true → listed.getD e.on false = true) → listed.getD i false = true
  | 0, _, _, h, _ => by cases h
  | f + 1, j, i, h, hj => by
    unfold waitsN at h
    split at h
    · rename_i o ho
      obtain ⟨e, he, hb⟩ := Array.any_eq_true'.1 h
      simp only [Bool.and_eq_true, Bool.or_eq_true] at hb
      have hl := hj o ho e he hb.1
      rcases hb.2 with hb2 | hb2
      · rw [← Nat.eq_of_beq_eq_true hb2]; exact hl
      · exact hc.waits f e.on i hb2 fun o' ho' => hc e.on o' ho' hl
    · cases h
theorem Closed.list {listed : Array Bool} (hc : Closed ops listed) {j : Nat} (hj : j ∈ Region.ready .any ops listed) : Closed ops (listed.setIfInBounds j true) := fun k o ho hk e he hb => by
  by_cases hkj : j = k
  · subst hkj
    obtain ⟨_, o', ho', hall⟩ := mem_ready.1 hj
    rw [ho] at ho'
    obtain rfl := Option.some.inj ho'
    exact getD_set_true (hall e he hb)
  · rw [getD_set_ne false hkj] at hk
    exact getD_set_true (hc k o ho hk e he hb)

/-- Whatever order is picked from here on; S holds behind each operation; one that starts S anew ('new') is waited for. -/
def wpAnyG (P : Program) (ops : Array Oper) (Q : Exit → Act → World → Prop) (new : Nat → Bool) (S : World → Prop) : Nat → Array Bool → Act → World → Prop
  | 0, listed, a, w => Region.ready .any ops listed = [] ∧ Q .normal a w
  | fuel + 1, listed, a, w =>
    (Region.ready .any ops listed = [] → Q .normal a w) ∧
    ∀ i ∈ Region.ready .any ops listed, wpOp P ops Q i (fun a' w' => ∃ S' : World → Prop, (new i = false → ∀ x, S' x → S x) ∧ S' w' ∧ wpAnyG P ops Q new S' fuel (listed.setIfInBounds i true) a' w') a w

theorem wpAny_of_G {new : Nat → Bool} : ∀ (fuel : Nat) (S : World → Prop) (listed : Array Bool) (a : Act) (w : World), wpAnyG P ops Q new S fuel listed a w → wpAny P .any ops Q fuel listed a w
  | 0, _, _, _, _, h => h
  | fuel + 1, S, _, _, _, h => ⟨h.1, fun i hi => wpOp_mono (fun a' w' ⟨S', _, _, h'⟩ => wpAny_of_G fuel S' _ a' w' h') (h.2 i hi)⟩

/-- What an operation yields in every world of a class, which it does not leave: a value in the very world, or a call's. -/
theorem YieldsIn.weak {S S' : World → Prop} {o : Oper} {v : Value} {a : Act} (h : YieldsIn P ops S o v a) (hs : ∀ w, S' w → S w) (hp : ∀ w, S' w → o.quietAt P a S w v → o.quietAt P a S' w v) : YieldsIn P ops S' o v a :=
  h.imp (fun ⟨x, y⟩ => ⟨x, fun w hw => hp w hw (y w (hs w hw))⟩) id

/-- One operation 'oj', apart from 'oi': whether 'oi''s value is already in its temporary makes no difference to it. -/
theorem wpOp_putG {j : Nat} {oi oj : Oper} {v : Value} {Y : Act → Prop} (hj : ops[j]? = some oj) (hap : oi.apart ops oj = true)
    (hsj : ∀ cs b, oj.op ≠ .select cs b) (hY : ∀ a, Y a → ∀ u, Y (a.put oj.dst u)) (hYd : ∀ a d, Y a → Y { a with defers := d :: a.defers })
    (hQ : ∀ c a w, Q (.panic c) (a.put oi.dst v) w → Q (.panic c) a w) {K : Act → World → Prop} {a : Act} {w : World}
    (hy : Y a) (h : wpOp P ops Q j K (a.put oi.dst v) w) :
    wpOp P ops Q j (fun a' w' => Y a' ∧ K (a'.put oi.dst v) w') a w := by
  obtain ⟨h1, h2, h3⟩ := Oper.apart_spec hap
  unfold wpOp at *
  simp only [hj] at *
  rw [wanted_put oj a oi.dst v h1] at h
  split
  · rename_i hw
    simp only [hw, if_true] at h
    rcases h with h | ⟨hasks, hlets⟩
    case inr => exact .inr ⟨by unfold Oper.asks at *; rw [execOp_put oj hsj a oi.dst v h1] at hasks; exact hasks, hlets⟩
    refine .inl ?_
    unfold Oper.wp at *
    rw [execOp_put oj hsj a oi.dst v h1] at h
    generalize (execOp a.eval oj).run P w = r at *
    cases r with
    | ok n w' =>
      cases n <;> simp only [Oper.upon] at h ⊢
      case value u => exact ⟨hY _ hy u, by rw [← Act.put_comm a v u h2]; exact h⟩
      case skip => exact ⟨hY _ hy _, by rw [← Act.put_comm a v undef h2]; exact h⟩
      case defer d =>
        refine ⟨hY _ (hYd _ d hy) _, ?_⟩
        rw [← Act.put_comm _ v undef h2, ← Act.put_defers]
        exact h
      case enter f args =>
        refine Calls.mono h fun e w'' he => ?_
        cases e with
        | returned u => exact ⟨hY _ hy u, by rw [← Act.put_comm a v u h2]; exact he⟩
        | panicked c => exact hQ _ _ _ he
        | outgrown => exact he
      case row row args => exact Rows.mono h fun u w'' he => ⟨hY _ hy u, by rw [← Act.put_comm a v u h2]; exact he⟩
    | halt x w' =>
      cases x <;> simp only [Oper.upon] at h ⊢
      case panic u => exact hQ _ _ _ h
  · rename_i hw
    simp only [hw] at h
    exact ⟨hY _ hy _, by rw [← Act.put_comm a v undef h2]; exact h⟩

/-- What the quiet operation keeps on yielding while others come up: in every class within S that the program may come to. -/
def Holds (P : Program) (ops : Array Oper) (S : World → Prop) (o : Oper) (v : Value) (a : Act) : Prop :=
  (Region.wanted o (yielded ops a.tmps) = true ∧ ∀ w, S w → (execOp a.eval o).run P w = .ok (.value v) w) ∨
  (Region.wanted o (yielded ops a.tmps) = false ∧ v = undef)
theorem Holds.weak {S S' : World → Prop} {o : Oper} {v : Value} {a : Act} (h : Holds P ops S o v a) (hs : ∀ w, S' w → S w) : Holds P ops S' o v a :=
  h.imp (fun ⟨x, y⟩ => ⟨x, fun w hw => y w (hs w hw)⟩) id
theorem Holds.of_same {S : World → Prop} {o : Oper} {v : Value} {a a' : Act} (hy : Holds P ops S o v a) (he : execOp a'.eval o = execOp a.eval o)
    (hw : Region.wanted o (yielded ops a'.tmps) = Region.wanted o (yielded ops a.tmps)) : Holds P ops S o v a' := by
  unfold Holds at *
  rw [he, hw]
  exact hy
theorem Holds.wpOp {S : World → Prop} {i : Nat} {o : Oper} {v : Value} {a : Act} (hi : ops[i]? = some o) (hy : Holds P ops S o v a) {K : Act → World → Prop} {w : World} (hS : S w) (h : K (a.put o.dst v) w) : wpOp P ops Q i K a w := by
  unfold Go.wpOp
  simp only [hi]
  rcases hy with ⟨hw, hv⟩ | ⟨hw, rfl⟩
  · simp only [hw, if_true, Oper.wp, hv w hS, Oper.upon]; exact .inl h
  · simp only [hw, Bool.false_eq_true, if_false]; exact h

/-- A quiet operation may be taken first. -/
theorem wpAnyG_first {new : Nat → Bool} {i : Nat} {oi : Oper} {v : Value} (hi : ops[i]? = some oi) (hsel : ∀ (j : Nat) (o : Oper) cs b, ops[j]? = some o → o.op ≠ .select cs b)
    (hQ : ∀ c a w, Q (.panic c) (a.put oi.dst v) w → Q (.panic c) a w) {G : (World → Prop) → Act → Prop} (gh : ∀ S a, G S a → Holds P ops S oi v a) (gs : ∀ S a a', G S a → execOp a'.eval oi = execOp a.eval oi → Region.wanted oi (yielded ops a'.tmps) = Region.wanted oi (yielded ops a.tmps) → G S a')
    (gw : ∀ S S' a, G S a → (∀ w, S' w → S w) → G S' a) (gn : (∀ j, new j = true → waits ops j i = true) ∨ ∀ S S' a, G S a → G S' a) :
    ∀ (fuel : Nat) (S : World → Prop) (listed : Array Bool) (a : Act) (w : World),
      (∀ j oj, ops[j]? = some oj → j ≠ i → listed.getD j true = false → (∀ e ∈ oj.after, Region.binds .any e = true → e.on ≠ i) → oi.apart ops oj = true) →
      Closed ops listed → i ∈ Region.ready .any ops listed → G S a → S w →
      wpAnyG P ops Q new S fuel (listed.setIfInBounds i true) (a.put oi.dst v) w → wpAnyG P ops Q new S (fuel + 1) listed a w := by
  intro fuel
  induction fuel with
  | zero =>
    intro S listed a w _ hcl hr hy hS H
    refine ⟨fun h => (by rw [h] at hr; cases hr), fun j hj => ?_⟩
    by_cases hji : j = i
    · subst hji; exact (gh _ _ hy).wpOp hi hS ⟨S, fun _ _ h => h, hS, H⟩
    · have := ready_mono hj hji
      rw [H.1] at this
      cases this
  | succ fuel ih =>
    intro S listed a w hfree hcl hr hy hS H
    refine ⟨fun h => (by rw [h] at hr; cases hr), fun j hj => ?_⟩
    by_cases hji : j = i
    · subst hji; exact (gh _ _ hy).wpOp hi hS ⟨S, fun _ _ h => h, hS, H⟩
    · have h1 := H.2 j (ready_mono hj hji)
      obtain ⟨hjun, oj, hoj, hall⟩ := mem_ready.1 hj
      have hnot : ∀ e ∈ oj.after, Region.binds .any e = true → e.on ≠ i := fun e he hb heq => by
        have h1 := hall e he hb
        have h0 := (mem_ready.1 hr).1
        rw [heq] at h1
        rcases Nat.lt_or_ge i listed.size with h' | h'
        · simp [h'] at h0 h1; rw [h0] at h1; cases h1
        · simp [Array.getElem?_eq_none h'] at h1
      have hap := hfree j oj hoj hji hjun hnot
      obtain ⟨_, _, h3⟩ := Oper.apart_spec hap
      have h2 := wpOp_putG (Y := fun a' => G S a') hoj hap (fun cs b => hsel j oj cs b hoj)
        (fun a' hy' u => gs _ _ _ hy' (execOp_put oi (fun cs b => hsel i oi cs b hi) a' oj.dst u h3) (wanted_put oi a' oj.dst u h3)) (fun a' d hy' => gs _ _ _ hy' rfl rfl) hQ hy h1
      have hfree' : ∀ k ok, ops[k]? = some ok → k ≠ i → (listed.setIfInBounds j true).getD k true = false →
          (∀ e ∈ ok.after, Region.binds .any e = true → e.on ≠ i) → oi.apart ops ok = true := fun k ok hk hki hun hno => by
        refine hfree k ok hk hki ?_ hno
        by_cases hjk : j = k
        · subst hjk; exact hjun
        · rw [getD_set_ne true hjk] at hun; exact hun
      refine wpOp_mono (fun a' w' ⟨hy', S', hs', hS', h3'⟩ => ?_) h2
      have hyn : G S' a' := by
        rcases gn with hw | hany
        · cases hn : new j with
          | false => exact gw _ _ _ hy' (hs' hn)
          | true =>
            exfalso
            have hw := hcl.waits _ _ _ (hw j hn) fun o ho => by rw [hoj] at ho; obtain rfl := Option.some.inj ho; exact hall
            have h0 := (mem_ready.1 hr).1
            rcases Nat.lt_or_ge i listed.size with h' | h'
            · simp [h'] at h0 hw; rw [h0] at hw; cases hw
            · simp [Array.getElem?_eq_none h'] at hw
        · exact hany S S' a' hy'
      refine ⟨S', hs', hS', ih S' (listed.setIfInBounds j true) a' w' hfree' (hcl.list hj) (ready_mono hr (Ne.symm hji)) hyn hS' ?_⟩
      rw [Array.setIfInBounds_comm _ _ hji]
      exact h3'

/-- The operations in the order in which they are walked: 0 what yields in any world, 1 what yields in the worlds at hand, 2 what comes alone and keeps them, 3 what comes alone and starts anew. -/
def schGo (ops : Array Oper) (all : List (Nat × Nat)) : List (Nat × Nat) → Array Bool → Bool
  | [], listed => (Region.ready .any ops listed).isEmpty
  | (i, k) :: rest, listed => (Region.ready .any ops listed).contains i &&
    (bif Nat.ble k 1 then Region.free .any ops listed i && (Nat.beq k 0 || all.all fun jk => !(Nat.beq jk.2 3) || waits ops jk.1 i) else Region.ready .any ops listed == [i]) && schGo ops all rest (listed.setIfInBounds i true)
def schB (ops : Array Oper) (order : List (Nat × Nat)) : Bool := Region.noSelect ops && Nat.beq order.length ops.size && schGo ops order order (Array.replicate ops.size false)

def wpSch (P : Program) (ops : Array Oper) (Q : Exit → Act → World → Prop) : List (Nat × Nat) → (World → Prop) → Act → World → Prop
  | [], _, a, w => Q .normal a w
  | (i, 0) :: rest, S, a, w => ∃ o v, ops[i]? = some o ∧ (∀ S', Holds P ops S' o v a) ∧ wpSch P ops Q rest S (a.put o.dst v) w
  | (i, 1) :: rest, S, a, w => ∃ o v, ops[i]? = some o ∧ Holds P ops S o v a ∧ wpSch P ops Q rest S (a.put o.dst v) w
  | (i, 2) :: rest, S, a, w => wpOp P ops Q i (fun a' w' => ∃ S' : World → Prop, (∀ x, S' x → S x) ∧ S' w' ∧ wpSch P ops Q rest S' a' w') a w
  | (i, 3) :: rest, _, a, w => wpOp P ops Q i (fun a' w' => ∃ S' : World → Prop, S' w' ∧ wpSch P ops Q rest S' a' w') a w
  | _, _, _, _ => False

def newOf (all : List (Nat × Nat)) (i : Nat) : Bool := all.any fun jk => Nat.beq jk.1 i && Nat.beq jk.2 3

theorem wpSch_sound (hs : Region.noSelect ops = true) (hQ : ∀ d v c a w, Q (.panic c) (a.put d v) w → Q (.panic c) a w) (all : List (Nat × Nat)) :
    ∀ (order : List (Nat × Nat)) (S : World → Prop) (listed : Array Bool) (a : Act) (w : World), (∀ x, x ∈ order → x ∈ all) → schGo ops all order listed = true → Closed ops listed → S w → wpSch P ops Q order S a w → wpAnyG P ops Q (newOf all) S order.length listed a w
  | [], S, listed, a, w, _, hB, _, _, h => ⟨by simpa [schGo] using hB, h⟩
  | (i, k) :: rest, S, listed, a, w, hall, hB, hcl, hS, h => by
    unfold schGo at hB
    simp only [Bool.and_eq_true] at hB
    obtain ⟨⟨hr, hk⟩, hB'⟩ := hB
    have hrest := fun x hx => hall x (List.mem_cons_of_mem _ hx)
    have hcl' := hcl.list (j := i) (by simpa using hr)
    match k, hk, h with
    | 0, hk, h =>
      obtain ⟨o, v, ho, hy, hn⟩ := h
      simp only [Nat.ble, cond_true, Bool.and_eq_true] at hk
      exact wpAnyG_first ho (Region.noSelect_spec hs) (hQ _ _) (G := fun _ a => ∀ S', Holds P ops S' o v a) (fun S a g => g S) (fun S a a' g e1 e2 S' => (g S').of_same e1 e2) (fun _ _ _ g _ => g) (.inr fun _ _ _ g => g)
        rest.length S listed a w (Region.free_spec ho hk.1) hcl (by simpa using hr) hy hS (wpSch_sound hs hQ all rest S _ _ _ hrest hB' hcl' hS hn)
    | 1, hk, h =>
      obtain ⟨o, v, ho, hy, hn⟩ := h
      simp only [Nat.ble, cond_true, Bool.and_eq_true] at hk
      have hw : ∀ j, newOf all j = true → waits ops j i = true := fun j hj => by
        unfold newOf at hj
        obtain ⟨jk, hm, he⟩ := List.any_eq_true.1 hj
        simp only [Bool.and_eq_true] at he
        have h2 := hk.2
        simp only [Bool.or_eq_true] at h2
        rcases h2 with h2 | h2
        · cases h2
        · have h3 := List.all_eq_true.1 h2 jk hm
          simp only [he.2, Bool.not_true, Bool.false_or] at h3
          rwa [Nat.eq_of_beq_eq_true he.1] at h3
      exact wpAnyG_first ho (Region.noSelect_spec hs) (hQ _ _) (G := fun S a => Holds P ops S o v a) (fun S a g => g) (fun S a a' g e1 e2 => g.of_same e1 e2) (fun _ _ _ g l => g.weak l) (.inl hw)
        rest.length S listed a w (Region.free_spec ho hk.1) hcl (by simpa using hr) hy hS (wpSch_sound hs hQ all rest S _ _ _ hrest hB' hcl' hS hn)
    | 2, hk, h =>
      have hk' : Region.ready .any ops listed = [i] := by simpa [Nat.ble] using hk
      refine ⟨fun h0 => (by rw [hk'] at h0; cases h0), fun j hj => ?_⟩
      rw [hk'] at hj
      obtain rfl : j = i := by simpa using hj
      exact wpOp_mono (fun a' w' ⟨S', hs', hS', hn⟩ => ⟨S', fun _ => hs', hS', wpSch_sound hs hQ all rest S' _ _ _ hrest hB' hcl' hS' hn⟩) h
    | 3, hk, h =>
      have hk' : Region.ready .any ops listed = [i] := by simpa [Nat.ble] using hk
      refine ⟨fun h0 => (by rw [hk'] at h0; cases h0), fun j hj => ?_⟩
      rw [hk'] at hj
      obtain rfl : j = i := by simpa using hj
      have hnw : newOf all j = true := by
        unfold newOf
        exact List.any_eq_true.2 ⟨(j, 3), hall _ List.mem_cons_self, by simp⟩
      exact wpOp_mono (fun a' w' ⟨S', hS', hn⟩ => ⟨S', fun hf => (by rw [hnw] at hf; cases hf), hS', wpSch_sound hs hQ all rest S' _ _ _ hrest hB' hcl' hS' hn⟩) h
    | k + 4, hk, h => exact h.elim

theorem getD_none (n k : Nat) : (Array.replicate n false).getD k false = false := by
  unfold Array.getD; split <;> simp
theorem wp_region_sch {id : Nat} {a : Act} {w : World} {S : World → Prop} (order : List (Nat × Nat)) (hm : P.follows .mixedOrders = true) (hB : schB ops order = true) (hQ : ∀ d v c a w, Q (.panic c) (a.put d v) w → Q (.panic c) a w)
    (hS : S { w with drawn := w.drawn + 1 }) (h : wpSch P ops Q order S a { w with drawn := w.drawn + 1 }) : (Code.region id ops true).wp P Q a w := by
  unfold schB at hB
  simp only [Bool.and_eq_true] at hB
  obtain ⟨⟨h1, h2⟩, h3⟩ := hB
  have h2 := Nat.eq_of_beq_eq_true h2
  refine wp_region_any hm ?_
  rw [← h2]
  refine wpAny_of_G (new := newOf order) order.length S _ _ _ (wpSch_sound h1 hQ order order S _ a _ (fun _ h => h) ?_ (fun k o _ hk => by rw [getD_none] at hk; cases hk) hS h)
  rw [h2]; exact h3
end

/-! ### The same in the judgement -/
section
variable {C : Cx} {F : Fx} {l : Env} {rs rs' : List HP} {o : Oper} {Q : Exit → Act → World → Prop} {ops : Array Oper} {d i : Nat} {v : Value} {rest : List (Nat × Nat)}

/-- A panic's end looks at no temporary. -/
def QOk (Q : Exit → Act → World → Prop) : Prop := ∀ d v c a w, Q (.panic c) (a.put d v) w → Q (.panic c) a w
theorem QOk.body {P : Program} {fn : Func} {R : Ending → World → Prop} : QOk (bodyPost P fn R) := fun d v c a w h => by
  obtain ⟨h1, h2⟩ := h
  refine ⟨?_, h2⟩
  cases d <;> exact h1
theorem QOk.then {k : Act → World → Prop} (h : QOk Q) : QOk (Exit.then k Q) := fun d v c a w x => h d v c a w x
theorem QOk.block {j : Nat} (h : QOk Q) : QOk (Exit.inBlock j Q) := fun d v c a w x => h d v c a w x

/-- The walk of a region whose order is open. -/
def StO (C : Cx) (F : Fx) (ops : Array Oper) (Q : Exit → Act → World → Prop) (order : List (Nat × Nat)) (l : Env) (rs : List HP) : Prop := St C F l rs (wpSch C.P ops Q order (Now C F rs))

theorem R_open {id : Nat} {os : List Oper} (order : List (Nat × Nat)) (hm : C.P.follows .mixedOrders = true) (hB : schB os.toArray order = true) (hQ : QOk Q) (h : StO C F os.toArray Q order l rs) : St C F l rs ((Code.region id os.toArray true).wp C.P Q) := fun a w r n =>
  wp_region_sch order hm hB hQ (n.drew _ (Nat.le_succ _)) (h a _ r (n.drew _ (Nat.le_succ _)))
theorem O_nil (h : St C F l rs (Q .normal)) : StO C F ops Q [] l rs := h
theorem O_pure (ho : ops[i]? = some o) (hw : wantedE ops l o = true) (hd : o.dst = some d) (hn : Nat.blt d F.n = true) (hv : OpP C F l o v) (k : StO C F ops Q rest ((d, v) :: l) rs) : StO C F ops Q ((i, 0) :: rest) l rs := fun a w r n =>
  ⟨o, v, ho, fun S' => .inl ⟨wanted_of r hw, fun w' _ => hv a w' r⟩, by rw [hd]; exact k _ _ (r.put hn v) n⟩
theorem O_val (ho : ops[i]? = some o) (hw : wantedE ops l o = true) (hd : o.dst = some d) (hn : Nat.blt d F.n = true) (hv : OpV C F l rs o v) (k : StO C F ops Q rest ((d, v) :: l) rs) : StO C F ops Q ((i, 1) :: rest) l rs := fun a w r n =>
  ⟨o, v, ho, .inl ⟨wanted_of r hw, fun w' hw' => hv a w' r hw'⟩, by rw [hd]; exact k _ _ (r.put hn v) n⟩
theorem O_no (ho : ops[i]? = some o) (hw : unwantedE ops l o = true) (hd : o.dst = some d) (hn : Nat.blt d F.n = true) (k : StO C F ops Q rest ((d, undef) :: l) rs) : StO C F ops Q ((i, 0) :: rest) l rs := fun a w r n =>
  ⟨o, undef, ho, fun S' => .inr ⟨unwanted_of r hw, rfl⟩, by rw [hd]; exact k _ _ (r.put hn undef) n⟩
/-- What comes alone and keeps what the worlds at hand tell: the resources behind it hold those ahead of it. -/
theorem O_keep (ho : ops[i]? = some o) (hw : wantedE ops l o = true) (h : OpW C F l rs o (fun a w => ∃ S' : World → Prop, (∀ x, S' x → Now C F rs x) ∧ S' w ∧ wpSch C.P ops Q rest S' a w) Q) : StO C F ops Q ((i, 2) :: rest) l rs := fun a w r n => by
  show wpOp C.P ops Q i _ a w
  unfold wpOp
  simp only [ho, wanted_of r hw, if_true]
  exact .inl (h a w r n)
theorem O_new (ho : ops[i]? = some o) (hw : wantedE ops l o = true) (h : OpW C F l rs o (fun a w => ∃ S' : World → Prop, S' w ∧ wpSch C.P ops Q rest S' a w) Q) : StO C F ops Q ((i, 3) :: rest) l rs := fun a w r n => by
  show wpOp C.P ops Q i _ a w
  unfold wpOp
  simp only [ho, wanted_of r hw, if_true]
  exact .inl (h a w r n)
/-- A loud operation that is not wanted. -/
theorem O_no2 (ho : ops[i]? = some o) (hw : unwantedE ops l o = true) (hd : o.dst = some d) (hn : Nat.blt d F.n = true) (k : StO C F ops Q rest ((d, undef) :: l) rs) : StO C F ops Q ((i, 2) :: rest) l rs := fun a w r n => by
  show wpOp C.P ops Q i _ a w
  unfold wpOp
  simp only [ho, unwanted_of r hw, Bool.false_eq_true, if_false]
  exact ⟨Now C F rs, fun _ h => h, n, by rw [hd]; exact k _ _ (r.put hn undef) n⟩
theorem K_keep {l2 : Env} (hw : Weak rs' rs) (k : StO C F ops Q rest l2 rs') : St C F l2 rs' (fun a w => ∃ S' : World → Prop, (∀ x, S' x → Now C F rs x) ∧ S' w ∧ wpSch C.P ops Q rest S' a w) := fun a w r n => ⟨Now C F rs', fun x nx => nx.weak hw, n, k a w r n⟩
theorem K_new {l2 : Env} (k : StO C F ops Q rest l2 rs') : St C F l2 rs' (fun a w => ∃ S' : World → Prop, S' w ∧ wpSch C.P ops Q rest S' a w) := fun a w r n => ⟨Now C F rs', n, k a w r n⟩
end
end Go.Proofs.Ytfhjhaogmdaepaa
