/- The seventeenth part of the program logic: maps by their keys; bytes of a text; comparisons of maps with nil. -/
import Derived.Test.YtfhjhaogmdaepaaEngP
import Derived.Laws.IdiomStrings
set_option linter.unusedVariables false
set_option linter.unusedSimpArgs false
set_option linter.unusedSectionVars false
namespace Go.Proofs.Ytfhjhaogmdaepaa
open Go Go.RowKit
/-- Where a key stands, and what is held for it. -/
def findK {κ : Type} [DecidableEq κ] (k : κ) : List (κ × Value) → Nat → Option (Nat × Value)
  | [], _ => none
  | x :: L, i => if k = x.1 then some (i, x.2) else findK k L (i + 1)
/-- A value is held for a key. -/
def setK {κ : Type} [DecidableEq κ] (k : κ) (v : Value) (L : List (κ × Value)) : List (κ × Value) := match findK k L 0 with
  | some (i, _) => L.set i (k, v)
  | none => L ++ [(k, v)]
section
variable {κ : Type} [DecidableEq κ]
theorem findK_some {k : κ} : ∀ {L : List (κ × Value)} {i j : Nat} {v : Value}, findK k L i = some (j, v) → i ≤ j ∧ L[j - i]? = some (k, v) ∧ ∀ m, m < j - i → ∀ x, L[m]? = some x → x.1 ≠ k
  | [], _, _, _, h => by cases h
  | x :: L, i, j, v, h => by
    unfold findK at h
    split at h
    · rename_i e
      simp only [Option.some.injEq, Prod.mk.injEq] at h
      obtain ⟨rfl, rfl⟩ := h
      refine ⟨Nat.le_refl _, by simp [e], fun m hm => by omega⟩
    · rename_i e
      obtain ⟨h1, h2, h3⟩ := findK_some h
      refine ⟨by omega, ?_, ?_⟩
      · rw [show j - i = (j - (i + 1)) + 1 by omega]; simpa using h2
      · intro m hm y hy
        cases m with
        | zero => simp at hy; subst hy; exact fun e' => e e'.symm
        | succ m => exact h3 m (by omega) y (by simpa using hy)
theorem findK_none {k : κ} : ∀ {L : List (κ × Value)} {i : Nat}, findK k L i = none ↔ ∀ x ∈ L, x.1 ≠ k
  | [], _ => by simp [findK]
  | x :: L, i => by
    unfold findK
    split
    · rename_i e; subst e; simp
    · rename_i e
      rw [findK_none (L := L)]
      simp [Ne.symm e]
/-- How keys are compared. -/
structure KeyOK (P : Program) (kt : TypeId) (key : κ → Value) (ok : κ → Prop) : Prop where
  check : ∀ (e : Bool) (k : κ) (w : World), (Instr.checkKey e 10000 kt (key k)).run P w = .ok () w
  find : ∀ (k : κ) (L : List (κ × Value)) (es : List MapEntry), ok k → (∀ x ∈ L, ok x.1) → es.map (fun e => (e.key, e.val)) = L.map (fun x => (key x.1, x.2)) → ∀ w : World, (Instr.findKey kt (key k) es).run P w = .ok (findK k L 0) w
  same : ∀ k, Instr.sameBits 10000 (key k) (key k) = true
/-- A map of the call's own. -/
def mapK (key : κ → Value) (b : Nat) (L : List (κ × Value)) : HP := fun h => ∃ es clock, es.toList.map (fun e => (e.key, e.val)) = L.map (fun x => (key x.1, x.2)) ∧ mapH b es clock h
theorem mapK_new {key : κ → Value} {b : Nat} {rs : List HP} : Weak (mapH b #[] 0 :: rs) (mapK key b [] :: rs) := Weak.turn .h0 fun a h => ⟨_, _, rfl, h⟩
section
variable {C : Cx} {F : Fx} {l : Env} {rs rs' : List HP} {K : Act → World → Prop} {o : Oper} {Q : Exit → Act → World → Prop} {d : Nat} {key : κ → Value} {ok : κ → Prop} {b : Nat} {L L' : List (κ × Value)}
theorem Now.getMapK {w : World} (n : Now C F rs w) (m : Has rs (mapK key b L) (mapK key b L) rs) : ∃ es clock, es.toList.map (fun e => (e.key, e.val)) = L.map (fun x => (key x.1, x.2)) ∧ w.heap[b]? = some (.map es clock) := by
  obtain ⟨a, ⟨es, clock, e, rfl⟩, h⟩ := n.has m
  exact ⟨es, clock, e, (h b _ (Heap.one_same _ _)).1⟩
theorem Now.putMapK {w w' : World} (n : Now C F rs w) (m : Has rs (mapK key b L) (mapK key b L') rs')
    (h : ∀ es clock, es.toList.map (fun e => (e.key, e.val)) = L.map (fun x => (key x.1, x.2)) → w.heap[b]? = some (.map es clock) → ∃ es' clock', es'.toList.map (fun e => (e.key, e.val)) = L'.map (fun x => (key x.1, x.2)) ∧ PutRel w b (.map es' clock') w') : Now C F rs' w' := by
  obtain ⟨k, s, mv⟩ := n
  obtain ⟨a, c, ⟨es, clock, e, rfl⟩, dj, rfl, back⟩ := Sep.take m s
  have hb := mv.sub b _ (Heap.le_join_left _ _ b _ (Heap.one_same _ _))
  obtain ⟨es', clock', e', p⟩ := h es clock e hb
  obtain ⟨dj2, mv2⟩ := mv.put dj p.os p.tape p.output p.drawn p.size p.at_ p.other
  exact ⟨_, back _ ⟨es', clock', e', rfl⟩ dj2, mv2⟩
theorem V_lookupK {t kt e : Nat} {x ix : Operand} {okc : Bool} {k : κ} {zv : Value} (ho : o.op = .lookup t x ix okc) (ht : C.P.underlying t = some (.map kt e)) (hk : KeyOK C.P kt key ok) (hx : ev l x = some (.map (some b))) (hi : ev l ix = some (key k)) (h1 : ok k) (h2 : ∀ x ∈ L, ok x.1)
    (m : Has rs (mapK key b L) (mapK key b L) rs) (hz : ∀ w : World, (zeroValue e).run C.P w = .ok zv w) : OpV C F l rs o (lookV okc (findK k L 0) zv) := fun a w r n => by
  obtain ⟨es, clock, he, hb⟩ := n.getMapK m
  have hf := hk.find k L es.toList h1 h2 he w
  have hc := hk.check es.isEmpty k w
  cases hr : findK k L 0 with
  | none => rw [hr] at hf; cases okc <;> simp [execOp, ho, r.ev hx, r.ev hi, Instr.lookup, run_underlying ht, MapKept.run_getObj_map hb, hc, hf, hz, lookV, Result.andThen]
  | some p => rw [hr] at hf; obtain ⟨q, v⟩ := p; cases okc <;> simp [execOp, ho, r.ev hx, r.ev hi, Instr.lookup, run_underlying ht, MapKept.run_getObj_map hb, hc, hf, hz, lookV, Result.andThen]
theorem V_lenMapK {t kt e : Nat} {x : Operand} (ho : o.op = .call { callee := .builtin .len, args := #[x], argTypes := #[t] }) (ht : C.P.underlying t = some (.map kt e)) (hx : ev l x = some (.map (some b)))
    (m : Has rs (mapK key b L) (mapK key b L) rs) : OpV C F l rs o (.int .i64 (L.length : Int)) := fun a w r n => by
  obtain ⟨es, clock, he, hb⟩ := n.getMapK m
  have hl : es.size = L.length := by have := congrArg List.length he; simpa using this
  simp [execOp, ho, resolve, invoke, builtin, r.ev hx, Builtin.len_, run_underlying ht, MapKept.run_getObj_map hb, goInt, Result.andThen, hl]
theorem run_keyThatStays {P : Program} {w : World} {x : Value} (h : Instr.sameBits 10000 x x = true) : (Instr.keyThatStays x x).run P w = .ok x w := by
  unfold Instr.keyThatStays
  rw [if_pos h]
  rfl
/-- A value is held for a key, new or not. -/
theorem W_mapSet {t kt e : Nat} {x ix y : Operand} {k : κ} {v : Value} (ho : o.op = .mapUpdate t x ix y) (hd : o.dst = none) (ht : C.P.underlying t = some (.map kt e)) (hk : KeyOK C.P kt key ok) (hx : ev l x = some (.map (some b))) (hi : ev l ix = some (key k)) (hy : ev l y = some v) (h1 : ok k) (h2 : ∀ x ∈ L, ok x.1)
    (m0 : Has rs (mapK key b L) (mapK key b L) rs) (m : Has rs (mapK key b L) (mapK key b (setK k v L)) rs') (kk : St C F l rs' K) : OpW C F l rs o K Q := fun a w r n => by
  obtain ⟨es, clock, he, hb⟩ := n.getMapK m0
  have hf := hk.find k L es.toList h1 h2 he w
  have hc := hk.check false k w
  unfold Oper.wp
  cases hr : findK k L 0 with
  | none =>
    rw [hr] at hf
    have : (execOp a.eval o).run C.P w = .ok .skip { w with heap := w.heap.setIfInBounds b (.map (es.push { key := key k, val := v, born := clock }) (clock + 1)) } := by
      simp [execOp, ho, r.ev hx, r.ev hi, r.ev hy, Instr.mapUpdate, run_underlying ht, MapKept.run_getObj_map hb, hc, hf, MapKept.run_setObj_map _ hb, Result.andThen]
    rw [this]
    show K (a.put o.dst undef) _
    rw [hd]
    refine kk a _ r (n.putMapK m fun es2 clock2 he2 hb2 => ?_)
    rw [hb] at hb2
    simp only [Option.some.injEq, Obj.map.injEq] at hb2
    obtain ⟨rfl, rfl⟩ := hb2
    refine ⟨_, _, ?_, put_map hb⟩
    unfold setK
    rw [hr]
    simp [he]
  | some p =>
    obtain ⟨q, u⟩ := p
    rw [hr] at hf
    obtain ⟨_, hq, _⟩ := findK_some hr
    rw [Nat.sub_zero] at hq
    have hql := (List.getElem?_eq_some_iff.1 hq).1
    have hlen : es.size = L.length := by have := congrArg List.length he; simpa using this
    have heq : (es.toList[q]?).map (fun e => (e.key, e.val)) = some (key k, u) := by
      have := congrArg (fun l => l[q]?) he
      simp only [List.getElem?_map, hq, Option.map_some] at this
      exact this
    have hkey : ((es[q]?).map (·.key)).getD (key k) = key k := by
      rw [← Array.getElem?_toList]
      cases hh : es.toList[q]? with
      | none => rw [hh] at heq; cases heq
      | some en => rw [hh] at heq; simp only [Option.map_some, Option.some.injEq, Prod.mk.injEq] at heq; simp [heq.1]
    have hst := run_keyThatStays (P := C.P) (w := w) (hk.same k)
    have : (execOp a.eval o).run C.P w = .ok .skip { w with heap := w.heap.setIfInBounds b (.map (es.modify q fun e => { e with key := key k, val := v }) clock) } := by
      simp [execOp, ho, r.ev hx, r.ev hi, r.ev hy, Instr.mapUpdate, run_underlying ht, MapKept.run_getObj_map hb, hc, hf, hkey, hst, MapKept.run_setObj_map _ hb, Result.andThen]
    rw [this]
    show K (a.put o.dst undef) _
    rw [hd]
    refine kk a _ r (n.putMapK m fun es2 clock2 he2 hb2 => ?_)
    rw [hb] at hb2
    simp only [Option.some.injEq, Obj.map.injEq] at hb2
    obtain ⟨rfl, rfl⟩ := hb2
    refine ⟨_, _, ?_, put_map hb⟩
    unfold setK
    rw [hr]
    apply List.ext_getElem?
    intro i
    have hi := congrArg (fun l => l[i]?) he
    simp only [List.getElem?_map] at hi
    simp only [List.getElem?_map, Array.getElem?_toList, Array.getElem?_modify, List.getElem?_set]
    by_cases hqi : q = i
    · subst hqi
      simp only [if_true, hql]
      have : q < es.size := by omega
      simp [this]
    · rw [if_neg hqi, if_neg hqi]
      rw [← Array.getElem?_toList]
      exact hi
theorem W_makeMapK {t : Nat} (key : κ → Value) (ho : o.op = .makeMap t none) (hd : o.dst = some d) (hn : Nat.blt d F.n = true) (k : ∀ b, St C F ((d, .map (some b)) :: l) (mapK key b [] :: rs) K) : OpW C F l rs o K Q :=
  W_makeMap ho hd hn fun b => St.res mapK_new (k b)
/-- A map against nil. -/
theorem P_eqlMap {t t' kt e : Nat} {x y : Operand} {p : Option Nat} (ho : o.op = .binOp .eql t x y t') (ht : C.P.underlying t = some (.map kt e)) (hx : ev l x = some (.map p)) (hy : ev l y = some (.map none)) : OpP C F l o (.bool p.isNone) := fun a w r => by
  have : (Op.equal t (.map p) (.map none)).run C.P w = .ok p.isNone w := by
    have : ∀ n, (Op.equalIn (n + 1) t (.map p) (.map none)).run C.P w = .ok p.isNone w := fun n => by
      simp only [Op.equalIn, Sem.run_bind, run_underlying ht, Result.andThen_ok]
      cases p <;> simp
    exact this 9999
  simp [execOp, ho, r.ev hx, r.ev hy, binOp, eqGuard, this]
end
end
theorem keyU64 {P : Program} {kt : TypeId} (h : P.underlying kt = some (.int .u64)) : KeyOK P kt (fun k : Int => .int .u64 k) (fun _ => True) where
  check e k w := by
    have : ∀ n, (Instr.checkKey e (n + 1) kt (.int .u64 k)).run P w = .ok () w := fun n => by simp [Instr.checkKey, run_underlying h]
    exact this 9999
  find k L es _ _ he w := by
    have key : ∀ (L : List (Int × Value)) (es : List MapEntry) (i : Nat), es.map (fun e => (e.key, e.val)) = L.map (fun x => (Value.int .u64 x.1, x.2)) → Instr.findNow (.int .u64) (.int .u64 k) es i = some (findK k L i) := by
      intro L
      induction L with
      | nil => intro es i he; have : es = [] := by simpa using he
               subst this; rfl
      | cons x L ih =>
        intro es i he
        cases es with
        | nil => simp at he
        | cons e es =>
          simp only [List.map_cons, List.cons.injEq, Prod.mk.injEq] at he
          obtain ⟨⟨h1, h2⟩, h3⟩ := he
          by_cases hk : k = x.1
          · have hs : Instr.sameNow (.int .u64) (.int .u64 k) e.key = some true := by rw [h1]; simp [Instr.sameNow, hk]
            unfold findK
            rw [if_pos hk]
            simp [Instr.findNow, hs, h2]
          · have hs : Instr.sameNow (.int .u64) (.int .u64 k) e.key = some false := by rw [h1]; simp [Instr.sameNow, hk]
            unfold findK
            rw [if_neg hk]
            simp [Instr.findNow, hs, ih es (i + 1) h3]
    unfold Instr.findKey
    simp only [Sem.run_bind, run_underlying h, Result.andThen_ok, key L es 0 he, Sem.run_pure]
  same k := by
    have : ∀ n, Instr.sameBits n (.int .u64 k) (.int .u64 k) = true := fun n => by cases n <;> simp [Instr.sameBits]
    exact this 10000
/-- A record of a number and a text. -/
def recB (P : Program) (t : Nat) : Bool := match P.underlying t with
  | some (.struct fs) => !P.stoodInHeld t && (match fs.toList with
    | [f, g] => f.offset == 0 && g.offset == 1 && f.name != "_" && g.name != "_" && scB P f.type && scB P g.type && (match P.underlying f.type with | some (.int .u64) => true | _ => false) && (match P.underlying g.type with | some .string => true | _ => false)
    | _ => false)
  | _ => false
theorem recB_spec {P : Program} {t : Nat} (h : recB P t = true) : ∃ f g : Field, P.underlying t = some (.struct #[f, g]) ∧ P.stoodInHeld t = false ∧ f.offset = 0 ∧ g.offset = 1 ∧ f.name ≠ "_" ∧ g.name ≠ "_" ∧ scB P f.type = true ∧ scB P g.type = true ∧ P.underlying f.type = some (.int .u64) ∧ P.underlying g.type = some .string := by
  unfold recB at h
  split at h
  · rename_i fs hfs
    obtain ⟨fs⟩ := fs
    simp only [Bool.and_eq_true, Bool.not_eq_true'] at h
    obtain ⟨h0, h⟩ := h
    split at h
    · rename_i f g
      simp only [Bool.and_eq_true, beq_iff_eq, bne_iff_ne] at h
      obtain ⟨⟨⟨⟨⟨⟨⟨h1, h2⟩, h3⟩, h4⟩, h5⟩, h6⟩, h7⟩, h8⟩ := h
      refine ⟨f, g, hfs, h0, h1, h2, h3, h4, h5, h6, ?_, ?_⟩
      · split at h7
        · assumption
        · cases h7
      · split at h8
        · assumption
        · cases h8
    · cases h
  · cases h
/-- The key of an address and a message. -/
def recK (x : Int × List Int) : Value := .agg #[.int .u64 x.1, .string (strOfNums x.2)]
theorem run_equal_rec {P : Program} {t : Nat} (h : recB P t = true) {x y : Int × List Int} (hx : IsB x.2) (hy : IsB y.2) (w : World) : (Op.equal t (recK x) (recK y)).run P w = .ok (decide (x = y)) w := by
  obtain ⟨f, g, h1, h2, h3, h4, h5, h6, h7, h8, h9, h10⟩ := recB_spec h
  have hff : P.fieldsOf t = #[f, g] := by unfold Program.fieldsOf; rw [h1]
  have e1 : ∀ (a : Int) (s : ByteArray), (part f.type #[.int .u64 a, .string s] f.offset).run P w = .ok (.int .u64 a) w := fun a s => by simp [part, run_isAgg_sc h7, h3]
  have e2 : ∀ (a : Int) (s : ByteArray), (part g.type #[.int .u64 a, .string s] g.offset).run P w = .ok (.string s) w := fun a s => by simp [part, run_isAgg_sc h8, h4]
  have e3 : ∀ n, (Op.equalIn (n + 1) f.type (.int .u64 x.1) (.int .u64 y.1)).run P w = .ok (x.1 == y.1) w := fun n => run_equalIn_int (P := P) w n f.type .u64 .u64 x.1 y.1 h9
  have e4 : ∀ n, (Op.equalIn (n + 1) g.type (.string (strOfNums x.2)) (.string (strOfNums y.2))).run P w = .ok (decide (x.2 = y.2)) w := fun n => by
    have e5 : ((strOfNums x.2).toList == (strOfNums y.2).toList) = decide (x.2 = y.2) := by
      by_cases h : x.2 = y.2
      · rw [h]; simp
      · have := mt (strOfNums_inj hx hy).1 h; simp [h, this]
    rw [← e5]; exact run_equalIn_string (P := P) w n g.type _ _ h10
  have main : ∀ n, (Op.eqFields (n + 1) #[.int .u64 x.1, .string (strOfNums x.2)] #[.int .u64 y.1, .string (strOfNums y.2)] [f, g]).run P w = .ok (decide (x = y)) w := fun n => by
    unfold Op.eqFields
    rw [if_pos h5]
    simp only [Sem.run_bind, e1, e3, Result.andThen_ok]
    by_cases ha : x.1 = y.1
    · have hb1 : (x.1 == y.1) = true := by simpa using ha
      simp only [hb1, Bool.not_true, Bool.false_eq_true, if_false]
      unfold Op.eqFields
      rw [if_pos h6]
      simp only [Sem.run_bind, e2, e4, Result.andThen_ok]
      by_cases hb : x.2 = y.2
      · have h11 : x = y := Prod.ext ha hb
        simp [hb, h11, Op.eqFields]
      · have h11 : ¬ x = y := fun h => hb (by rw [h])
        simp [hb, h11]
    · have h11 : ¬ x = y := fun h => ha (by rw [h])
      have hb : (x.1 == y.1) = false := by simpa using ha
      simp [hb, h11]
  refine (run_equalIn_struct (P := P) w 9999 t _ _ (by rw [hff]; exact h1) h2).trans ?_
  rw [hff]
  exact main 9998
theorem keyRec {P : Program} {kt : TypeId} (h : recB P kt = true) : KeyOK P kt recK (fun x => IsB x.2) where
  check e k w := by
    obtain ⟨f, g, h1, h2, h3, h4, h5, h6, h7, h8, h9, h10⟩ := recB_spec h
    have e1 : (part f.type #[.int .u64 k.1, .string (strOfNums k.2)] f.offset).run P w = .ok (.int .u64 k.1) w := by simp [part, run_isAgg_sc h7, h3]
    have e2 : (part g.type #[.int .u64 k.1, .string (strOfNums k.2)] g.offset).run P w = .ok (.string (strOfNums k.2)) w := by simp [part, run_isAgg_sc h8, h4]
    have c1 : ∀ n, (Instr.checkKey e (n + 1) f.type (.int .u64 k.1)).run P w = .ok () w := fun n => by simp [Instr.checkKey, run_underlying h9]
    have c2 : ∀ n, (Instr.checkKey e (n + 1) g.type (.string (strOfNums k.2))).run P w = .ok () w := fun n => by simp [Instr.checkKey, run_underlying h10]
    have c3 : ∀ n, (Instr.checkKey e (n + 1 + 1) kt (recK k)).run P w = .ok () w := fun n => by
      unfold recK
      rw [Instr.checkKey]
      simp only [Sem.run_bind, run_underlying h1, Result.andThen_ok]
      simp only [← Array.forIn_toList, List.forIn_cons, List.forIn_nil]
      simp [h5, h6, e1, e2, c1, c2]
    exact c3 9998
  find k L es hk hL he w := by
    obtain ⟨f, g, h1, _⟩ := recB_spec h
    have ask : ∀ (L : List ((Int × List Int) × Value)) (es : List MapEntry) (i : Nat), (∀ x ∈ L, IsB x.1.2) → es.map (fun e => (e.key, e.val)) = L.map (fun x => (recK x.1, x.2)) → (Instr.findAsking kt (recK k) es i).run P w = .ok (findK k L i) w := by
      intro L
      induction L with
      | nil => intro es i _ he; have : es = [] := by simpa using he
               subst this; rfl
      | cons x L ih =>
        intro es i hL he
        cases es with
        | nil => simp at he
        | cons e es =>
          simp only [List.map_cons, List.cons.injEq, Prod.mk.injEq] at he
          obtain ⟨⟨h2, h3⟩, h4⟩ := he
          have hq := run_equal_rec h hk (hL x (by simp)) w
          unfold Instr.findAsking findK
          simp only [Sem.run_bind, h2, hq, Result.andThen_ok]
          by_cases hk' : k = x.1
          · simp [hk', h3]
          · simp [hk', ih es (i + 1) (fun y hy => hL y (by simp [hy])) h4]
    unfold Instr.findKey
    simp only [Sem.run_bind, run_underlying h1, Result.andThen_ok]
    cases L with
    | nil =>
      have : es = [] := by simpa using he
      subst this; rfl
    | cons x L =>
      cases es with
      | nil => simp at he
      | cons e es =>
        have hk0 : e.key = recK x.1 := by simp only [List.map_cons, List.cons.injEq, Prod.mk.injEq] at he; exact he.1.1
        have : Instr.findNow (.struct #[f, g]) (recK k) (e :: es) 0 = none := by simp [Instr.findNow, Instr.sameNow]
        rw [this]
        exact ask _ _ 0 hL he
  same k := by
    have s1 : ∀ n, Instr.sameBits n (.int .u64 k.1) (.int .u64 k.1) = true := fun n => by cases n <;> simp [Instr.sameBits]
    have s2 : ∀ n, Instr.sameBits n (.string (strOfNums k.2)) (.string (strOfNums k.2)) = true := fun n => by cases n <;> simp [Instr.sameBits, beq_toListBytes]
    have s3 : ∀ n, Instr.sameBits (n + 1) (recK k) (recK k) = true := fun n => by
      unfold recK
      rw [Instr.sameBits]
      simp [s1, s2]
    exact s3 9999
section
variable {C : Cx} {F : Fx} {l : Env} {rs rs' : List HP} {K : Act → World → Prop} {o : Oper} {Q : Exit → Act → World → Prop} {d : Nat}
theorem ints_strOfNums {xs : List Int} (hb : IsB xs) : (strOfNums xs).data.toList.map (fun b => Value.int .u8 (b.toNat : Int)) = ints .u8 xs := by
  rw [strOfNums_data, List.map_map]
  unfold ints
  refine List.map_congr_left fun x hx => ?_
  have := hb x hx
  simp only [Function.comp_apply, UInt8.toNat_ofNat']
  congr 1
  omega
/-- []byte(s): bytes in new memory. -/
theorem W_bytes {t t' e : Nat} {x : Operand} {xs : List Int} (ho : o.op = .convert t t' x) (hd : o.dst = some d) (hn : Nat.blt d F.n = true) (hs : C.P.underlying t = some .string) (hd' : C.P.underlying t' = some (.slice e)) (he : C.P.underlying e = some (.int .u8)) (hx : ev l x = some (.string (strOfNums xs))) (hb : IsB xs) (hm : xs.length ≤ maxLen)
    (k : ∀ v, St C F ((d, v) :: l) (ownS e 1 v xs.length (ints .u8 xs) :: rs) K) : OpW C F l rs o K Q := fun a w r n => by
  have hsz := strOfNums_size xs
  have hge := grownCap_ge w xs.length 0 e
  have hcm := grownCap_le_maxLen w xs.length 0 e hm
  have hrow : bytesRow (strOfNums xs) (grownCap w xs.length 0 e) = (ints .u8 xs ++ List.replicate (grownCap w xs.length 0 e - xs.length) (Value.int .u8 0)).toArray := by
    unfold bytesRow
    apply Array.ext'
    rw [hsz]
    have := ints_strOfNums hb
    simp [this]
  have hr := run_bytes_of_string (P := C.P) w t t' e (strOfNums xs) hs hd' he
  rw [hsz, hrow] at hr
  generalize hcap : grownCap w xs.length 0 e = cap at hr hge hcm
  generalize hjk : List.replicate (cap - xs.length) (Value.int .u8 0) = junk at hr
  have hjl : junk.length = cap - xs.length := by rw [← hjk]; simp
  have hE : (execOp a.eval o).run C.P w = .ok (.value (.slice (some ⟨w.heap.size, 0, none⟩) xs.length cap)) (w.drew.alloc (.cells (ints .u8 xs ++ junk).toArray e ((ints .u8 xs ++ junk).toArray.size, (ints .u8 xs ++ junk).toArray.size + 1))) := by
    simp only [execOp, ho, r.ev hx, Sem.run_bind]
    rw [hr]
    rfl
  unfold Oper.wp
  rw [hE]
  show K (a.put o.dst _) _
  rw [hd]
  refine k _ _ _ (r.put hn _) ?_
  have hng := n.ng
  obtain ⟨h, s, mv⟩ := n.drew (w.drawn + 1) (Nat.le_succ _)
  obtain ⟨dj, m3⟩ := mv.alloc hng (.cells (ints .u8 xs ++ junk).toArray e ((ints .u8 xs ++ junk).toArray.size, (ints .u8 xs ++ junk).toArray.size + 1))
  have hxl : (ints .u8 xs).length = xs.length := ints_length _ _
  refine ⟨_, ⟨_, h, ⟨by rw [hxl]; omega, .inr ⟨w.heap.size, cap, junk, rfl, hge, hcm, by rw [List.length_append, hxl, hjl]; omega, ⟨_, ?_, rfl⟩⟩⟩, s, dj, rfl⟩, m3⟩
  right; simp
end
end Go.Proofs.Ytfhjhaogmdaepaa
