/- Texts that ledgerKeeps_holds leans on, part 2: each says at its head what it holds; no condition beyond its theorems' own. -/
import Derived.Test.YtcngmkjdpoiiaaaGreatDoorMk1
import Derived.Laws.IdiomStrings
import Derived.Laws.Externs
import Derived.Lib.Overlaps
import Derived.Lib.AppendZerosOnto
import Derived.Sort.AssemblyPlain
import Derived.Shelf.SlSortCmp.WholeK
import Derived.Shelf.SlSortCmp.NoneTotal
import Derived.Test.YtcngmkjdpoiiaaaGreatDoorChecked
set_option linter.unusedVariables false
set_option linter.unusedSimpArgs false
set_option linter.unusedSectionVars false
/- The seventeenth part of the program logic: maps by their keys; bytes of a text; comparisons of maps with nil. -/
namespace Go.Proofs.YtcngmkjdpoiiaaaGreatDoor
open Go Go.RowKit
/-- Where a key stands, and what is held for it. -/
def findK {κ : Type} [DecidableEq κ] (k : κ) : List (κ × Value) → Nat → Option (Nat × Value)
 | [], _ => none
 | x :: L, i => if k = x.1 then some (i, x.2) else findK k L (i + 1)
/-- A value is held for a key. -/
def setK {κ : Type} [DecidableEq κ] (k : κ) (v : Value) (L : List (κ × Value)) : List (κ × Value) := match findK k L 0 with
 | some (i, _) => L.set i (k, v)
 | none => L ++ [(k, v)]
section
variable {κ : Type} [DecidableEq κ]
theorem findK_some {k : κ} : ∀ {L : List (κ × Value)} {i j : Nat} {v : Value}, findK k L i = some (j, v) → i ≤ j ∧ L[j - i]? = some (k, v) ∧ ∀ m, m < j - i → ∀ x, L[m]? = some x → x.1 ≠ k
 | [], _, _, _, h => by cases h
 | x :: L, i, j, v, h => by
  unfold findK at h
  split at h
  ·rename_i e
   simp only [Option.some.injEq, Prod.mk.injEq] at h
   obtain ⟨rfl, rfl⟩ := h
   refine ⟨Nat.le_refl _, by simp [e], fun m hm => by omega⟩
  ·rename_i e
   obtain ⟨h1, h2, h3⟩ := findK_some h
   refine ⟨by omega, ?_, ?_⟩
   ·rw [show j - i = (j - (i + 1)) + 1 by omega]; simpa using h2
   ·intro m hm y hy
    cases m with
    | zero => simp at hy; subst hy; exact fun e' => e e'.symm
    | succ m => exact h3 m (by omega) y (by simpa using hy)
theorem findK_none {k : κ} : ∀ {L : List (κ × Value)} {i : Nat}, findK k L i = none ↔ ∀ x ∈ L, x.1 ≠ k
 | [], _ => by simp [findK]
 | x :: L, i => by
  unfold findK
  split
  ·rename_i e; subst e; simp
  ·rename_i e
   rw [findK_none (L := L)]
   simp [Ne.symm e]
/-- How keys are compared. -/
structure KeyOK (P : Program) (kt : TypeId) (key : κ → Value) (ok : κ → Prop) : Prop where
 check : ∀ (e : Bool) (k : κ) (w : World), (Instr.checkKey e 10000 kt (key k)).run P w = .ok () w
 find : ∀ (k : κ) (L : List (κ × Value)) (es : List MapEntry), ok k → (∀ x ∈ L, ok x.1) → es.map (fun e => (e.key, e.val)) = L.map (fun x => (key x.1, x.2)) → ∀ w : World, (Instr.findKey kt (key k) es).run P w = .ok (findK k L 0) w
 same : ∀ k, Instr.sameBits 10000 (key k) (key k) = true
/-- Each entry has a birth of its own, below the clock. -/
def Born (es : Array MapEntry) (clock : Nat) : Prop := (∀ e ∈ es.toList, e.born < clock) ∧ (es.toList.map (·.born)).Nodup
theorem Born.push {es : Array MapEntry} {clock : Nat} (h : Born es clock) (k v : Value) : Born (es.push { key := k, val := v, born := clock }) (clock + 1) := by
 obtain ⟨h1, h2⟩ := h
 refine ⟨fun e he => ?_, ?_⟩
 ·rw [Array.toList_push, List.mem_append, List.mem_singleton] at he
  rcases he with he | rfl
  ·exact Nat.lt_succ_of_lt (h1 e he)
  ·exact Nat.lt_succ_self _
 ·rw [Array.toList_push, List.map_append, List.map_cons, List.map_nil]
  refine List.nodup_append.2 ⟨h2, by simp, fun a ha b hb => ?_⟩
  rw [List.mem_singleton] at hb
  obtain ⟨e, he, rfl⟩ := List.mem_map.1 ha
  have := h1 e he
  subst hb
  exact Nat.ne_of_lt this
theorem Born.modify {es : Array MapEntry} {clock : Nat} (h : Born es clock) (q : Nat) (k v : Value) : Born (es.modify q fun e => { e with key := k, val := v }) clock := by
 have e : (es.modify q fun e => { e with key := k, val := v }).toList.map (·.born) = es.toList.map (·.born) := by
  apply List.ext_getElem?
  intro i
  simp only [List.getElem?_map, Array.getElem?_toList, Array.getElem?_modify]
  split
  ·rw [Option.map_map]; rfl
  ·rfl
 obtain ⟨h1, h2⟩ := h
 refine ⟨fun x hx => ?_, by rw [e]; exact h2⟩
 have hm : x.born ∈ (es.modify q fun e => { e with key := k, val := v }).toList.map (·.born) := List.mem_map.2 ⟨x, hx, rfl⟩
 rw [e] at hm
 obtain ⟨y, hy, e2⟩ := List.mem_map.1 hm
 rw [← e2]; exact h1 y hy
/-- A map of the call's own. -/
def mapK (key : κ → Value) (b : Nat) (L : List (κ × Value)) : HP := fun h => ∃ es clock, es.toList.map (fun e => (e.key, e.val)) = L.map (fun x => (key x.1, x.2)) ∧ Born es clock ∧ mapH b es clock h
theorem mapK_new {key : κ → Value} {b : Nat} {rs : List HP} : Weak (mapH b #[] 0 :: rs) (mapK key b [] :: rs) := Weak.turn .h0 fun a h => ⟨_, _, rfl, ⟨fun e he => by simp at he, by simp⟩, h⟩
section
variable {C : Cx} {F : Fx} {l : Env} {rs rs' : List HP} {K : Act → World → Prop} {o : Oper} {Q : Exit → Act → World → Prop} {d : Nat} {key : κ → Value} {ok : κ → Prop} {b : Nat} {L L' : List (κ × Value)}
theorem Now.getMapK {w : World} (n : Now C F rs w) (m : Has rs (mapK key b L) (mapK key b L) rs) : ∃ es clock, es.toList.map (fun e => (e.key, e.val)) = L.map (fun x => (key x.1, x.2)) ∧ w.heap[b]? = some (.map es clock) := by
 obtain ⟨a, ⟨es, clock, e, _, rfl⟩, h⟩ := n.has m
 exact ⟨es, clock, e, (h b _ (Heap.one_same _ _)).1⟩
theorem Now.putMapK {w w' : World} (n : Now C F rs w) (m : Has rs (mapK key b L) (mapK key b L') rs')
  (h : ∀ es clock, es.toList.map (fun e => (e.key, e.val)) = L.map (fun x => (key x.1, x.2)) → Born es clock → w.heap[b]? = some (.map es clock) → ∃ es' clock', es'.toList.map (fun e => (e.key, e.val)) = L'.map (fun x => (key x.1, x.2)) ∧ Born es' clock' ∧ PutRel w b (.map es' clock') w') : Now C F rs' w' := by
 obtain ⟨k, s, mv⟩ := n
 obtain ⟨a, c, ⟨es, clock, e, eb, rfl⟩, dj, rfl, back⟩ := Sep.take m s
 have hb := mv.sub b _ (Heap.le_join_left _ _ b _ (Heap.one_same _ _))
 obtain ⟨es', clock', e', eb', p⟩ := h es clock e eb hb
 obtain ⟨dj2, mv2⟩ := mv.put dj p.os p.tape p.output p.drawn p.size p.at_ p.other
 exact ⟨_, back _ ⟨es', clock', e', eb', rfl⟩ dj2, mv2⟩
theorem V_lookupK {t kt e : Nat} {x ix : Operand} {okc : Bool} {k : κ} {zv : Value} (ho : o.op = .lookup t x ix okc) (ht : C.P.underlying t = some (.map kt e)) (hk : KeyOK C.P kt key ok) (hx : ev l x = some (.map (some b))) (hi : ev l ix = some (key k)) (h1 : ok k) (h2 : ∀ x ∈ L, ok x.1)
  (m : Has rs (mapK key b L) (mapK key b L) rs) (hz : ∀ w : World, (zeroValue e).run C.P w = .ok zv w) : OpV C F l rs o (lookV okc (findK k L 0) zv) := fun a w r n => by
 obtain ⟨es, clock, he, hb⟩ := n.getMapK m
 have hf := hk.find k L es.toList h1 h2 he w
 have hc := hk.check es.isEmpty k w
 cases hr : findK k L 0 with
 | none => rw [hr] at hf; cases okc <;> simp [execOp, ho, r.ev hx, r.ev hi, Instr.lookup, run_underlying ht, MapKept.run_getObj_map hb, hc, hf, hz, lookV, Result.andThen]
 | some p => rw [hr] at hf; obtain ⟨q, v⟩ := p; cases okc <;> simp [execOp, ho, r.ev hx, r.ev hi, Instr.lookup, run_underlying ht, MapKept.run_getObj_map hb, hc, hf, hz, lookV, Result.andThen]
theorem run_keyThatStays {P : Program} {w : World} {x : Value} (h : Instr.sameBits 10000 x x = true) : (Instr.keyThatStays x x).run P w = .ok x w := by
 unfold Instr.keyThatStays
 rw [if_pos h]
 rfl
/-- A value is held for a key, new or not. -/
theorem W_mapSet {t kt e : Nat} {x ix y : Operand} {k : κ} {v : Value} (ho : o.op = .mapUpdate t x ix y) (hd : o.dst = none) (ht : C.P.underlying t = some (.map kt e)) (hk : KeyOK C.P kt key ok) (hx : ev l x = some (.map (some b))) (hi : ev l ix = some (key k)) (hy : ev l y = some v) (h1 : ok k) (h2 : ∀ x ∈ L, ok x.1)
  (m0 : Has rs (mapK key b L) (mapK key b L) rs) (m : Has rs (mapK key b L) (mapK key b (setK k v L)) rs') (kk : St C F l rs' K) : OpW C F l rs o K Q := fun a w r n => by
 obtain ⟨es, clock, he, hb⟩ := n.getMapK m0
 have hf := hk.find k L es.toList h1 h2 he w
 have hc := hk.check false k w
 unfold Oper.wp
 cases hr : findK k L 0 with
 | none =>
  rw [hr] at hf
  have : (execOp a.eval o).run C.P w = .ok .skip { w with heap := w.heap.setIfInBounds b (.map (es.push { key := key k, val := v, born := clock }) (clock + 1)) } := by
   simp [execOp, ho, r.ev hx, r.ev hi, r.ev hy, Instr.mapUpdate, run_underlying ht, MapKept.run_getObj_map hb, hc, hf, MapKept.run_setObj_map _ hb, Result.andThen]
  rw [this]
  show K (a.put o.dst undef) _
  rw [hd]
  refine kk a _ r (n.putMapK m fun es2 clock2 he2 hbo hb2 => ?_)
  rw [hb] at hb2
  simp only [Option.some.injEq, Obj.map.injEq] at hb2
  obtain ⟨rfl, rfl⟩ := hb2
  refine ⟨_, _, ?_, hbo.push _ _, put_map hb⟩
  unfold setK
  rw [hr]
  simp [he]
 | some p =>
  obtain ⟨q, u⟩ := p
  rw [hr] at hf
  obtain ⟨_, hq, _⟩ := findK_some hr
  rw [Nat.sub_zero] at hq
  have hql := (List.getElem?_eq_some_iff.1 hq).1
  have hlen : es.size = L.length := by have := congrArg List.length he; simpa using this
  have heq : (es.toList[q]?).map (fun e => (e.key, e.val)) = some (key k, u) := by
   have := congrArg (fun l => l[q]?) he
   simp only [List.getElem?_map, hq, Option.map_some] at this
   exact this
  have hkey : ((es[q]?).map (·.key)).getD (key k) = key k := by
   rw [← Array.getElem?_toList]
   cases hh : es.toList[q]? with
   | none => rw [hh] at heq; cases heq
   | some en => rw [hh] at heq; simp only [Option.map_some, Option.some.injEq, Prod.mk.injEq] at heq; simp [heq.1]
  have hst := run_keyThatStays (P := C.P) (w := w) (hk.same k)
  have : (execOp a.eval o).run C.P w = .ok .skip { w with heap := w.heap.setIfInBounds b (.map (es.modify q fun e => { e with key := key k, val := v }) clock) } := by
   simp [execOp, ho, r.ev hx, r.ev hi, r.ev hy, Instr.mapUpdate, run_underlying ht, MapKept.run_getObj_map hb, hc, hf, hkey, hst, MapKept.run_setObj_map _ hb, Result.andThen]
  rw [this]
  show K (a.put o.dst undef) _
  rw [hd]
  refine kk a _ r (n.putMapK m fun es2 clock2 he2 hbo hb2 => ?_)
  rw [hb] at hb2
  simp only [Option.some.injEq, Obj.map.injEq] at hb2
  obtain ⟨rfl, rfl⟩ := hb2
  refine ⟨_, _, ?_, hbo.modify _ _ _, put_map hb⟩
  unfold setK
  rw [hr]
  apply List.ext_getElem?
  intro i
  have hi := congrArg (fun l => l[i]?) he
  simp only [List.getElem?_map] at hi
  simp only [List.getElem?_map, Array.getElem?_toList, Array.getElem?_modify, List.getElem?_set]
  by_cases hqi : q = i
  ·subst hqi
   simp only [if_true, hql]
   have : q < es.size := by omega
   simp [this]
  ·rw [if_neg hqi, if_neg hqi]
   rw [← Array.getElem?_toList]
   exact hi
theorem W_makeMapK {t : Nat} (key : κ → Value) (ho : o.op = .makeMap t none) (hd : o.dst = some d) (hn : Nat.blt d F.n = true) (k : ∀ b, St C F ((d, .map (some b)) :: l) (mapK key b [] :: rs) K) : OpW C F l rs o K Q :=
 W_makeMap ho hd hn fun b => St.res mapK_new (k b)
/-- A map against nil. -/
theorem P_eqlMap {t t' kt e : Nat} {x y : Operand} {p : Option Nat} (ho : o.op = .binOp .eql t x y t') (ht : C.P.underlying t = some (.map kt e)) (hx : ev l x = some (.map p)) (hy : ev l y = some (.map none)) : OpP C F l o (.bool p.isNone) := fun a w r => by
 have : (Op.equal t (.map p) (.map none)).run C.P w = .ok p.isNone w := by
  have : ∀ n, (Op.equalIn (n + 1) t (.map p) (.map none)).run C.P w = .ok p.isNone w := fun n => by
   simp only [Op.equalIn, Sem.run_bind, run_underlying ht, Result.andThen_ok]
   cases p <;> simp
  exact this 9999
 simp [execOp, ho, r.ev hx, r.ev hy, binOp, eqGuard, this]
end
end
theorem keyU64 {P : Program} {kt : TypeId} (h : P.underlying kt = some (.int .u64)) : KeyOK P kt (fun k : Int => .int .u64 k) (fun _ => True) where
  check e k w := by
    have : ∀ n, (Instr.checkKey e (n + 1) kt (.int .u64 k)).run P w = .ok () w := fun n => by simp [Instr.checkKey, run_underlying h]
    exact this 9999
  find k L es _ _ he w := by
    have key : ∀ (L : List (Int × Value)) (es : List MapEntry) (i : Nat), es.map (fun e => (e.key, e.val)) = L.map (fun x => (Value.int .u64 x.1, x.2)) → Instr.findNow (.int .u64) (.int .u64 k) es i = some (findK k L i) := by
      intro L
      induction L with
      | nil => intro es i he; have : es = [] := by simpa using he
               subst this; rfl
      | cons x L ih =>
        intro es i he
        cases es with
        | nil => simp at he
        | cons e es =>
          simp only [List.map_cons, List.cons.injEq, Prod.mk.injEq] at he
          obtain ⟨⟨h1, h2⟩, h3⟩ := he
          by_cases hk : k = x.1
          · have hs : Instr.sameNow (.int .u64) (.int .u64 k) e.key = some true := by rw [h1]; simp [Instr.sameNow, hk]
            unfold findK
            rw [if_pos hk]
            simp [Instr.findNow, hs, h2]
          · have hs : Instr.sameNow (.int .u64) (.int .u64 k) e.key = some false := by rw [h1]; simp [Instr.sameNow, hk]
            unfold findK
            rw [if_neg hk]
            simp [Instr.findNow, hs, ih es (i + 1) h3]
    unfold Instr.findKey
    simp only [Sem.run_bind, run_underlying h, Result.andThen_ok, key L es 0 he, Sem.run_pure]
  same k := by
    have : ∀ n, Instr.sameBits n (.int .u64 k) (.int .u64 k) = true := fun n => by cases n <;> simp [Instr.sameBits]
    exact this 10000
/-- A record of a number and a text. -/
def recB (P : Program) (t : Nat) : Bool := match P.underlying t with
 | some (.struct fs) => !P.stoodInHeld t && (match fs.toList with
  | [f, g] => f.offset == 0 && g.offset == 1 && f.name != "_" && g.name != "_" && scB P f.type && scB P g.type && (match P.underlying f.type with | some (.int .u64) => true | _ => false) && (match P.underlying g.type with | some .string => true | _ => false)
  | _ => false)
 | _ => false
theorem recB_spec {P : Program} {t : Nat} (h : recB P t = true) : ∃ f g : Field, P.underlying t = some (.struct #[f, g]) ∧ P.stoodInHeld t = false ∧ f.offset = 0 ∧ g.offset = 1 ∧ f.name ≠ "_" ∧ g.name ≠ "_" ∧ scB P f.type = true ∧ scB P g.type = true ∧ P.underlying f.type = some (.int .u64) ∧ P.underlying g.type = some .string := by
 unfold recB at h
 split at h
 ·rename_i fs hfs
  obtain ⟨fs⟩ := fs
  simp only [Bool.and_eq_true, Bool.not_eq_true'] at h
  obtain ⟨h0, h⟩ := h
  split at h
  ·rename_i f g
   simp only [Bool.and_eq_true, beq_iff_eq, bne_iff_ne] at h
   obtain ⟨⟨⟨⟨⟨⟨⟨h1, h2⟩, h3⟩, h4⟩, h5⟩, h6⟩, h7⟩, h8⟩ := h
   refine ⟨f, g, hfs, h0, h1, h2, h3, h4, h5, h6, ?_, ?_⟩
   ·split at h7
    ·assumption
    ·cases h7
   ·split at h8
    ·assumption
    ·cases h8
  ·cases h
 ·cases h
/-- The key of an address and a message. -/
def recK (x : Int × List Int) : Value := .agg #[.int .u64 x.1, .string (strOfNums x.2)]
theorem run_equal_rec {P : Program} {t : Nat} (h : recB P t = true) {x y : Int × List Int} (hx : IsB x.2) (hy : IsB y.2) (w : World) : (Op.equal t (recK x) (recK y)).run P w = .ok (decide (x = y)) w := by
 obtain ⟨f, g, h1, h2, h3, h4, h5, h6, h7, h8, h9, h10⟩ := recB_spec h
 have hff : P.fieldsOf t = #[f, g] := by unfold Program.fieldsOf; rw [h1]
 have e1 : ∀ (a : Int) (s : ByteArray), (part f.type #[.int .u64 a, .string s] f.offset).run P w = .ok (.int .u64 a) w := fun a s => by simp [part, run_isAgg_sc h7, h3]
 have e2 : ∀ (a : Int) (s : ByteArray), (part g.type #[.int .u64 a, .string s] g.offset).run P w = .ok (.string s) w := fun a s => by simp [part, run_isAgg_sc h8, h4]
 have e3 : ∀ n, (Op.equalIn (n + 1) f.type (.int .u64 x.1) (.int .u64 y.1)).run P w = .ok (x.1 == y.1) w := fun n => run_equalIn_int (P := P) w n f.type .u64 .u64 x.1 y.1 h9
 have e4 : ∀ n, (Op.equalIn (n + 1) g.type (.string (strOfNums x.2)) (.string (strOfNums y.2))).run P w = .ok (decide (x.2 = y.2)) w := fun n => by
  have e5 : ((strOfNums x.2).toList == (strOfNums y.2).toList) = decide (x.2 = y.2) := by
   by_cases h : x.2 = y.2
   ·rw [h]; simp
   ·have := mt (strOfNums_inj hx hy).1 h; simp [h, this]
  rw [← e5]; exact run_equalIn_string (P := P) w n g.type _ _ h10
 have main : ∀ n, (Op.eqFields (n + 1) #[.int .u64 x.1, .string (strOfNums x.2)] #[.int .u64 y.1, .string (strOfNums y.2)] [f, g]).run P w = .ok (decide (x = y)) w := fun n => by
  unfold Op.eqFields
  rw [if_pos h5]
  simp only [Sem.run_bind, e1, e3, Result.andThen_ok]
  by_cases ha : x.1 = y.1
  ·have hb1 : (x.1 == y.1) = true := by simpa using ha
   simp only [hb1, Bool.not_true, Bool.false_eq_true, if_false]
   unfold Op.eqFields
   rw [if_pos h6]
   simp only [Sem.run_bind, e2, e4, Result.andThen_ok]
   by_cases hb : x.2 = y.2
   ·have h11 : x = y := Prod.ext ha hb
    simp [hb, h11, Op.eqFields]
   ·have h11 : ¬ x = y := fun h => hb (by rw [h])
    simp [hb, h11]
  ·have h11 : ¬ x = y := fun h => ha (by rw [h])
   have hb : (x.1 == y.1) = false := by simpa using ha
   simp [hb, h11]
 refine (run_equalIn_struct (P := P) w 9999 t _ _ (by rw [hff]; exact h1) h2).trans ?_
 rw [hff]
 exact main 9998
theorem keyRec {P : Program} {kt : TypeId} (h : recB P kt = true) : KeyOK P kt recK (fun x => IsB x.2) where
  check e k w := by
    obtain ⟨f, g, h1, h2, h3, h4, h5, h6, h7, h8, h9, h10⟩ := recB_spec h
    have e1 : (part f.type #[.int .u64 k.1, .string (strOfNums k.2)] f.offset).run P w = .ok (.int .u64 k.1) w := by simp [part, run_isAgg_sc h7, h3]
    have e2 : (part g.type #[.int .u64 k.1, .string (strOfNums k.2)] g.offset).run P w = .ok (.string (strOfNums k.2)) w := by simp [part, run_isAgg_sc h8, h4]
    have c1 : ∀ n, (Instr.checkKey e (n + 1) f.type (.int .u64 k.1)).run P w = .ok () w := fun n => by simp [Instr.checkKey, run_underlying h9]
    have c2 : ∀ n, (Instr.checkKey e (n + 1) g.type (.string (strOfNums k.2))).run P w = .ok () w := fun n => by simp [Instr.checkKey, run_underlying h10]
    have c3 : ∀ n, (Instr.checkKey e (n + 1 + 1) kt (recK k)).run P w = .ok () w := fun n => by
      unfold recK
      rw [Instr.checkKey]
      simp only [Sem.run_bind, run_underlying h1, Result.andThen_ok]
      simp only [← Array.forIn_toList, List.forIn_cons, List.forIn_nil]
      simp [h5, h6, e1, e2, c1, c2]
    exact c3 9998
  find k L es hk hL he w := by
    obtain ⟨f, g, h1, _⟩ := recB_spec h
    have ask : ∀ (L : List ((Int × List Int) × Value)) (es : List MapEntry) (i : Nat), (∀ x ∈ L, IsB x.1.2) → es.map (fun e => (e.key, e.val)) = L.map (fun x => (recK x.1, x.2)) → (Instr.findAsking kt (recK k) es i).run P w = .ok (findK k L i) w := by
      intro L
      induction L with
      | nil => intro es i _ he; have : es = [] := by simpa using he
               subst this; rfl
      | cons x L ih =>
        intro es i hL he
        cases es with
        | nil => simp at he
        | cons e es =>
          simp only [List.map_cons, List.cons.injEq, Prod.mk.injEq] at he
          obtain ⟨⟨h2, h3⟩, h4⟩ := he
          have hq := run_equal_rec h hk (hL x (by simp)) w
          unfold Instr.findAsking findK
          simp only [Sem.run_bind, h2, hq, Result.andThen_ok]
          by_cases hk' : k = x.1
          · simp [hk', h3]
          · simp [hk', ih es (i + 1) (fun y hy => hL y (by simp [hy])) h4]
    unfold Instr.findKey
    simp only [Sem.run_bind, run_underlying h1, Result.andThen_ok]
    cases L with
    | nil =>
      have : es = [] := by simpa using he
      subst this; rfl
    | cons x L =>
      cases es with
      | nil => simp at he
      | cons e es =>
        have hk0 : e.key = recK x.1 := by simp only [List.map_cons, List.cons.injEq, Prod.mk.injEq] at he; exact he.1.1
        have : Instr.findNow (.struct #[f, g]) (recK k) (e :: es) 0 = none := by simp [Instr.findNow, Instr.sameNow]
        rw [this]
        exact ask _ _ 0 hL he
  same k := by
    have s1 : ∀ n, Instr.sameBits n (.int .u64 k.1) (.int .u64 k.1) = true := fun n => by cases n <;> simp [Instr.sameBits]
    have s2 : ∀ n, Instr.sameBits n (.string (strOfNums k.2)) (.string (strOfNums k.2)) = true := fun n => by cases n <;> simp [Instr.sameBits, beq_toListBytes]
    have s3 : ∀ n, Instr.sameBits (n + 1) (recK k) (recK k) = true := fun n => by
      unfold recK
      rw [Instr.sameBits]
      simp [s1, s2]
    exact s3 9999
section
variable {C : Cx} {F : Fx} {l : Env} {rs rs' : List HP} {K : Act → World → Prop} {o : Oper} {Q : Exit → Act → World → Prop} {d : Nat}
theorem ints_strOfNums {xs : List Int} (hb : IsB xs) : (strOfNums xs).data.toList.map (fun b => Value.int .u8 (b.toNat : Int)) = ints .u8 xs := by
 rw [strOfNums_data, List.map_map]
 unfold ints
 refine List.map_congr_left fun x hx => ?_
 have := hb x hx
 simp only [Function.comp_apply, UInt8.toNat_ofNat']
 congr 1
 omega
/-- []byte(s): bytes in new memory. -/
theorem W_bytes {t t' e : Nat} {x : Operand} {xs : List Int} (ho : o.op = .convert t t' x) (hd : o.dst = some d) (hn : Nat.blt d F.n = true) (hs : C.P.underlying t = some .string) (hd' : C.P.underlying t' = some (.slice e)) (he : C.P.underlying e = some (.int .u8)) (hx : ev l x = some (.string (strOfNums xs))) (hb : IsB xs) (hm : xs.length ≤ maxLen)
  (k : ∀ v, St C F ((d, v) :: l) (ownS e 1 v xs.length (ints .u8 xs) :: rs) K) : OpW C F l rs o K Q := fun a w r n => by
 have hsz := strOfNums_size xs
 have hge := grownCap_ge w xs.length 0 e
 have hcm := grownCap_le_maxLen w xs.length 0 e hm
 have hrow : bytesRow (strOfNums xs) (grownCap w xs.length 0 e) = (ints .u8 xs ++ List.replicate (grownCap w xs.length 0 e - xs.length) (Value.int .u8 0)).toArray := by
  unfold bytesRow
  apply Array.ext'
  rw [hsz]
  have := ints_strOfNums hb
  simp [this]
 have hr := run_bytes_of_string (P := C.P) w t t' e (strOfNums xs) hs hd' he
 rw [hsz, hrow] at hr
 generalize hcap : grownCap w xs.length 0 e = cap at hr hge hcm
 generalize hjk : List.replicate (cap - xs.length) (Value.int .u8 0) = junk at hr
 have hjl : junk.length = cap - xs.length := by rw [← hjk]; simp
 have hE : (execOp a.eval o).run C.P w = .ok (.value (.slice (some ⟨w.heap.size, 0, none⟩) xs.length cap)) (w.drew.alloc (.cells (ints .u8 xs ++ junk).toArray e ((ints .u8 xs ++ junk).toArray.size, (ints .u8 xs ++ junk).toArray.size + 1))) := by
  simp only [execOp, ho, r.ev hx, Sem.run_bind]
  rw [hr]
  rfl
 unfold Oper.wp
 rw [hE]
 show K (a.put o.dst _) _
 rw [hd]
 refine k _ _ _ (r.put hn _) ?_
 have hng := n.ng
 obtain ⟨h, s, mv⟩ := n.drew (w.drawn + 1) (Nat.le_succ _)
 obtain ⟨dj, m3⟩ := mv.alloc hng (.cells (ints .u8 xs ++ junk).toArray e ((ints .u8 xs ++ junk).toArray.size, (ints .u8 xs ++ junk).toArray.size + 1))
 have hxl : (ints .u8 xs).length = xs.length := ints_length _ _
 refine ⟨_, ⟨_, h, ⟨by rw [hxl]; omega, .inr ⟨w.heap.size, cap, junk, rfl, hge, hcm, by rw [List.length_append, hxl, hjl]; omega, ⟨_, ?_, rfl⟩⟩⟩, s, dj, rfl⟩, m3⟩
 right; simp
end
end Go.Proofs.YtcngmkjdpoiiaaaGreatDoor

/- The eighteenth part of the program logic: bodies that defer calls, with regions of open order; bundles of resources. -/
namespace Go.Proofs.YtcngmkjdpoiiaaaGreatDoor
open Go Go.RowKit
/-- What is asked of a body that defers calls: it returns, and then its deferred calls are run. -/
def bodyPostX (P : Program) (fn : Func) (R : Ending → World → Prop) : Exit → Act → World → Prop
 | .normal, a, w | .ret, a, w => Leaves P fn a.tmps R a.defers .returning w
 | _, _, _ => False
theorem QOk.bodyX {P : Program} {fn : Func} {R : Ending → World → Prop} : QOk (bodyPostX P fn R) := fun d v c a w h => h
section
variable {C : Cx} {F : Fx} {l : Env} {rs rs' : List HP} {K : Act → World → Prop} {o : Oper} {Q : Exit → Act → World → Prop} {d : Nat}
theorem Spec.enterX {f : FuncId} {fn : Func} {c : Code} {args : List Value} {pre : World → Heap → Prop} {R0 : List HP} {post : Value → List HP → Prop}
  (hf : C.P.funcs[f]? = some fn) (hb : fn.body = some c) (n : Nat) (hn : fn.ntmps = n) (hle : Nat.ble args.length n = true)
  (h : ∀ w k, Sep R0 k → Sub C w k → pre w k → St C ⟨n, [], w, k⟩ (envOf 0 args) R0 (c.wp C.P (bodyPostX C.P fn fun e w' => ∃ v rs h', e = .returned v ∧ post v rs ∧ Sep rs h' ∧ Move C w k w' h'))) : Spec C f args pre R0 post :=
 Spec.enterD hf hb n hn hle fun w k hs hu hp => (h w k hs hu hp).mono fun a w' hw => wp_mono hw fun e a' w'' q => by
  cases e <;> first | exact q | exact q.elim
/-- The end of such a body where nothing is deferred yet. -/
theorem R_endN {fn : Func} {xs : List ResultVar} {vs : List Value} {post : Value → List HP → Prop} {rs2 : List HP} (hds : F.ds = []) (hf : fn.results = xs.toArray) (h : ResV C F l rs xs vs) (hp : post (packV vs) rs2) (hw : Weak rs rs2) :
  St C F l rs (bodyPostX C.P fn (fun e w' => ∃ v rs h', e = .returned v ∧ post v rs ∧ Sep rs h' ∧ Move C F.w F.h w' h') .ret) := fun a w r n => by
 show Leaves C.P fn a.tmps _ a.defers .returning w
 rw [r.defers.trans hds]
 refine ⟨_, h.results hf r n, ?_⟩
 obtain ⟨k, s, m⟩ := n
 obtain ⟨k', s', le⟩ := hw k s
 exact ⟨_, rs2, k', rfl, hp, s', m.le le⟩
/-- .. and where one call is deferred: it is run, then the results are read. -/
theorem R_endX {fn : Func} {xs : List ResultVar} {vs dvs : List Value} {f : FuncId} {pre : World → Heap → Prop} {R0 RS rest rs2 : List HP} {post : Value → List HP → Prop} (hds : F.ds = [dfr f dvs]) (hc : callable C.P f = true) (hs : SpecD C f dvs pre R0 RS) (sp : Split rs R0 rest)
  (hp : ∀ w a b, Sep R0 a → Sep rest b → a.Disj b → Move C F.w F.h w (a.join b) → pre w a) (hf : fn.results = xs.toArray) (h : ResV C F l (RS ++ rest) xs vs) (hpost : post (packV vs) rs2) (hw : Weak (RS ++ rest) rs2) :
  St C F l rs (bodyPostX C.P fn (fun e w' => ∃ v rs h', e = .returned v ∧ post v rs ∧ Sep rs h' ∧ Move C F.w F.h w' h') .ret) := R_endD (fn := fn) (post := post) hds hc hs sp hp hf h hpost hw
end
theorem run_zeroValue_of {P : Program} {t : Nat} {v : Value} (h : (P.info? t).bind (·.zero) = some v) (w : World) : (zeroValue t).run P w = .ok v w := by
 obtain ⟨i, hi, hz⟩ := Option.bind_eq_some_iff.1 h
 simp [zeroValue, typeInfo, hi, hz]
section
variable {C : Cx} {F : Fx} {l : Env} {rs : List HP} {o : Oper}
theorem P_ext {xs : List Operand} {ts : Array TypeId} {f : FuncId} {vs : List Value} {v : Value} (ho : o.op = .call { callee := .value (.func f), args := xs.toArray, argTypes := ts }) (hx : evL l xs = some vs) (he : ∀ w, (callFunc f vs.toArray).run C.P w = .ok (.value v) w) : OpP C F l o v := fun a w r => by
 unfold execOp
 have hg : a.eval (.func f) = .func (.func f) #[] #[] := rfl
 simp only [ho, resolve, hg, Deferred.ofValue, invoke, Sem.run_bind, Sem.run_pure, Result.andThen_ok, List.map_toArray, r.evL hx]
 simpa using he w
/-- unsafe.Pointer(p). -/
theorem V_toUnsafe {src dst t b j T : Nat} {x : Operand} {cs : List Value} {v : Value} (ho : o.op = .convert src dst x) (hs : C.P.underlying src = some (.pointer t)) (hd : C.P.underlying dst = some .unsafePointer) (hsz : (C.P.info? t).map (fun i => decide (i.size = 0)) = some false) (hx : ev l x = some (.pointer (some ⟨b, j, none⟩)))
  (m : Has rs (blk b cs T) (blk b cs T) rs) (hj : cs[j]? = some v) : OpV C F l rs o (.pointer (some ⟨b, j, none⟩)) := fun a w r n => by
 obtain ⟨fr, hg, hf⟩ := n.getBlk m
 have hc : w.cell? ⟨b, j, none⟩ = some v := by simp [World.cell?, hg, hj]
 have := run_convert_to_unsafe (P := C.P) hs hd hsz hc
 simp [execOp, ho, r.ev hx, this]
end
section
variable {C : Cx} {F : Fx} {l : Env} {rs rs' : List HP} {K : Act → World → Prop} {o : Oper} {Q : Exit → Act → World → Prop} {d : Nat}
/-- make([]T, 0, n). -/
theorem W_make0 {t e sz bytes n : Nat} {x y : Operand} {k1 k2 : IntKind} {z : List Value} (ho : o.op = .makeSlice t x y) (hd : o.dst = some d) (hn : Nat.blt d F.n = true) (ht : slB C.P t e sz bytes = true) (hz : zeB C.P e z) (hx : ev l x = some (.int k1 0)) (hy : ev l y = some (.int k2 (n : Int)))
  (hb : bytes * n ≤ 281474976710656) (hm : n ≤ maxLen) (k : ∀ v, St C F ((d, v) :: l) (ownS e sz v 0 [] :: rs) K) : OpW C F l rs o K Q := fun a w r nw => by
 obtain ⟨h1, ti, h2, h3, h3b⟩ := slB_spec ht
 unfold zeB at hz
 obtain ⟨zv, hz1, hz2⟩ := Option.map_eq_some_iff.1 hz
 obtain ⟨i, hi1, hiz⟩ := Option.bind_eq_some_iff.1 hz1
 rw [h2, Option.some.injEq] at hi1
 subst hi1
 have hzc : zv.cells = z.toArray := by rw [← hz2]
 have hb' : (ti.bytes : Int) * (n : Int) ≤ 281474976710656 := by
  have h : ((ti.bytes * n : Nat) : Int) ≤ 281474976710656 := by rw [h3b]; omega
  rwa [Int.natCast_mul] at h
 have hm' : n ≤ 9223372036854775807 := by simp only [maxLen] at hm; omega
 have hr := run_make (P := C.P) w t e ti zv h1 h2 hiz k1 k2 0 (n : Int) (by omega) (by omega) hb' (by omega)
 simp only [Int.toNat_natCast, h3, hzc] at hr
 unfold Oper.wp
 have : (execOp a.eval o).run C.P w = .ok (.value (.slice (some ⟨w.heap.size, 0, none⟩) 0 n)) (w.alloc (.cells (madeCells z.toArray (n * sz)) e)) := by
  simp only [execOp, ho, r.ev hx, r.ev hy, Sem.run_bind, hr, Result.andThen_ok, Sem.run_pure]
  rfl
 rw [this]
 show K (a.put o.dst _) _
 rw [hd]
 have h5 := nw.alloc (madeL z (n * sz)) e
 refine k _ _ _ (r.put hn _) (h5.weak (Weak.turn .h0 fun hh hb => ⟨by simp, .inr ⟨_, n, madeL z (n * sz), rfl, Nat.zero_le _, hm, (by rw [List.nil_append, madeL_length]; exact Nat.le_refl _), hb⟩⟩))
end
/-- Separate resources as one. -/
def bundle (L : List HP) : HP := fun h => Sep L h
theorem Weak.unbundle {L rs : List HP} : Weak (bundle L :: rs) (L ++ rs) := fun h ⟨a, b, ha, hb, d, e⟩ => ⟨h, Sep.append.2 ⟨a, b, ha, hb, d, e⟩, Heap.Le.refl _⟩
theorem Weak.bundle {L rs : List HP} : Weak (L ++ rs) (bundle L :: rs) := fun h s => by
 obtain ⟨a, b, ha, hb, d, e⟩ := Sep.append.1 s
 exact ⟨h, ⟨a, b, ha, hb, d, e⟩, Heap.Le.refl _⟩
theorem Weak.toEx {X : Type} {p : X → Prop} {s : X → HP} {rs : List HP} (x : X) (hp : p x) : Weak (s x :: rs) (ExP p s :: rs) := Weak.turn .h0 fun a ha => ⟨x, hp, ha⟩
theorem Weak.mid {p q q' : List HP} (w : Weak q q') : Weak (p ++ q) (p ++ q') := by
 induction p with
 | nil => exact w
 | cons a p ih => exact ih.keep
section
variable {C : Cx} {F : Fx} {l : Env} {rs : List HP} {K : Act → World → Prop}
/-- A bundle is opened at its place. -/
theorem St.unbundle (p : List HP) {L q : List HP} (h : St C F l (p ++ (L ++ q)) K) : St C F l (p ++ Go.Proofs.YtcngmkjdpoiiaaaGreatDoor.bundle L :: q) K := St.res (Weak.mid Weak.unbundle) h
end
end Go.Proofs.YtcngmkjdpoiiaaaGreatDoor

/- The nineteenth part of the program logic: two loud operations of which either may come first, with what is read kept apart from what is written. -/
namespace Go.Proofs.YtcngmkjdpoiiaaaGreatDoor
open Go Go.RowKit
section
variable {C : Cx} {F : Fx} {l : Env} {rs rs' rq : List HP} {o : Oper} {Q : Exit → Act → World → Prop} {ops : Array Oper} {d i : Nat} {v : Value} {tt tx ty : Sch} {j : Nat}
def StTQ (C : Cx) (F : Fx) (ops : Array Oper) (Q : Exit → Act → World → Prop) (t : Sch) (l : Env) (rq rs : List HP) : Prop := St C F l rs (wpT C.P ops Q t (Now C F rq))
theorem TQ_open {id : Nat} {os : List Oper} (t : Sch) (rq : List HP) (hwk : Weak rs rq) (hm : C.P.follows .mixedOrders = true) (hB : schT os.toArray t = true) (hQ : QOk Q) (h : StTQ C F os.toArray Q t l rq rs) : St C F l rs ((Code.region id os.toArray true).wp C.P Q) := fun a w r n => by
 unfold schT at hB
 simp only [Bool.and_eq_true] at hB
 obtain ⟨⟨h1, h2⟩, h3⟩ := hB
 have h2 := Nat.eq_of_beq_eq_true h2
 refine wp_region_any hm ?_
 have key := wpT_sound h1 hQ t.all t (Now C F rq) (Array.replicate os.toArray.size false) a { w with drawn := w.drawn + 1 } (fun _ h => h) h3 (fun k o _ hk => by rw [getD_none] at hk; cases hk) ((n.drew _ (Nat.le_succ _)).weak hwk) (h a _ r (n.drew _ (Nat.le_succ _)))
 rw [h2] at key
 exact wpAny_of_G (new := newOf t.all) _ _ _ _ _ key
theorem TQ_nil (h : St C F l rs (Q .normal)) : StTQ C F ops Q .nil l rq rs := h
theorem TQ_pure (ho : ops[i]? = some o) (hw : wantedE ops l o = true) (hd : o.dst = some d) (hn : Nat.blt d F.n = true) (hv : OpP C F l o v) (k : StTQ C F ops Q tt ((d, v) :: l) rq rs) : StTQ C F ops Q (.op i 0 tt) l rq rs := fun a w r n =>
 ⟨o, v, ho, fun S' => .inl ⟨wanted_of r hw, fun w' _ => hv a w' r⟩, by rw [hd]; exact k _ _ (r.put hn v) n⟩
theorem TQ_val (ho : ops[i]? = some o) (hw : wantedE ops l o = true) (hd : o.dst = some d) (hn : Nat.blt d F.n = true) (hv : OpV C F l rq o v) (k : StTQ C F ops Q tt ((d, v) :: l) rq rs) : StTQ C F ops Q (.op i 1 tt) l rq rs := fun a w r n =>
 ⟨o, v, ho, .inl ⟨wanted_of r hw, fun w' hw' => hv a w' r hw'⟩, by rw [hd]; exact k _ _ (r.put hn v) n⟩
theorem TQ_keep (ho : ops[i]? = some o) (hw : wantedE ops l o = true) (h : OpW C F l rs o (fun a w => ∃ S' : World → Prop, (∀ x, S' x → Now C F rq x) ∧ S' w ∧ wpT C.P ops Q tt S' a w) Q) : StTQ C F ops Q (.op i 2 tt) l rq rs := fun a w r n => by
 show wpOp C.P ops Q i _ a w
 unfold wpOp
 simp only [ho, wanted_of r hw, if_true]
 exact .inl (h a w r n)
theorem TQ_two (h1 : StTQ C F ops Q (.op i 2 tx) l rq rs) (h2 : StTQ C F ops Q (.op j 2 ty) l rq rs) : StTQ C F ops Q (.two i j tx ty) l rq rs := fun a w r n => ⟨h1 a w r n, h2 a w r n⟩
theorem K_keepTQ {l2 : Env} (hw : Weak rs' rq) (k : StTQ C F ops Q tt l2 rq rs') : St C F l2 rs' (fun a w => ∃ S' : World → Prop, (∀ x, S' x → Now C F rq x) ∧ S' w ∧ wpT C.P ops Q tt S' a w) := fun a w r n => ⟨Now C F rq, fun _ h => h, n.weak hw, k a w r n⟩
end
end Go.Proofs.YtcngmkjdpoiiaaaGreatDoor

/- The twenty-first part of the program logic: a text is appended; append to a slice without room that the call only reads; a function value is called. -/
namespace Go.Proofs.YtcngmkjdpoiiaaaGreatDoor
open Go Go.RowKit
section
variable {C : Cx} {F : Fx} {l : Env} {rs rs' : List HP} {K : Act → World → Prop} {o : Oper} {Q : Exit → Act → World → Prop} {d : Nat}
theorem extract_all (s : ByteArray) : s.extract 0 s.size = s := by
 apply ByteArray.ext
 simp
theorem Src.str {xs : List Int} (hb : IsB xs) : Src C F rs 1 (.string (strOfNums xs)) xs.length (ints .u8 xs) where
 len := by show (pure (strOfNums xs).size : Sem Nat) = _; rw [strOfNums_size]
 cells := fun w _ => by
  have h : (Builtin.firstCells 1 xs.length (.string (strOfNums xs))).run C.P w = .ok (((strOfNums xs).extract 0 xs.length).data.map fun b => Value.int .u8 (b.toNat : Int)) w := rfl
  rw [h, ← strOfNums_size xs, extract_all]
  congr 1
  apply Array.ext'
  rw [Array.toList_map]
  exact ints_strOfNums hb
 size := by rw [ints_length]; omega
 one := ints_one
theorem P_lenStrN {t : Nat} {x : Operand} {xs : List Int} (ho : o.op = .call { callee := .builtin .len, args := #[x], argTypes := #[t] }) (ht : C.P.underlying t = some .string) (hx : ev l x = some (.string (strOfNums xs))) : OpP C F l o (.int .i64 (xs.length : Int)) := by
 have h := P_lenStr (C := C) (F := F) ho ht hx
 rwa [strOfNums_size] at h
/-- append to a slice that has no room: new memory. -/
theorem W_appendFull {t t' e sz bytes n m : Nat} {x y : Operand} {ad : Addr} {u : Value} {olds news : List Value} (ho : o.op = .call { callee := .builtin .append, args := #[x, y], argTypes := #[t, t'] }) (hd : o.dst = some d) (hn : Nat.blt d F.n = true)
  (ht : slB C.P t e sz bytes = true) (hap : apB C.P e sz = true) (ht' : srcB C.P t' = true) (hx : ev l x = some (.slice (some ad) n n)) (hy : ev l y = some u) (rd : Rds C F rs ad olds) (hol : olds.length = n * sz) (src : Src C F rs sz u m news) (hm0 : 0 < m)
  (hb : (n + m) * bytes ≤ 140737488355328) (hm : n + m ≤ maxLen)
  (k : ∀ v', St C F ((d, v') :: l) (ownS e sz v' (n + m) (olds ++ news) :: rs) K) : OpW C F l rs o K Q := by
 intro a w r nw
 obtain ⟨h1, ti, h2, h3, h3b⟩ := slB_spec ht
 have h4 := srcB_spec ht'
 unfold apB at hap
 obtain ⟨z, hz0, hzs⟩ : ∃ z, ((C.P.info? e).bind (·.zero)) = some z ∧ z.cells.size = sz := by
  cases hh : (C.P.info? e).bind (·.zero) with
  | none => rw [hh] at hap; cases hap
  | some z => rw [hh] at hap; exact ⟨z, rfl, by simpa using hap⟩
 have hz : ti.zero = some z := by rw [h2] at hz0; exact hz0
 have hdrew := nw.drew (w.drawn + 1) (Nat.le_succ _)
 have hold : (Builtin.firstCells sz n (.slice (some ad) n n)).run C.P w.drew = .ok olds.toArray w.drew := run_firstCells_some w.drew sz n ad n n olds hol fun j v hv => rd _ hdrew j v hv
 have hr := run_append_new (P := C.P) (w := w) (ty := o.type) (base := some ad) (cap := n) h1 h2 h3 hz h4 src.len (src.cells _ hdrew) hold (by omega) (by rw [h3b]; exact hb) hm
 have hrun : (execOp a.eval o).run C.P w = .ok (.value (.slice (some ⟨w.heap.size, 0, none⟩) (n + m) (grownCap w (n + m) n e))) (w.drew.alloc (.cells (olds ++ news ++ (Builtin.zeroCells z.cells (grownCap w (n + m) n e - (n + m))).toList).toArray e)) := by
  simp [execOp, ho, resolve, invoke, builtin, r.ev hx, r.ev hy, hr]
 have hge := grownCap_ge w (n + m) n e
 have hcm := grownCap_le_maxLen w (n + m) n e hm
 have hlen : (olds ++ news).length = (n + m) * sz := by rw [List.length_append, hol, src.size, Nat.add_mul]
 unfold Oper.wp
 rw [hrun]
 show K (a.put o.dst _) _
 rw [hd]
 refine k _ _ _ (r.put hn _) ?_
 obtain ⟨h', s', m'⟩ := hdrew
 obtain ⟨djn, m3⟩ := m'.alloc (by have := nw.ng; exact this) (.cells (olds ++ news ++ (Builtin.zeroCells z.cells (grownCap w (n + m) n e - (n + m))).toList).toArray e)
 refine ⟨_, ⟨_, h', ⟨hlen, .inr ⟨w.heap.size, _, _, rfl, hge, hcm, ?_, ⟨(0, 0), .inl rfl, rfl⟩⟩⟩, s', djn, rfl⟩, m3⟩
 rw [List.length_append, hlen, length_zeroCells, hzs, ← Nat.add_mul]
 exact Nat.mul_le_mul_right _ (by omega)
theorem W_callF {g : Operand} {xs : List Operand} {ts : Array TypeId} {f : FuncId} {fi ca args vs : List Value} {pre : World → Heap → Prop} {R0 rest : List HP} {post : Value → List HP → Prop}
  (ho : o.op = .call { callee := .value g, args := xs.toArray, argTypes := ts }) (hg : ev l g = some (.func (.func f) fi.toArray ca.toArray)) (hd : o.dst = some d) (hn : Nat.blt d F.n = true) (hx : evL l xs = some vs) (hvs : fi ++ vs ++ ca = args) (hc : callable C.P f = true) (hs : Spec C f args pre R0 post)
  (sp : Split rs R0 rest) (hp : ∀ w a b, Sep R0 a → Sep rest b → a.Disj b → Move C F.w F.h w (a.join b) → pre w a)
  (k : ∀ v rs', post v rs' → St C F ((d, v) :: l) (rs' ++ rest) K) : OpW C F l rs o K Q :=
 W_callv ho hg hx hvs hc hs sp hp fun v rs' hpost a w r n => by rw [hd]; exact k v rs' hpost _ w (r.put hn v) n
/-- What a block that a call may read holds, read as it lies. -/
theorem Sn.rds {b : Nat} {cs : List Value} (s : Sn C F rs (some ⟨b, 0, none⟩) cs) : Rds C F rs ⟨b, 0, none⟩ cs := by
 have h := Rds.sn (C := C) (F := F) (k := 0) (us := cs) s fun i v hv => by rw [Nat.zero_add]; exact hv
 exact h
end
end Go.Proofs.YtcngmkjdpoiiaaaGreatDoor

/- The twentieth part of the program logic: rows of records of whatever make. -/
namespace Go.Proofs.YtcngmkjdpoiiaaaGreatDoor
open Go Go.RowKit
/-- A record that lies in n cells. -/
class Rec (α : Type) where
 cells : α → List Value
 n : Nat
 len : ∀ x, (cells x).length = n
 one : ∀ x, ∀ v ∈ cells x, v.oneCell' = true
/-- The cells of a row of records. -/
def rc {α : Type} [Rec α] (l : List α) : List Value := l.flatMap Rec.cells
section
variable {α : Type} [Rec α]
theorem rc_len (l : List α) : ∀ x ∈ l, (Rec.cells x).length = Rec.n α := fun x _ => Rec.len x
theorem rc_length (l : List α) : (rc l).length = l.length * Rec.n α := rows_length (rc_len l)
theorem rc_append (l k : List α) : rc (l ++ k) = rc l ++ rc k := by simp [rc]
theorem rc_single (x : α) : rc [x] = Rec.cells x := by simp [rc]
theorem rc_one (l : List α) : ∀ v ∈ rc l, v.oneCell' = true := rows_one fun x _ => Rec.one x
theorem rc_at {l : List α} {i j : Nat} {x : α} {v : Value} (h : l[i]? = some x) (hv : (Rec.cells x)[j]? = some v) : (rc l)[i * Rec.n α + j]? = some v := rows_at (rc_len l) h j v hv
theorem rc_take (l : List α) (p : Nat) : (rc l).take (p * Rec.n α) = rc (l.take p) := rows_take (rc_len l) p
theorem rc_splice {l : List α} {i : Nat} (x : α) (h : i < l.length) : splice (rc l) (i * Rec.n α) (Rec.cells x) = rc (l.set i x) := rows_splice (rc_len l) h (Rec.len x)
theorem rc_set {l : List α} {i j : Nat} {x y : α} {v : Value} (h : l[i]? = some x) (hj : j < Rec.n α) (hy : Rec.cells y = (Rec.cells x).set j v) : (rc l).set (i * Rec.n α + j) v = rc (l.set i y) := rows_set (rc_len l) h hj hy
section
variable {C : Cx} {F : Fx} {rs : List HP}
/-- A record of a row that was there is read. -/
theorem rds_rc {b j i : Nat} {l : List α} {x : α} (h : Rds C F rs ⟨b, j, none⟩ (rc l)) (hx : l[i]? = some x) : Rds C F rs ⟨b, j + i * Rec.n α, none⟩ (Rec.cells x) := h.part (i * Rec.n α) fun m v hv => rc_at hx hv
theorem rd_rc {b j i k : Nat} {l : List α} {x : α} {v : Value} (h : Rds C F rs ⟨b, j, none⟩ (rc l)) (hx : l[i]? = some x) (hv : (Rec.cells x)[k]? = some v) : Rd C F rs ⟨b, j + i * Rec.n α + k, none⟩ v := by
 have := h.at_ (rc_at hx hv)
 rwa [← Nat.add_assoc] at this
theorem rds_own {T sz n c b : Nat} {l : List α} (m : Has rs (ownS T sz (.slice (some ⟨b, 0, none⟩) n c) n (rc l)) (ownS T sz (.slice (some ⟨b, 0, none⟩) n c) n (rc l)) rs) : Rds C F rs ⟨b, 0, none⟩ (rc l) := by
 have h := Rds.sn (C := C) (F := F) (k := 0) (us := rc l) (Sn.own m rfl) fun i v hv => by rw [Nat.zero_add]; exact hv
 exact h
end
end
end Go.Proofs.YtcngmkjdpoiiaaaGreatDoor

/- The twenty-second part of the program logic: what slices.Insert and its kin do with rows: room, zeros appended, copies of wide elements, whether two rows overlap. -/
namespace Go.Proofs.YtcngmkjdpoiiaaaGreatDoor
open Go Go.RowKit
/-- Block b is a row of these cells, and nothing of it is marked. -/
def blkZ (b : Nat) (cs : List Value) (T : TypeId) : HP := fun h => h = Heap.one b (.cells cs.toArray T (0, 0))
section
variable {C : Cx} {F : Fx} {l : Env} {rs rs' : List HP} {K : Act → World → Prop} {o : Oper} {Q : Exit → Act → World → Prop} {d : Nat}
theorem Now.allocZ {w : World} (n : Now C F rs w) (cs : List Value) (T : TypeId) : Now C F (blkZ w.heap.size cs T :: rs) (w.alloc (.cells cs.toArray T)) := by
 have hng := n.ng
 obtain ⟨h, s, m⟩ := n
 obtain ⟨dj, m2⟩ := m.alloc hng (.cells cs.toArray T)
 exact ⟨_, ⟨_, h, rfl, s, dj, rfl⟩, m2⟩
theorem W_litZ {t e sz bytes len : Nat} {parts : Array (Nat × Operand)} {vs : List Value} {z : Value} (cs : List Value) (ho : o.op = .buildSlice t len parts) (hd : o.dst = some d) (hn : Nat.blt d F.n = true) (ht : slB C.P t e sz bytes = true)
  (hz : ((C.P.info? e).bind (·.zero)).map (·.cells.size) = some sz) (hx : evL l (parts.toList.map (·.2)) = some vs) (hi : parts.toList.map (·.1) = List.range' 0 vs.length) (hlen : vs.length = len) (hsmall : len * sz ≤ 16777216) (h0 : ¬ len * sz = 0)
  (hv : ∀ v ∈ vs, v.cells.size = sz) (hcs : vs.flatMap (·.cells.toList) = cs)
  (k : ∀ b, St C F ((d, .slice (some ⟨b, 0, none⟩) len len) :: l) (blkZ b cs e :: rs) K) : OpW C F l rs o K Q := fun a w r n => by
 obtain ⟨h1, ti, h2, h3, _⟩ := slB_spec ht
 obtain ⟨z, hz1, hz2⟩ := Option.map_eq_some_iff.1 hz
 obtain ⟨i, hi1, hiz⟩ := Option.bind_eq_some_iff.1 hz1
 rw [h2] at hi1
 obtain rfl := Option.some.inj hi1
 have hparts : (parts.map fun (p : Nat × Operand) => (p.1, a.eval p.2)).toList = (List.range' 0 vs.length).zip vs := by
  rw [Array.toList_map, ← hi, ← r.evL hx]
  simp [List.zip_map', Function.comp_def]
 unfold Oper.wp
 have : (execOp a.eval o).run C.P w = .ok (.value (.slice (some ⟨w.heap.size, 0, none⟩) len len)) (w.alloc (.cells cs.toArray e)) := by
  have hns : ¬ (16777216 < len * sz) := by omega
  have hf := fill_flat sz vs 0 [] ((List.range (len * sz)).map fun j => z.cells[j % z.cells.size]!) (by simp) (by simp [hlen]) hv
  simp only [List.nil_append, hcs] at hf
  have hparts' : (Array.map (fun x : Nat × Operand => match x with | (i, x) => (i, a.eval x)) parts).toList = (List.range' 0 vs.length).zip vs := hparts
  simp only [execOp, ho, Instr.buildSlice, Sem.run_bind, run_underlying h1, Result.andThen_ok, sizeOf, typeInfo, run_program, h2, Sem.run_pure, h3]
  rw [hparts']
  have hf' : Instr.fill (fun i => some (i * sz, sz)) (Array.map (fun j => z.cells[j % z.cells.size]!) (Array.range (len * sz))) ((List.range' 0 vs.length).zip vs) = some cs.toArray := by
   rw [← hf]; congr 1; apply Array.ext'; simp [Array.toList_map, Array.toList_range]
  simp [hns, h0, zeroValue, typeInfo, h2, hiz, hf', newRow]
 rw [this]
 show K (a.put o.dst _) _
 rw [hd]
 exact k _ _ _ (r.put hn _) (n.allocZ cs e)
theorem P_cap {t e sz bytes : Nat} {x : Operand} {b : Option Addr} {n c : Nat} (ho : o.op = .call { callee := .builtin .cap, args := #[x], argTypes := #[t] }) (ht : slB C.P t e sz bytes = true) (hx : ev l x = some (.slice b n c)) : OpP C F l o (.int .i64 c) := fun a w r => by
 obtain ⟨h1, _⟩ := slB_spec ht
 simp [execOp, ho, resolve, invoke, builtin, r.ev hx, Builtin.cap_, run_underlying h1, goInt]
/-- copy of elements of whatever size; what is read is read ahead of what is written. -/
theorem W_copyN {t t' e sz bytes b j dl dc m k T : Nat} {x y : Operand} {u : Value} {cs news : List Value} (ho : o.op = .call { callee := .builtin .copy, args := #[x, y], argTypes := #[t, t'] }) (hd : o.dst = some d) (hn : Nat.blt d F.n = true)
  (ht : slB C.P t e sz bytes = true) (hx : ev l x = some (.slice (some ⟨b, j, none⟩) dl dc)) (hy : ev l y = some u) (hlen : Builtin.lenOf u = pure m) (hk : k = Nat.min m dl)
  (hc : ∀ w, Now C F rs w → (Builtin.firstCells sz k u).run C.P w = .ok news.toArray w) (h1 : ∀ v ∈ news, v.oneCell' = true) (has : Has rs (blk b cs T) (blk b (splice cs j news) T) rs') (hj : j + news.length ≤ cs.length)
  (kk : St C F ((d, .int .i64 k) :: l) rs' K) : OpW C F l rs o K Q := fun a w r nw => by
 obtain ⟨h2, ti, h3, h4, _⟩ := slB_spec ht
 have m0 : Has rs (blk b cs T) (blk b cs T) rs := by obtain ⟨p, q, e, _⟩ := has; exact ⟨p, q, e, e⟩
 obtain ⟨fr, hg, hf⟩ := nw.getBlk m0
 obtain ⟨w', hr, p⟩ := run_storeCells_blk (P := C.P) (o := j) news 0 cs w hg hf (by simpa using hj) h1
 unfold Oper.wp
 have : (execOp a.eval o).run C.P w = .ok (.value (.int .i64 k)) w' := by
  have hc' := hc w nw
  rw [hk] at hc' ⊢
  simp [execOp, ho, resolve, invoke, builtin, r.ev hx, r.ev hy, Builtin.copy_, run_underlying h2, sizeOf, typeInfo, h3, h4, hlen, hc', hr, goInt]
 rw [this]
 show K (a.put o.dst _) w'
 rw [hd]
 refine kk _ w' (r.put hn _) (nw.put has (length_splice _ _ _ hj) fun fr' hg' _ => ?_)
 rw [hg] at hg'
 injection hg' with hg'
 injection hg' with _ _ e
 exact e ▸ p
/-- append(s, make([]T, k)...) where s has no room: new memory, zeros behind what s held. -/
theorem W_appendZ {t tn e sz bytes i k cap : Nat} {kn kq : IntKind} {x y : Operand} {base : Option Addr} {olds : List Value} (ho : o.op = .call { callee := .builtin .append, args := #[x, y], argTypes := #[t, tn] }) (hd : o.dst = some d) (hn : Nat.blt d F.n = true)
  (ht : slB C.P t e sz bytes = true) (hap : apB C.P e sz = true) (htn : C.P.underlying tn = some (.int kn)) (hx : ev l x = some (.slice base i cap)) (hy : ev l y = some (.int kq (k : Int))) (hold : ∀ w, Now C F rs w → (Builtin.firstCells sz i (.slice base i cap)).run C.P w = .ok olds.toArray w)
  (h0 : 0 < k) (hsz : 0 < sz) (hg : cap < i + k) (hb : (i + k) * bytes ≤ 140737488355328) (hm : i + k ≤ maxLen)
  (kk : ∀ b cap' zs junk, zs.length = k * sz → i + k ≤ cap' → cap' ≤ maxLen → cap' * sz ≤ olds.length + zs.length + junk.length + (i * sz - olds.length) → St C F ((d, .slice (some ⟨b, 0, none⟩) (i + k) cap') :: l) (blk b (olds ++ zs ++ junk) e :: rs) K) : OpW C F l rs o K Q := fun a w r nw => by
 obtain ⟨h1, ti, h2, h3, h3b⟩ := slB_spec ht
 unfold apB at hap
 obtain ⟨z, hz0, hzs⟩ : ∃ z, ((C.P.info? e).bind (·.zero)) = some z ∧ z.cells.size = sz := by
  cases hh : (C.P.info? e).bind (·.zero) with
  | none => rw [hh] at hap; cases hap
  | some z => rw [hh] at hap; exact ⟨z, rfl, by simpa using hap⟩
 have hz : ti.zero = some z := by rw [h2] at hz0; exact hz0
 have hdrew := nw.drew (w.drawn + 1) (Nat.le_succ _)
 have hfit := growslice_fits hg hb
 have hr := Lib.run_append_grow_zeros (P := C.P) w t tn o.type e ti z kq kn h1 htn h2 hz base i cap olds (by rw [h3]; exact hold _ hdrew) k h0 (by rw [h3]; exact hsz) hg (by simp only [maxLen] at hm; omega) (by rw [h3b]; have := Nat.mul_le_mul_right bytes (Nat.le_add_left k i); omega) (by rw [h3b]; omega)
 have hrun : (execOp a.eval o).run C.P w = .ok (.value (.slice (some ⟨w.heap.size, 0, none⟩) (i + k) (grownCap w (i + k) cap e))) (w.drew.alloc (.cells (olds.toArray ++ Builtin.zeroCells z.cells k ++ Builtin.zeroCells z.cells (grownCap w (i + k) cap e - (i + k))) e)) := by
  simp [execOp, ho, resolve, invoke, builtin, r.ev hx, r.ev hy, hr]
 have hge := grownCap_ge w (i + k) cap e
 have hcm := grownCap_le_maxLen w (i + k) cap e hm
 have harr : (olds.toArray ++ Builtin.zeroCells z.cells k ++ Builtin.zeroCells z.cells (grownCap w (i + k) cap e - (i + k))) = (olds ++ (Builtin.zeroCells z.cells k).toList ++ (Builtin.zeroCells z.cells (grownCap w (i + k) cap e - (i + k))).toList).toArray := by
  apply Array.ext'; simp
 have hl1 : (Builtin.zeroCells z.cells k).toList.length = k * sz := by rw [length_zeroCells, hzs]
 have hl2 : (Builtin.zeroCells z.cells (grownCap w (i + k) cap e - (i + k))).toList.length = (grownCap w (i + k) cap e - (i + k)) * sz := by rw [length_zeroCells, hzs]
 unfold Oper.wp
 rw [hrun, harr]
 show K (a.put o.dst _) _
 rw [hd]
 refine kk _ _ _ _ hl1 hge hcm ?_ _ _ (r.put hn _) (hdrew.alloc _ _)
 rw [hl1, hl2, Nat.sub_mul]
 have h5 := Nat.mul_le_mul_right sz hge
 rw [Nat.add_mul] at h5 ⊢
 omega
/-- Two rows in two blocks do not overlap. -/
theorem V_apart {xs : List Operand} {ts : Array TypeId} {f tS tR e sz bytes b1 b2 j1 j2 la ca lb cb T1 T2 : Nat} {cs1 cs2 : List Value} {rest : List HP} (ho : o.op = .call { callee := .value (.func f), args := xs.toArray, argTypes := ts }) (hx : evL l xs = some [.slice (some ⟨b1, j1, none⟩) la ca, .slice (some ⟨b2, j2, none⟩) lb cb])
  (he : ∀ (args : Array Value) (w : World), (callFunc f args).run C.P w = ((Extern.SlicesOverlaps.overlaps #[tS, tS] #[tR] args).run C.P w).andThen fun v w' => .ok (.value v) w') (ht : slB C.P tS e sz bytes = true) (h2 : cs2.length ≠ 0) : OpV C F l (blkZ b1 cs1 T1 :: blk b2 cs2 T2 :: rest) o (.bool false) := fun a w r nw => by
 obtain ⟨h1, ti, hi, hs, _⟩ := slB_spec ht
 obtain ⟨h, ⟨a1, q1, x1, ⟨a2, q2, x2, _, d2, rfl⟩, d1, rfl⟩, mv⟩ := nw
 obtain ⟨fr, hfr, rfl⟩ := x2
 have x1' : a1 = Heap.one b1 (.cells cs1.toArray T1 (0, 0)) := x1
 subst x1'
 have hb1 := mv.sub b1 _ (Heap.le_join_left _ _ b1 _ (Heap.one_same _ _))
 have hb2 := mv.sub b2 _ (Heap.le_join_right d1 b2 _ (Heap.le_join_left _ _ b2 _ (Heap.one_same _ _)))
 have hne : b1 ≠ b2 := fun e => by
  subst e
  have := Heap.disj_one d1
  rw [Heap.join_none] at this
  rw [Heap.one_same] at this
  cases this.1
 have hr := Lib.run_overlaps_apart (P := C.P) w tS tR e h1 ti.size (fun w => by simp [sizeOf, typeInfo, hi]) ⟨b1, j1, none⟩ ⟨b2, j2, none⟩ la ca lb cb hne T1 T2 cs1.toArray.size cs2.toArray.size (by simp [World.shape?, hb1]) (by simp [World.shape?, hb2]) (by simpa using h2) (by simp [World.frozen?, hb1]) (by simp [World.frozen?, hb1])
 unfold execOp
 have hg : a.eval (.func f) = .func (.func f) #[] #[] := rfl
 simp only [ho, resolve, hg, Deferred.ofValue, invoke, Sem.run_bind, Sem.run_pure, Result.andThen_ok, List.map_toArray, r.evL hx]
 have := he #[.slice (some ⟨b1, j1, none⟩) la ca, .slice (some ⟨b2, j2, none⟩) lb cb] w
 rw [hr] at this
 simpa using this
theorem Rds.blkZ {b T : Nat} {cs : List Value} (m : Has rs (blkZ b cs T) (blkZ b cs T) rs) : Rds C F rs ⟨b, 0, none⟩ cs := Rds.of fun i v hv w n => by
 rw [Nat.zero_add]
 obtain ⟨a, x, h⟩ := n.has m
 have x' : a = Heap.one b (.cells cs.toArray T (0, 0)) := x
 subst x'
 have := (h b _ (Heap.one_same _ _)).1
 simp [World.cell?, this, hv]
/-- What a row that a call may read holds, read as it lies. -/
theorem Sn.rdsj {b j : Nat} {cs : List Value} (s : Sn C F rs (some ⟨b, j, none⟩) cs) : Rds C F rs ⟨b, j, none⟩ cs := by
 have h := Rds.sn (C := C) (F := F) (k := 0) (us := cs) s fun i v hv => by rw [Nat.zero_add]; exact hv
 exact h
theorem Rds.pre {ad : Addr} {A B : List Value} (h : Rds C F rs ad (A ++ B)) : Rds C F rs ad A := fun w n i v hv => h w n i v (by rw [List.getElem?_append_left (List.getElem?_eq_some_iff.1 hv).1]; exact hv)
theorem Rds.suf {b : Nat} {A B D : List Value} (h : Rds C F rs ⟨b, 0, none⟩ (A ++ B ++ D)) {n : Nat} (hn : A.length = n) : Rds C F rs ⟨b, n, none⟩ B := by
 have := h.part n (us := B) fun i v hv => by rw [List.append_assoc, List.getElem?_append_right (by omega), show n + i - A.length = i by omega, List.getElem?_append_left (List.getElem?_eq_some_iff.1 hv).1]; exact hv
 rwa [Nat.zero_add] at this
/-- A row whose first cells are a slice's is its own from now on. -/
theorem Weak.own_close {b n cap sz T : Nat} {cs junk : List Value} {rs : List HP} (hl : cs.length = n * sz) (h1 : n ≤ cap) (h2 : cap ≤ maxLen) (h3 : cap * sz ≤ cs.length + junk.length) : Weak (blk b (cs ++ junk) T :: rs) (ownS T sz (.slice (some ⟨b, 0, none⟩) n cap) n cs :: rs) :=
 Weak.turn .h0 fun h x => ⟨hl, .inr ⟨b, cap, junk, rfl, h1, h2, by rw [List.length_append]; exact h3, x⟩⟩
end
/-- One more element at a place. -/
def insL {α : Type} (l : List α) (i : Nat) (y : α) : List α := l.take i ++ y :: l.drop i
theorem insL_length {α : Type} {l : List α} {i : Nat} (h : i ≤ l.length) (y : α) : (insL l i y).length = l.length + 1 := by
 unfold insL; rw [List.length_append, List.length_cons, List.length_take, List.length_drop]; omega
theorem insL_end {α : Type} (l : List α) (y : α) : insL l l.length y = l ++ [y] := by unfold insL; rw [List.take_length, List.drop_length]
theorem splice_at {A B D news : List Value} (h : B.length = news.length) : splice (A ++ B ++ D) A.length news = A ++ news ++ D := by
 unfold splice
 rw [List.append_assoc A B D, List.take_left, List.drop_append, List.drop_of_length_le (by omega), List.nil_append, show A.length + news.length - A.length = B.length by omega, List.drop_left]
section
variable {α : Type} [Rec α]
theorem rc_insL (l : List α) (i : Nat) (y : α) : rc (insL l i y) = rc (l.take i) ++ Rec.cells y ++ rc (l.drop i) := by
 unfold insL
 rw [rc_append, show y :: l.drop i = [y] ++ l.drop i from rfl, rc_append, rc_single, List.append_assoc]
theorem rc_split (l : List α) (i : Nat) : rc l = rc (l.take i) ++ rc (l.drop i) := by rw [← rc_append, List.take_append_drop]
theorem rc_take_len {l : List α} {i : Nat} (h : i ≤ l.length) : (rc (l.take i)).length = i * Rec.n α := by rw [rc_length, List.length_take, Nat.min_eq_left h]
theorem rc_drop_len (l : List α) (i : Nat) : (rc (l.drop i)).length = (l.length - i) * Rec.n α := by rw [rc_length, List.length_drop]
section
variable {C : Cx} {F : Fx} {rs : List HP}
theorem rds_head {b : Nat} {l : List α} {junk : List Value} (h : Rds C F rs ⟨b, 0, none⟩ (rc l ++ junk)) (i : Nat) : Rds C F rs ⟨b, 0, none⟩ (rc (l.take i)) := by
 rw [rc_split l i, List.append_assoc] at h; exact h.pre
theorem rds_tail {b : Nat} {l : List α} {junk : List Value} (h : Rds C F rs ⟨b, 0, none⟩ (rc l ++ junk)) {i : Nat} (hi : i ≤ l.length) : Rds C F rs ⟨b, i * Rec.n α, none⟩ (rc (l.drop i)) := by
 rw [rc_split l i] at h; exact h.suf (rc_take_len hi)
theorem cells_head {b i T sz n cap : Nat} {l : List α} {junk : List Value} (m : Has rs (blk b (rc l ++ junk) T) (blk b (rc l ++ junk) T) rs) (hi : i ≤ l.length) (hs : Rec.n α = sz) : ∀ w, Now C F rs w → (Builtin.firstCells sz i (.slice (some ⟨b, 0, none⟩) n cap)).run C.P w = .ok (rc (l.take i)).toArray w := fun w nw => by
 subst hs
 exact run_firstCells_some w _ i _ n cap (rc (l.take i)) (rc_take_len hi) (rds_head (Rds.blk m) i w nw)
theorem cells_tail {b i T sz n cap : Nat} {l : List α} {junk : List Value} (m : Has rs (blk b (rc l ++ junk) T) (blk b (rc l ++ junk) T) rs) (hi : i ≤ l.length) (hs : Rec.n α = sz) : ∀ w, Now C F rs w → (Builtin.firstCells sz (l.length - i) (.slice (some ⟨b, i * sz, none⟩) n cap)).run C.P w = .ok (rc (l.drop i)).toArray w := fun w nw => by
 subst hs
 exact run_firstCells_some w _ (l.length - i) _ n cap (rc (l.drop i)) (rc_drop_len l i) (rds_tail (Rds.blk m) hi w nw)
theorem cells_one {b T sz n cap : Nat} {y : α} (m : Has rs (blkZ b (Rec.cells y) T) (blkZ b (Rec.cells y) T) rs) (hs : Rec.n α = sz) : ∀ w, Now C F rs w → (Builtin.firstCells sz 1 (.slice (some ⟨b, 0, none⟩) n cap)).run C.P w = .ok (Rec.cells y).toArray w := fun w nw => by
 subst hs
 exact run_firstCells_some w _ 1 _ n cap (Rec.cells y) (by rw [Rec.len]; omega) (Rds.blkZ m w nw)
end
/-- The two copies of slices.Insert in place. -/
theorem ins_here {l : List α} {i : Nat} (hi : i ≤ l.length) (y : α) {junk : List Value} (hj : Rec.n α ≤ junk.length) :
  splice (splice (rc l ++ junk) ((i + 1) * Rec.n α) (rc (l.drop i))) (i * Rec.n α) (Rec.cells y) = rc (insL l i y) ++ junk.drop (Rec.n α) := by
 have hA : (rc (l.take i)).length = i * Rec.n α := by rw [rc_length, List.length_take, Nat.min_eq_left hi]
 have hl : rc l = rc (l.take i) ++ rc (l.drop i) := by rw [← rc_append, List.take_append_drop]
 generalize hR : rc (l.drop i) = R at hl
 generalize hAA : rc (l.take i) = A at hA hl
 have h1 : splice (A ++ R ++ junk) ((i + 1) * Rec.n α) R = A ++ (R ++ junk).take (Rec.n α) ++ (R ++ junk.drop (Rec.n α)) := by
  have e : A ++ R ++ junk = (A ++ (R ++ junk).take (Rec.n α)) ++ ((R ++ junk).drop (Rec.n α)).take R.length ++ ((R ++ junk).drop (Rec.n α)).drop R.length := by
   rw [List.append_assoc (A ++ _), List.take_append_drop, List.append_assoc A, List.append_assoc A, List.take_append_drop]
  have hlen : (A ++ (R ++ junk).take (Rec.n α)).length = (i + 1) * Rec.n α := by
   rw [List.length_append, List.length_take, List.length_append, hA, Nat.add_mul]; omega
  rw [e, ← hlen, splice_at (by rw [List.length_take, List.length_drop, List.length_append]; omega)]
  rw [List.drop_drop, List.append_assoc (A ++ _) R, show Rec.n α + R.length = R.length + Rec.n α by omega, ← List.drop_drop, List.drop_left]
 rw [hl, h1, ← hA, splice_at (by rw [List.length_take, List.length_append, Rec.len]; omega), rc_insL, hR, hAA]
 simp only [List.append_assoc]
/-- The two copies of slices.Insert into new memory. -/
theorem ins_there {l : List α} {i : Nat} (hi : i ≤ l.length) (y : α) {zs junk : List Value} (hz : zs.length = (l.length + 1 - i) * Rec.n α) :
  splice (splice (rc (l.take i) ++ zs ++ junk) (i * Rec.n α) (Rec.cells y)) ((i + 1) * Rec.n α) (rc (l.drop i)) = rc (insL l i y) ++ junk := by
 have hA : (rc (l.take i)).length = i * Rec.n α := by rw [rc_length, List.length_take, Nat.min_eq_left hi]
 have hR : (rc (l.drop i)).length = (l.length - i) * Rec.n α := by rw [rc_length, List.length_drop]
 have hz2 : zs.length = Rec.n α + (l.length - i) * Rec.n α := by rw [hz, show l.length + 1 - i = 1 + (l.length - i) by omega, Nat.add_mul, Nat.one_mul]
 have e1 : rc (l.take i) ++ zs ++ junk = rc (l.take i) ++ zs.take (Rec.n α) ++ (zs.drop (Rec.n α) ++ junk) := by
  rw [List.append_assoc (rc (l.take i)) (zs.take _), ← List.append_assoc (zs.take _), List.take_append_drop, List.append_assoc]
 rw [e1, ← hA, splice_at (by rw [List.length_take, Rec.len]; omega), ← List.append_assoc]
 have e2 : (rc (l.take i) ++ Rec.cells y).length = (i + 1) * Rec.n α := by rw [List.length_append, hA, Rec.len, Nat.add_mul, Nat.one_mul]
 rw [← e2, splice_at (by rw [List.length_drop, hR]; omega), rc_insL]
end
section
variable {C : Cx} {F : Fx} {l : Env} {rs rs' : List HP} {K : Act → World → Prop} {o : Oper} {Q : Exit → Act → World → Prop}
/-- One cell of a record of a row of the call's own is written. -/
theorem W_setRec {α : Type} [Rec α] {t b c i j T sz n : Nat} {u y : Operand} {v : Value} {xs : List α} {x z : α} (ho : o.op = .store t u y) (hd : o.dst = none) (hu : ev l u = some (.pointer (some ⟨b, 0 + i * sz + j, none⟩))) (hy : ev l y = some v) (ht : scB C.P t = true) (h1 : v.oneCell' = true)
  (hx : xs[i]? = some x) (hs : Rec.n α = sz) (hj : j < sz) (hz : Rec.cells z = (Rec.cells x).set j v) (m : Has rs (ownS T sz (.slice (some ⟨b, 0, none⟩) n c) n (rc xs)) (ownS T sz (.slice (some ⟨b, 0, none⟩) n c) n (rc (xs.set i z))) rs') (k : St C F l rs' K) : OpW C F l rs o K Q := by
 subst hs
 have e : (rc xs).set (0 + i * Rec.n α + j) v = rc (xs.set i z) := by rw [Nat.zero_add]; exact rc_set hx hj hz
 rw [← e] at m
 refine W_storeOwn1 ho hd hu hy ht h1 m ?_ k
 have hi := (List.getElem?_eq_some_iff.1 hx).1
 rw [rc_length, Nat.zero_add]
 have := Nat.mul_le_mul_right (Rec.n α) hi
 rw [Nat.succ_mul] at this
 omega
end
end Go.Proofs.YtcngmkjdpoiiaaaGreatDoor

/- Plain: accounts and releases: what is sound, searches by halves, sums. -/
namespace Go.Proofs.YtcngmkjdpoiiaaaGreatDoor
open Go Go.RowKit
/-- An account. -/
structure Acc where
 a : Int
 bal : Int
 bond : Int
 non : Int
 jail : Bool
def Acc.cells (x : Acc) : List Value := [.int .u64 x.a, .int .u64 x.bal, .int .u64 x.bond, .int .u64 x.non, .bool x.jail]
instance : Rec Acc := ⟨Acc.cells, 5, fun _ => rfl, fun x v hv => by
 simp only [Acc.cells, List.mem_cons, List.not_mem_nil, or_false] at hv
 rcases hv with rfl | rfl | rfl | rfl | rfl <;> rfl⟩
def acc0 : Acc := ⟨0, 0, 0, 0, false⟩
instance : Inhabited Acc := ⟨acc0⟩
theorem Acc.inj {x y : Acc} (h : x.cells = y.cells) : x = y := by
 obtain ⟨a, b, c, d, e⟩ := x; obtain ⟨a', b', c', d', e'⟩ := y
 simp only [Acc.cells, List.cons.injEq, Value.int.injEq, Value.bool.injEq, and_true, true_and] at h
 obtain ⟨rfl, rfl, rfl, rfl, rfl⟩ := h; rfl
/-- A row of bond that was let go. -/
structure Rel where
 h : Int
 a : Int
 born : Int
 amt : Int
def Rel.cells (x : Rel) : List Value := [.int .u64 x.h, .int .u64 x.a, .int .u64 x.born, .int .u64 x.amt]
instance : Rec Rel := ⟨Rel.cells, 4, fun _ => rfl, fun x v hv => by
 simp only [Rel.cells, List.mem_cons, List.not_mem_nil, or_false] at hv
 rcases hv with rfl | rfl | rfl | rfl <;> rfl⟩
def rel0 : Rel := ⟨0, 0, 0, 0⟩
instance : Inhabited Rel := ⟨rel0⟩
theorem Rel.inj {x y : Rel} (h : x.cells = y.cells) : x = y := by
 obtain ⟨a, b, c, d⟩ := x; obtain ⟨a', b', c', d'⟩ := y
 simp only [Rel.cells, List.cons.injEq, Value.int.injEq, and_true, true_and] at h
 obtain ⟨rfl, rfl, rfl, rfl⟩ := h; rfl
def u64 (x : Int) : Prop := 0 ≤ x ∧ x ≤ 18446744073709551615
def Acc.ok (x : Acc) : Prop := u64 x.a ∧ u64 x.bal ∧ u64 x.bond ∧ u64 x.non
def Rel.ok (x : Rel) : Prop := u64 x.h ∧ u64 x.a ∧ u64 x.born ∧ u64 x.amt
/-- A ledger: its lists, what was burnt, how much there was. -/
structure Led where
 acc : List Acc
 rel : List Rel
 burnt : Int
 sup : Int
def led0 : Led := ⟨[], [], 0, 0⟩
def Led.ok (l : Led) : Prop := (∀ x ∈ l.acc, x.ok) ∧ (∀ x ∈ l.rel, x.ok) ∧ u64 l.burnt ∧ u64 l.sup
/-! ### The first of many errors -/
def firstE (f : Nat → Int) : Nat → Int
 | 0 => 0
 | k + 1 => if firstE f k = 0 then f k else firstE f k
theorem firstE_next {f : Nat → Int} {i : Nat} (h0 : firstE f i = 0) (hb : f i = 0) : firstE f (i + 1) = 0 := by rw [firstE, if_pos h0, hb]
theorem firstE_stay {f : Nat → Int} {k : Nat} (h : firstE f k ≠ 0) : ∀ n, firstE f (k + n) = firstE f k
 | 0 => rfl
 | n + 1 => by
  have ih := firstE_stay h n
  show firstE f (k + n + 1) = _
  rw [firstE, if_neg (by rw [ih]; exact h), ih]
theorem firstE_hit {f : Nat → Int} {i n : Nat} {e : Int} (h0 : firstE f i = 0) (hb : f i = e) (he : e ≠ 0) (hi : i < n) : firstE f n = e := by
 have h1 : firstE f (i + 1) = e := by rw [firstE, if_pos h0, hb]
 have := firstE_stay (f := f) (k := i + 1) (by rw [h1]; exact he) (n - (i + 1))
 rwa [show i + 1 + (n - (i + 1)) = n by omega, h1] at this
theorem firstE_down {f : Nat → Int} {n : Nat} (h : firstE f n = 0) : ∀ k, k ≤ n → firstE f k = 0 := fun k hk => by
 cases Classical.em (firstE f k = 0) with
 | inl h0 => exact h0
 | inr h0 =>
  have := firstE_stay h0 (n - k)
  rw [show k + (n - k) = n by omega, h] at this
  exact absurd this.symm h0
theorem firstE_at {f : Nat → Int} {n : Nat} (h : firstE f n = 0) {k : Nat} (hk : k < n) : f k = 0 := by
 have h1 := firstE_down h k (by omega)
 have h2 := firstE_down h (k + 1) (by omega)
 rwa [firstE, if_pos h1] at h2
/-! ### Accounts -/
def MS : Int := 1152921504606846975
def accAt (l : List Acc) (i : Nat) : Acc := l.getD i acc0
def relAt (l : List Rel) (i : Nat) : Rel := l.getD i rel0
theorem accAt_of {l : List Acc} {i : Nat} {x : Acc} (h : l[i]? = some x) : accAt l i = x := by unfold accAt; rw [List.getD_eq_getElem?_getD, h]; rfl
theorem relAt_of {l : List Rel} {i : Nat} {x : Rel} (h : l[i]? = some x) : relAt l i = x := by unfold relAt; rw [List.getD_eq_getElem?_getD, h]; rfl
theorem accAt_get {l : List Acc} {i : Nat} (h : i < l.length) : l[i]? = some (accAt l i) := by unfold accAt; rw [List.getD_eq_getElem?_getD, List.getElem?_eq_getElem h]; rfl
theorem relAt_get {l : List Rel} {i : Nat} (h : i < l.length) : l[i]? = some (relAt l i) := by unfold relAt; rw [List.getD_eq_getElem?_getD, List.getElem?_eq_getElem h]; rfl
theorem accAt_mem {l : List Acc} {i : Nat} (h : i < l.length) : accAt l i ∈ l := List.mem_of_getElem? (accAt_get h)
theorem relAt_mem {l : List Rel} {i : Nat} (h : i < l.length) : relAt l i ∈ l := List.mem_of_getElem? (relAt_get h)
def accBad (l : List Acc) (i : Nat) : Int := if (accAt l i).a = 0 then 85 else if 0 < i ∧ (accAt l i).a ≤ (accAt l (i - 1)).a then 42 else if MS < (accAt l i).bal ∨ MS < (accAt l i).bond then 87 else 0
def accE (l : List Acc) : Int := firstE (accBad l) l.length
def sumA (l : List Acc) : Int := (l.map fun x => x.bal + x.bond).sum
def sumR (l : List Rel) : Int := (l.map Rel.amt).sum
theorem sumA_snoc {l : List Acc} {i : Nat} {x : Acc} (h : l[i]? = some x) : sumA (l.take (i + 1)) = sumA (l.take i) + (x.bal + x.bond) := by
 rw [List.take_add_one, h]; simp [sumA]
theorem sumR_snoc {l : List Rel} {i : Nat} {x : Rel} (h : l[i]? = some x) : sumR (l.take (i + 1)) = sumR (l.take i) + x.amt := by
 rw [List.take_add_one, h]; simp [sumR]
theorem sumA_cons (x : Acc) (l : List Acc) : sumA (x :: l) = x.bal + x.bond + sumA l := by simp [sumA]
theorem sumR_cons (x : Rel) (l : List Rel) : sumR (x :: l) = x.amt + sumR l := by simp [sumR]
theorem sumA_nn {l : List Acc} (h : ∀ x ∈ l, x.ok) : 0 ≤ sumA l := by
 induction l with
 | nil => decide
 | cons x l ih =>
  rw [sumA_cons]
  have h1 := ih fun y hy => h y (by simp [hy])
  obtain ⟨_, ⟨h2, _⟩, ⟨h3, _⟩, _⟩ := h x (by simp)
  omega
theorem sumR_nn {l : List Rel} (h : ∀ x ∈ l, x.ok) : 0 ≤ sumR l := by
 induction l with
 | nil => decide
 | cons x l ih =>
  rw [sumR_cons]
  have h1 := ih fun y hy => h y (by simp [hy])
  obtain ⟨_, _, _, ⟨h3, _⟩⟩ := h x (by simp)
  omega
/-- So far each account has passed: the sum is not great. -/
theorem sumA_le {l : List Acc} : ∀ i, i ≤ l.length → firstE (accBad l) i = 0 → sumA (l.take i) ≤ 2 * MS * i
 | 0, _, _ => by simp [sumA]
 | i + 1, h, h0 => by
  have h1 := firstE_down h0 i (by omega)
  have h2 := firstE_at h0 (show i < i + 1 by omega)
  rw [sumA_snoc (accAt_get (by omega))]
  have h3 := sumA_le i (by omega) h1
  unfold accBad at h2
  split at h2
  ·omega
  ·split at h2
   ·omega
   ·split at h2
    ·omega
    ·have : (accAt l i).bal ≤ MS ∧ (accAt l i).bond ≤ MS := by omega
     push_cast
     rw [Int.mul_add]
     omega
structure AccFine (l : List Acc) : Prop where
 no0 : ∀ i, i < l.length → (accAt l i).a ≠ 0
 up : ∀ i, 0 < i → i < l.length → (accAt l (i - 1)).a < (accAt l i).a
 le : ∀ i, i < l.length → (accAt l i).bal ≤ MS ∧ (accAt l i).bond ≤ MS
theorem accFine_of {l : List Acc} (h : accE l = 0) : AccFine l := by
 have key : ∀ i, i < l.length → (accAt l i).a ≠ 0 ∧ (0 < i → (accAt l (i - 1)).a < (accAt l i).a) ∧ (accAt l i).bal ≤ MS ∧ (accAt l i).bond ≤ MS := fun i hi => by
  have h2 := firstE_at h hi
  unfold accBad at h2
  split at h2
  ·omega
  ·split at h2
   ·omega
   ·split at h2
    ·omega
    ·refine ⟨by assumption, fun hp => ?_, by omega, by omega⟩
     rename_i h4 _
     exact Int.not_le.1 fun h5 => h4 ⟨hp, h5⟩
 exact ⟨fun i hi => (key i hi).1, fun i h0 hi => (key i hi).2.1 h0, fun i hi => (key i hi).2.2⟩
theorem AccFine.mono {l : List Acc} (h : AccFine l) : ∀ i j, i < j → j < l.length → (accAt l i).a < (accAt l j).a := fun i j hij hj => by
 induction j with
 | zero => omega
 | succ j ih =>
  have h1 := h.up (j + 1) (by omega) hj
  rcases Nat.lt_or_ge i j with h2 | h2
  ·exact Int.lt_trans (ih h2 (by omega)) h1
  ·obtain rfl : i = j := by omega
   exact h1
/-- What New answers. -/
def newE (l : List Acc) : Int := if 65536 < l.length then 86 else if accE l ≠ 0 then accE l else if MS < sumA l then 87 else 0
def newL8 (l : List Acc) : Led := if newE l = 0 then ⟨l, [], 0, sumA l⟩ else led0
theorem newE_big {l : List Acc} (h : 65536 < l.length) : newE l = 86 := by rw [newE, if_pos h]
theorem newE_bad {l : List Acc} (h : ¬ 65536 < l.length) (hb : accE l ≠ 0) : newE l = accE l := by rw [newE, if_neg h, if_pos hb]
theorem newE_sum {l : List Acc} (h : ¬ 65536 < l.length) (hb : accE l = 0) (hs : MS < sumA l) : newE l = 87 := by rw [newE, if_neg h, if_neg (by rw [hb]; simp), if_pos hs]
theorem newE_fine {l : List Acc} (h : ¬ 65536 < l.length) (hb : accE l = 0) (hs : ¬ MS < sumA l) : newE l = 0 := by rw [newE, if_neg h, if_neg (by rw [hb]; simp), if_neg hs]
theorem newE_zero {l : List Acc} (h : newE l = 0) : l.length ≤ 65536 ∧ accE l = 0 ∧ sumA l ≤ MS := by
 unfold newE at h
 split at h
 ·omega
 ·split at h
  ·exact absurd h (by assumption)
  ·split at h
   ·omega
   ·exact ⟨by omega, Classical.not_not.1 (by assumption), by omega⟩
theorem newL8_bad {l : List Acc} (h : newE l ≠ 0) : newL8 l = led0 := if_neg h
theorem newL8_fine {l : List Acc} (h : newE l = 0) : newL8 l = ⟨l, [], 0, sumA l⟩ := if_pos h
/-! ### Sums that stop -/
def addC (t x : Int) : Int := if MS < t ∨ MS < x then MS + 1 else t + x
def capF (t : Int) : List Int → Int
 | [] => t
 | x :: l => capF (addC t x) l
theorem capF_app (t : Int) (l k : List Int) : capF t (l ++ k) = capF (capF t l) k := by
 induction l generalizing t with
 | nil => rfl
 | cons x l ih => exact ih _
theorem capF_big {t : Int} (h : MS < t) : ∀ l, MS < capF t l
 | [] => h
 | x :: l => capF_big (t := addC t x) (by unfold addC; rw [if_pos (.inl h)]; omega) l
theorem capF_spec {l : List Int} (h : ∀ x ∈ l, 0 ≤ x) : ∀ t, 0 ≤ t → (capF t l ≤ MS ↔ t + l.sum ≤ MS) ∧ (capF t l ≤ MS → capF t l = t + l.sum) := by
 induction l with
 | nil => intro t _; simp [capF]
 | cons x l ih =>
  intro t ht
  have hx := h x (by simp)
  have hs : 0 ≤ l.sum := by
   have : ∀ k : List Int, (∀ y ∈ k, 0 ≤ y) → 0 ≤ k.sum := by
    intro k
    induction k with
    | nil => intro _; decide
    | cons y k ihk => intro hk; rw [List.sum_cons]; have := ihk fun z hz => hk z (by simp [hz]); have := hk y (by simp); omega
   exact this l fun y hy => h y (by simp [hy])
  rw [List.sum_cons]
  show (capF (addC t x) l ≤ MS ↔ _) ∧ (capF (addC t x) l ≤ MS → capF (addC t x) l = _)
  unfold addC
  split
  ·have := capF_big (t := MS + 1) (by omega) l
   refine ⟨⟨fun h => by omega, fun h => by omega⟩, fun h => by omega⟩
  ·obtain ⟨h1, h2⟩ := ih (fun y hy => h y (by simp [hy])) (t + x) (by omega)
   rw [← Int.add_assoc]
   exact ⟨h1, h2⟩
/-! ### Searches by halves -/
def bsI (p : Nat → Bool) : Nat → Nat → Nat → Nat
 | 0, lo, _ => lo
 | f + 1, lo, hi => if lo < hi then (if p ((lo + hi) / 2) = true then bsI p f ((lo + hi) / 2 + 1) hi else bsI p f lo ((lo + hi) / 2)) else lo
theorem bsI_fuel (p : Nat → Bool) : ∀ (f g lo hi : Nat), hi - lo ≤ f → hi - lo ≤ g → bsI p f lo hi = bsI p g lo hi
 | 0, 0, _, _, _, _ => rfl
 | 0, g + 1, lo, hi, h, _ => by rw [bsI, bsI, if_neg (by omega)]
 | f + 1, 0, lo, hi, _, h => by rw [bsI, bsI, if_neg (by omega)]
 | f + 1, g + 1, lo, hi, h1, h2 => by
  rw [bsI, bsI]
  split
  ·split
   ·exact bsI_fuel p f g _ _ (by omega) (by omega)
   ·exact bsI_fuel p f g _ _ (by omega) (by omega)
  ·rfl
def bsN (p : Nat → Bool) (lo hi : Nat) : Nat := bsI p (hi - lo) lo hi
theorem bsN_end {p : Nat → Bool} {lo hi : Nat} (h : ¬ lo < hi) : bsN p lo hi = lo := by
 unfold bsN; rw [show hi - lo = 0 by omega]; rfl
theorem bsN_up {p : Nat → Bool} {lo hi : Nat} (h : lo < hi) (hp : p ((lo + hi) / 2) = true) : bsN p lo hi = bsN p ((lo + hi) / 2 + 1) hi := by
 unfold bsN
 obtain ⟨f, hf⟩ : ∃ f, hi - lo = f + 1 := ⟨hi - lo - 1, by omega⟩
 rw [hf, bsI, if_pos h, if_pos hp]
 exact bsI_fuel p _ _ _ _ (by omega) (by omega)
theorem bsN_down {p : Nat → Bool} {lo hi : Nat} (h : lo < hi) (hp : p ((lo + hi) / 2) = false) : bsN p lo hi = bsN p lo ((lo + hi) / 2) := by
 unfold bsN
 obtain ⟨f, hf⟩ : ∃ f, hi - lo = f + 1 := ⟨hi - lo - 1, by omega⟩
 rw [hf, bsI, if_pos h, if_neg (by rw [hp]; decide)]
 exact bsI_fuel p _ _ _ _ (by omega) (by omega)
theorem bsN_bound (p : Nat → Bool) : ∀ (f lo hi : Nat), hi - lo ≤ f → lo ≤ hi → lo ≤ bsN p lo hi ∧ bsN p lo hi ≤ hi
 | 0, lo, hi, h, h2 => by rw [bsN_end (by omega)]; omega
 | f + 1, lo, hi, h, h2 => by
  rcases Nat.lt_or_ge lo hi with hl | hl
  ·cases hp : p ((lo + hi) / 2) with
   | true => rw [bsN_up hl hp]; have := bsN_bound p f ((lo + hi) / 2 + 1) hi (by omega) (by omega); omega
   | false => rw [bsN_down hl hp]; have := bsN_bound p f lo ((lo + hi) / 2) (by omega) (by omega); omega
  ·rw [bsN_end (by omega)]; omega
/-- Where what is asked is true ahead of a place and false from there on, that place is found. -/
theorem bsN_spec {p : Nat → Bool} : ∀ (f lo hi : Nat), hi - lo ≤ f → lo ≤ hi → (∀ i j, lo ≤ i → i < j → j < hi → p j = true → p i = true) → (∀ i, lo ≤ i → i < bsN p lo hi → p i = true) ∧ (∀ i, bsN p lo hi ≤ i → i < hi → p i = false)
 | 0, lo, hi, h, h2, _ => by rw [bsN_end (by omega)]; exact ⟨fun i _ _ => by omega, fun i _ _ => by omega⟩
 | f + 1, lo, hi, h, h2, hm => by
  rcases Nat.lt_or_ge lo hi with hl | hl
  ·cases hp : p ((lo + hi) / 2) with
   | true =>
    rw [bsN_up hl hp]
    obtain ⟨h3, h4⟩ := bsN_spec f ((lo + hi) / 2 + 1) hi (by omega) (by omega) fun i j hi' => hm i j (by omega)
    refine ⟨fun i h5 h6 => ?_, h4⟩
    rcases Nat.lt_trichotomy i ((lo + hi) / 2) with h7 | h7 | h7
    ·exact hm i _ h5 h7 (by omega) hp
    ·rw [h7]; exact hp
    ·exact h3 i (by omega) h6
   | false =>
    rw [bsN_down hl hp]
    obtain ⟨h3, h4⟩ := bsN_spec f lo ((lo + hi) / 2) (by omega) (by omega) fun i j h1 h2' h3' => hm i j h1 h2' (by omega)
    refine ⟨h3, fun i h5 h6 => ?_⟩
    rcases Nat.lt_trichotomy i ((lo + hi) / 2) with h7 | h7 | h7
    ·exact h4 i h5 h7
    ·rw [h7]; exact hp
    ·cases hq : p i with
     | false => rfl
     | true => rw [hm ((lo + hi) / 2) i (by omega) h7 h6 hq] at hp; cases hp
  ·rw [bsN_end (by omega)]; exact ⟨fun i _ _ => by omega, fun i _ _ => by omega⟩
/-- Where an account stands, or would stand. -/
def spotI (l : List Acc) (a : Int) : Nat := bsN (fun i => decide ((accAt l i).a < a)) 0 l.length
def spotB (l : List Acc) (a : Int) : Bool := decide (spotI l a < l.length) && decide ((accAt l (spotI l a)).a = a)
def placeI (l : List Acc) (a : Int) : Int := if spotB l a = true then (spotI l a : Int) else -1
theorem spotI_le (l : List Acc) (a : Int) : spotI l a ≤ l.length := (bsN_bound _ _ 0 l.length (Nat.le_refl _) (Nat.zero_le _)).2
theorem AccFine.uniq {l : List Acc} (h : AccFine l) {i j : Nat} (hi : i < l.length) (hj : j < l.length) (e : (accAt l i).a = (accAt l j).a) : i = j := by
 rcases Nat.lt_trichotomy i j with h1 | h1 | h1
 ·have := h.mono i j h1 hj; omega
 ·exact h1
 ·have := h.mono j i h1 hi; omega
/-! ### Releases -/
def laterB (x y : Rel) : Bool := decide (y.h < x.h) || (decide (x.h = y.h) && decide (y.a < x.a))
def relBad (l : List Acc) (r : List Rel) (i : Nat) : Int :=
 if spotB l (relAt r i).a = false then 85 else if 1099511627776 < (relAt r i).born ∨ (relAt r i).h < (relAt r i).born ∨ 1103806595072 < (relAt r i).h then 2
 else if 0 < i ∧ laterB (relAt r i) (relAt r (i - 1)) = false then 42 else if (relAt r i).amt = 0 ∨ MS < (relAt r i).amt then 87 else 0
def relE (l : List Acc) (r : List Rel) : Int := firstE (relBad l r) r.length
def lsoundE (l : Led) : Int := if 65536 < l.acc.length ∨ 65536 < l.rel.length then 86 else if accE l.acc ≠ 0 then accE l.acc else if relE l.acc l.rel ≠ 0 then relE l.acc l.rel
 else if MS < l.sup ∨ l.burnt + sumA l.acc + sumR l.rel ≠ l.sup then 87 else 0
theorem sumR_le {a : List Acc} {l : List Rel} : ∀ i, i ≤ l.length → firstE (relBad a l) i = 0 → sumR (l.take i) ≤ MS * i
 | 0, _, _ => by simp [sumR]
 | i + 1, h, h0 => by
  have h1 := firstE_down h0 i (by omega)
  have h2 := firstE_at h0 (show i < i + 1 by omega)
  rw [sumR_snoc (relAt_get (by omega))]
  have h3 := sumR_le i (by omega) h1
  have : (relAt l i).amt ≤ MS := by
   unfold relBad at h2
   split at h2
   ·omega
   ·split at h2
    ·omega
    ·split at h2
     ·omega
     ·split at h2 <;> omega
  push_cast
  rw [Int.mul_add]
  omega
structure LedFine (l : Led) : Prop where
 few : l.acc.length ≤ 65536
 few' : l.rel.length ≤ 65536
 acc : accE l.acc = 0
 rel : relE l.acc l.rel = 0
 sup : l.sup ≤ MS
 sum : l.burnt + sumA l.acc + sumR l.rel = l.sup
theorem LedFine.zero {l : Led} (h : LedFine l) : lsoundE l = 0 := by
 unfold lsoundE
 rw [if_neg (by have := h.few; have := h.few'; omega), if_neg (by rw [h.acc]; simp), if_neg (by rw [h.rel]; simp), if_neg (by rw [h.sum]; have := h.sup; omega)]
end Go.Proofs.YtcngmkjdpoiiaaaGreatDoor

/- Plain: turns by priorities: the highest is chosen and pays the total; how far apart the priorities can come. -/
namespace Go.Proofs.YtcngmkjdpoiiaaaGreatDoor

/-! ### Sums of the first n -/
def sumI : Nat → (Nat → Int) → Int
 | 0, _ => 0
 | k + 1, f => sumI k f + f k
theorem sumI_congr {n : Nat} {f g : Nat → Int} (h : ∀ i, i < n → f i = g i) : sumI n f = sumI n g := by
 induction n with
 | zero => rfl
 | succ n ih => simp only [sumI]; rw [ih fun i hi => h i (by omega), h n (by omega)]
theorem sumI_le {n : Nat} {f g : Nat → Int} (h : ∀ i, i < n → f i ≤ g i) : sumI n f ≤ sumI n g := by
 induction n with
 | zero => exact Int.le_refl _
 | succ n ih => simp only [sumI]; have := ih fun i hi => h i (by omega); have := h n (by omega); omega
theorem sumI_zero (n : Nat) : sumI n (fun _ => 0) = 0 := by
 induction n with
 | zero => rfl
 | succ n ih => simp only [sumI]; rw [ih]; rfl
theorem sumI_nonneg {n : Nat} {f : Nat → Int} (h : ∀ i, i < n → 0 ≤ f i) : 0 ≤ sumI n f := by
 have := sumI_le (f := fun _ => 0) h; rwa [sumI_zero] at this
theorem sumI_mul (n : Nat) (c : Int) (f : Nat → Int) : sumI n (fun i => c * f i) = c * sumI n f := by
 induction n with
 | zero => simp [sumI]
 | succ n ih => simp only [sumI]; rw [ih, Int.mul_add]
/-- The sum over a set. -/
def sumS (n : Nat) (S : Nat → Bool) (f : Nat → Int) : Int := sumI n fun i => if S i then f i else 0
theorem sumS_le {n : Nat} {S : Nat → Bool} {f g : Nat → Int} (h : ∀ i, i < n → S i = true → f i ≤ g i) : sumS n S f ≤ sumS n S g :=
 sumI_le fun i hi => by split; exact h i hi ‹_›; exact Int.le_refl _
theorem sumS_const (n : Nat) (S : Nat → Bool) (c : Int) : sumS n S (fun _ => c) = c * sumS n S (fun _ => 1) := by
 unfold sumS; rw [← sumI_mul]; exact sumI_congr fun i _ => by split <;> simp
/-! ### One turn -/
/-- The least multiple of all numbers up to 64. -/
def dK : Int := 1182266884102822267511361600
def dQ (j : Nat) : Int := dK / ((j : Int) + 1)
theorem dQ_all : ((List.range 64).all fun j => decide (((j : Int) + 1) * dQ j = dK) && decide (0 ≤ dQ j)) = true := by decide +kernel
theorem dQ_nn {j : Nat} (h : j < 64) : 0 ≤ dQ j := by
 have := List.all_eq_true.1 dQ_all j (by simpa using h)
 simp only [Bool.and_eq_true, decide_eq_true_eq] at this; exact this.2
/-- dK (1/(k+1) + .. + 1/n) -/
def hN (n k : Nat) : Int := sumI n fun j => if k ≤ j then dQ j else 0
theorem hN_nn {n k : Nat} (h : n ≤ 64) : 0 ≤ hN n k := sumI_nonneg fun j hj => by split; exact dQ_nn (by omega); exact Int.le_refl _
/-- Every k of them are together at most k (C + T (1/(k+1) + .. + 1/n)). -/
def Cup (n : Nat) (C T : Int) (q : Nat → Int) : Prop := ∀ (S : Nat → Bool) (k : Nat), sumS n S (fun _ => 1) = k → 1 ≤ k → dK * sumS n S q ≤ k * (C * dK + T * hN n k)
theorem Cup.start {n : Nat} {C T : Int} {q : Nat → Int} (hn : n ≤ 64) (hT : 0 ≤ T) (h : ∀ i, i < n → q i ≤ C) : Cup n C T q := fun S k hk h1 => by
 have h2 : sumS n S q ≤ C * k := by
  have := sumS_le (n := n) (S := S) (f := q) (g := fun _ => C) (fun i hi _ => h i hi)
  rwa [sumS_const, hk] at this
 have h3 : 0 ≤ (k : Int) * (T * hN n k) := Int.mul_nonneg (by omega) (Int.mul_nonneg hT (hN_nn hn))
 have h4 : dK * sumS n S q ≤ dK * (C * k) := Int.mul_le_mul_of_nonneg_left h2 (by decide)
 have h5 : dK * (C * k) = (k : Int) * (C * dK) := by rw [Int.mul_comm dK, Int.mul_comm C, Int.mul_assoc]
 rw [Int.mul_add]; omega
end Go.Proofs.YtcngmkjdpoiiaaaGreatDoor

/- Plain: what is sound, who is chosen: the council's reckonings. -/
namespace Go.Proofs.YtcngmkjdpoiiaaaGreatDoor
open Go Go.RowKit
/-- A member: address, power, priority. -/
structure Mem where
 a : Int
 p : Int
 q : Int
def Mem.cells (m : Mem) : List Value := [.int .u64 m.a, .int .u64 m.p, .int .i64 m.q]
theorem Mem.cells_one (m : Mem) : ∀ v ∈ m.cells, v.oneCell' = true := fun v hv => by
 simp only [Mem.cells, List.mem_cons, List.not_mem_nil, or_false] at hv
 rcases hv with rfl | rfl | rfl <;> rfl
def Mem.ok (m : Mem) : Prop := (0 ≤ m.a ∧ m.a ≤ 18446744073709551615) ∧ (0 ≤ m.p ∧ m.p ≤ 18446744073709551615) ∧ (-9223372036854775808 ≤ m.q ∧ m.q ≤ 9223372036854775807)
/-! ### What is sound -/
def msK : Int := 1152921504606846975
def sumP (l : List Mem) : Int := (l.map Mem.p).sum
def mAt (l : List Mem) (i : Nat) : Mem := l.getD i ⟨0, 0, 0⟩
theorem mAt_of {l : List Mem} {i : Nat} {m : Mem} (h : l[i]? = some m) : mAt l i = m := by simp [mAt, List.getD, h]
def badAt (l : List Mem) (i : Nat) : Int := if (mAt l i).a = 0 then 85 else if 0 < i ∧ (mAt l i).a ≤ (mAt l (i - 1)).a then 52 else if (mAt l i).p = 0 ∨ msK < (mAt l i).p then 50 else 0
def bads (l : List Mem) : Nat → Int
 | 0 => 0
 | k + 1 => if bads l k = 0 then badAt l k else bads l k
theorem bads_stay {l : List Mem} {k : Nat} (h : bads l k ≠ 0) : ∀ n, bads l (k + n) = bads l k
 | 0 => rfl
 | n + 1 => by
  have ih := bads_stay h n
  show (if bads l (k + n) = 0 then badAt l (k + n) else bads l (k + n)) = _
  rw [ih, if_neg h]
structure Fine (l : List Mem) : Prop where
 pos : 0 < l.length
 few : l.length ≤ 64
 no : bads l l.length = 0
 tot : sumP l ≤ msK
theorem bads_down {l : List Mem} {n : Nat} (h : bads l n = 0) : ∀ k, k ≤ n → bads l k = 0 := fun k hk => by
 by_cases h0 : bads l k = 0
 ·exact h0
 ·have := bads_stay h0 (n - k)
  rw [show k + (n - k) = n by omega, h] at this
  exact this.symm
theorem Fine.badAt {l : List Mem} (h : Fine l) {i : Nat} (hi : i < l.length) : Go.Proofs.YtcngmkjdpoiiaaaGreatDoor.badAt l i = 0 := by
 have h1 := bads_down h.no i (by omega)
 have h2 := bads_down h.no (i + 1) (by omega)
 have h3 : (if bads l i = 0 then Go.Proofs.YtcngmkjdpoiiaaaGreatDoor.badAt l i else bads l i) = 0 := h2
 rwa [if_pos h1] at h3
theorem Fine.at_ {l : List Mem} (h : Fine l) {i : Nat} {m : Mem} (hm : l[i]? = some m) : m.a ≠ 0 ∧ m.p ≠ 0 ∧ m.p ≤ msK ∧ ∀ m', 0 < i → l[i - 1]? = some m' → m'.a < m.a := by
 have hb := h.badAt (List.getElem?_eq_some_iff.1 hm).1
 unfold Go.Proofs.YtcngmkjdpoiiaaaGreatDoor.badAt at hb
 rw [mAt_of hm] at hb
 split at hb
 ·cases hb
 ·rename_i h1
  split at hb
  ·cases hb
  ·rename_i h2
   split at hb
   ·cases hb
   ·rename_i h3
    refine ⟨h1, by omega, by omega, fun m' hi hm' => ?_⟩
    rw [mAt_of hm'] at h2
    omega
/-! ### Searches -/
theorem drop_at {α : Type} {l : List α} {i : Nat} {x : α} (h : l[i]? = some x) : l.drop i = x :: l.drop (i + 1) := by
 have hlt := (List.getElem?_eq_some_iff.1 h).1
 rw [List.drop_eq_getElem_cons hlt]
 rw [List.getElem?_eq_getElem hlt, Option.some.injEq] at h
 rw [h]
end Go.Proofs.YtcngmkjdpoiiaaaGreatDoor

/- Plain: merging in place: two blocks exchanged, rotations, binary searches, what a merge leaves. -/
namespace Go.Proofs.YtcngmkjdpoiiaaaGreatDoor
open Go Go.Sort
section
variable {α : Type} [Inhabited α]
/-- The first n places of two blocks are exchanged. -/
def swR (d : Array α) (a b : Nat) : Nat → Array α
 | 0 => d
 | n + 1 => swp (swR d a b n) (a + n) (b + n)
def swI (a b n k : Nat) : Nat := if a ≤ k ∧ k < a + n then k - a + b else if b ≤ k ∧ k < b + n then k - b + a else k
theorem swR_size (d : Array α) (a b n : Nat) : (swR d a b n).size = d.size := by
 induction n with
 | zero => rfl
 | succ n ih => rw [swR, swp_size, ih]
theorem swR_get (d : Array α) (a b : Nat) : ∀ (n k : Nat), a + n ≤ b → b + n ≤ d.size → (swR d a b n)[k]! = d[swI a b n k]!
 | 0, k, _, _ => by
  have : swI a b 0 k = k := by unfold swI; split <;> (try omega); split <;> omega
  rw [this]; rfl
 | n + 1, k, h1, h2 => by
  rw [swR, swp_get _ (by rw [swR_size]; omega) (by rw [swR_size]; omega), swR_get d a b n _ (by omega) (by omega), swR_get d a b n _ (by omega) (by omega), swR_get d a b n _ (by omega) (by omega)]
  split
  ·rename_i hk; congr 1; unfold swI; (repeat' split) <;> omega
  ·split
   ·rename_i hk; congr 1; unfold swI; (repeat' split) <;> omega
   ·congr 1; unfold swI; (repeat' split) <;> omega
theorem swR_perm (d : Array α) (a b lo hi : Nat) (hlo : lo ≤ a) (hs : hi ≤ d.size) : ∀ n, a + n ≤ b → b + n ≤ hi → PermIn lo hi d (swR d a b n)
 | 0, _, _ => permIn_refl _ _ _
 | n + 1, h1, h2 => permIn_trans _ _ _ _ _ (swR_perm d a b lo hi hlo hs n (by omega) (by omega)) (swp_permIn _ _ _ _ _ (by omega) (by omega) (by omega) (by omega) (by rw [swR_size]; exact hs))
/-- Where what stands at a place behind a rotation has stood. -/
def rotI (a m b k : Nat) : Nat := if a ≤ k ∧ k < a + (b - m) then k - a + m else if a + (b - m) ≤ k ∧ k < b then k - (b - m) else k
/-- d' is d with the blocks [a, m) and [m, b) in the other order. -/
def Rot (a m b : Nat) (d d' : Array α) : Prop := d'.size = d.size ∧ ∀ k, d'[k]! = d[rotI a m b k]!
theorem Rot.left {i j m : Nat} {d d' : Array α} (hj : 0 < j) (hij : j < i) (him : i ≤ m) (hs : m + j ≤ d.size) (h : Rot (m - (i - j)) m (m + j) (swR d (m - i) m j) d') : Rot (m - i) m (m + j) d d' := by
 refine ⟨by rw [h.1, swR_size], fun k => ?_⟩
 rw [h.2, swR_get _ _ _ _ _ (by omega) (by omega)]
 congr 1; unfold rotI swI; (repeat' split) <;> omega
theorem Rot.right {i j m : Nat} {d d' : Array α} (hi : 0 < i) (hij : i < j) (him : i ≤ m) (hs : m + j ≤ d.size) (h : Rot (m - i) m (m + (j - i)) (swR d (m - i) (m + j - i) i) d') : Rot (m - i) m (m + j) d d' := by
 refine ⟨by rw [h.1, swR_size], fun k => ?_⟩
 rw [h.2, swR_get _ _ _ _ _ (by omega) (by omega)]
 congr 1; unfold rotI swI; (repeat' split) <;> omega
theorem Rot.same {i m : Nat} {d : Array α} (him : i ≤ m) (hs : m + i ≤ d.size) : Rot (m - i) m (m + i) d (swR d (m - i) m i) := by
 refine ⟨swR_size _ _ _ _, fun k => ?_⟩
 rw [swR_get _ _ _ _ _ (by omega) (by omega)]
 congr 1; unfold rotI swI; (repeat' split) <;> omega
/-- What stands at a goes n places to the right. -/
def shR (d : Array α) (a : Nat) : Nat → Array α
 | 0 => d
 | n + 1 => swp (shR d a n) (a + n) (a + n + 1)
theorem shR_size (d : Array α) (a n : Nat) : (shR d a n).size = d.size := by
 induction n with
 | zero => rfl
 | succ n ih => rw [shR, swp_size, ih]
theorem shR_get (d : Array α) (a : Nat) : ∀ (n k : Nat), a + n < d.size → (shR d a n)[k]! = if a ≤ k ∧ k < a + n then d[k + 1]! else if k = a + n then d[a]! else d[k]!
 | 0, k, _ => by
  rw [if_neg (by omega), shR]
  split
  ·rename_i h; rw [h]; rfl
  ·rfl
 | n + 1, k, h => by
  rw [shR, swp_get _ (by rw [shR_size]; omega) (by rw [shR_size]; omega), shR_get d a n _ (by omega), shR_get d a n _ (by omega), shR_get d a n _ (by omega)]
  rcases Nat.lt_trichotomy k (a + n) with hk | hk | hk
  ·rw [if_neg (by omega), if_neg (by omega)]
   by_cases h2 : a ≤ k
   ·rw [if_pos ⟨h2, hk⟩, if_pos ⟨h2, by omega⟩]
   ·rw [if_neg (by omega), if_neg (by omega), if_neg (by omega), if_neg (by omega)]
  ·subst hk
   rw [if_neg (by omega), if_pos rfl, if_neg (by omega), if_neg (by omega), if_pos ⟨by omega, by omega⟩]
  ·rcases Nat.lt_or_ge (a + n + 1) k with h2 | h2
   ·rw [if_neg (by omega), if_neg (by omega), if_neg (by omega), if_neg (by omega), if_neg (by omega), if_neg (by omega)]
   ·obtain rfl : k = a + n + 1 := by omega
    rw [if_pos rfl, if_neg (by omega), if_pos rfl, if_neg (by omega), if_pos (by omega)]
theorem shR_perm (d : Array α) (a lo hi : Nat) (hlo : lo ≤ a) (hs : hi ≤ d.size) : ∀ n, a + n < hi → PermIn lo hi d (shR d a n)
 | 0, _ => permIn_refl _ _ _
 | n + 1, h => permIn_trans _ _ _ _ _ (shR_perm d a lo hi hlo hs n (by omega)) (swp_permIn _ _ _ _ _ (by omega) (by omega) (by omega) (by omega) (by rw [shR_size]; exact hs))
/-- What stands at m goes n places to the left. -/
def shL (d : Array α) (m : Nat) : Nat → Array α
 | 0 => d
 | n + 1 => swp (shL d m n) (m - n) (m - n - 1)
theorem shL_size (d : Array α) (m n : Nat) : (shL d m n).size = d.size := by
 induction n with
 | zero => rfl
 | succ n ih => rw [shL, swp_size, ih]
theorem shL_get (d : Array α) (m : Nat) : ∀ (n k : Nat), n ≤ m → m < d.size → (shL d m n)[k]! = if m - n < k ∧ k ≤ m then d[k - 1]! else if k = m - n then d[m]! else d[k]!
 | 0, k, _, _ => by
  rw [if_neg (by omega), shL]
  split
  ·rename_i h; rw [h]; rfl
  ·rfl
 | n + 1, k, h, hm => by
  rw [shL, swp_get _ (by rw [shL_size]; omega) (by rw [shL_size]; omega), shL_get d m n _ (by omega) hm, shL_get d m n _ (by omega) hm, shL_get d m n _ (by omega) hm]
  rcases Nat.lt_trichotomy k (m - n) with hk | hk | hk
  ·rcases Nat.lt_or_ge k (m - n - 1) with h2 | h2
   ·rw [if_neg (by omega), if_neg (by omega), if_neg (by omega), if_neg (by omega), if_neg (by omega), if_neg (by omega)]
   ·obtain rfl : k = m - n - 1 := by omega
    rw [if_pos rfl, if_neg (by omega), if_pos rfl, if_neg (by omega), if_pos (by omega)]
  ·subst hk
   rw [if_neg (by omega), if_pos rfl, if_neg (by omega), if_neg (by omega), if_pos ⟨by omega, by omega⟩]
  ·rw [if_neg (by omega), if_neg (by omega)]
   by_cases h2 : k ≤ m
   ·rw [if_pos ⟨hk, h2⟩, if_pos ⟨by omega, h2⟩]
   ·rw [if_neg (by omega), if_neg (by omega), if_neg (by omega), if_neg (by omega)]
theorem shL_perm (d : Array α) (m lo hi : Nat) (hm : m < hi) (hs : hi ≤ d.size) : ∀ n, lo + n ≤ m → PermIn lo hi d (shL d m n)
 | 0, _ => permIn_refl _ _ _
 | n + 1, h => permIn_trans _ _ _ _ _ (shL_perm d m lo hi hm hs n (by omega)) (swp_permIn _ _ _ _ _ (by omega) (by omega) (by omega) (by omega) (by rw [shL_size]; exact hs))
/-! ### Merging -/
variable {lt : α → α → Bool}
theorem sortSub {a b c e : Nat} {d : Array α} (h : SortedIn lt a b d) (h1 : a ≤ c) (h2 : e ≤ b) : SortedIn lt c e d := fun i j hi hij hj => h i j (by omega) hij (by omega)
theorem sortEq {a b : Nat} {d d' : Array α} (h : SortedIn lt a b d) (e : ∀ k, a ≤ k → k < b → d'[k]! = d[k]!) : SortedIn lt a b d' := fun i j hi hij hj => by rw [e i hi (by omega), e j (by omega) hj]; exact h i j hi hij hj
theorem sorted_one {a b : Nat} {d : Array α} (h : b ≤ a + 1) : SortedIn lt a b d := fun i j _ _ _ => by omega
/-- What is not less than something is not less than what stands ahead of that. -/
theorem lt_down (hS : SWO lt) {x y z : α} (h1 : lt y x = false) (h2 : lt y z = true) : lt x z = true := by
 cases h : lt x z with
 | true => rfl
 | false => rw [hS.ntrans _ _ _ h1 h] at h2; cases h2
theorem lt_up (hS : SWO lt) {x y z : α} (h1 : lt y x = false) (h2 : lt z x = true) : lt z y = true := by
 cases h : lt z y with
 | true => rfl
 | false => rw [hS.ntrans _ _ _ h h1] at h2; cases h2
/-- One element, [a], is brought in among [a + 1, b): it goes to i - 1. -/
theorem merge_one (hS : SWO lt) {a i b : Nat} {d d' : Array α} (ha : a + 1 ≤ i) (hib : i ≤ b) (hs : SortedIn lt (a + 1) b d)
  (hl : ∀ c, a + 1 ≤ c → c < i → lt d[c]! d[a]! = true) (hr : ∀ c, i ≤ c → c < b → lt d[c]! d[a]! = false)
  (h1 : ∀ k, a ≤ k → k < i - 1 → d'[k]! = d[k + 1]!) (h2 : d'[i - 1]! = d[a]!) (h3 : ∀ k, i ≤ k → k < b → d'[k]! = d[k]!) : SortedIn lt a b d' := fun p q hp hpq hq => by
 rcases Nat.lt_trichotomy q (i - 1) with hqi | hqi | hqi
 ·rw [h1 p hp (by omega), h1 q (by omega) hqi]; exact hs _ _ (by omega) (by omega) (by omega)
 ·subst hqi; rw [h2, h1 p hp hpq]; exact hS.asymmA (hl _ (by omega) (by omega))
 ·rw [h3 q (by omega) hq]
  rcases Nat.lt_trichotomy p (i - 1) with hpi | hpi | hpi
  ·rw [h1 p hp hpi]; exact hs _ _ (by omega) (by omega) hq
  ·subst hpi; rw [h2]; exact hr q (by omega) hq
  ·rw [h3 p (by omega) (by omega)]; exact hs _ _ (by omega) hpq hq
/-- One element, [m], is brought in among [a, m): it goes to i. -/
theorem merge_last (hS : SWO lt) {a i m : Nat} {d d' : Array α} (ha : a ≤ i) (him : i ≤ m) (hs : SortedIn lt a m d)
  (hl : ∀ c, a ≤ c → c < i → lt d[m]! d[c]! = false) (hr : ∀ c, i ≤ c → c < m → lt d[m]! d[c]! = true)
  (h1 : ∀ k, i < k → k ≤ m → d'[k]! = d[k - 1]!) (h2 : d'[i]! = d[m]!) (h3 : ∀ k, a ≤ k → k < i → d'[k]! = d[k]!) : SortedIn lt a (m + 1) d' := fun p q hp hpq hq => by
 rcases Nat.lt_trichotomy q i with hqi | hqi | hqi
 ·rw [h3 p hp (by omega), h3 q (by omega) hqi]; exact hs _ _ hp hpq (by omega)
 ·subst hqi; rw [h2, h3 p hp hpq]; exact hl p hp hpq
 ·rw [h1 q hqi (by omega)]
  rcases Nat.lt_trichotomy p i with hpi | hpi | hpi
  ·rw [h3 p hp hpi]; exact hs _ _ hp (by omega) (by omega)
  ·subst hpi; rw [h2]; exact hS.asymmA (hr _ (by omega) (by omega))
  ·rw [h1 p hpi (by omega)]; exact hs _ _ (by omega) (by omega) (by omega)
theorem permTr {d d' d'' : Array α} {a b : Nat} (h : PermIn a b d d') (k : PermIn a b d' d'') : PermIn a b d d'' := permIn_trans _ _ _ _ _ h k
theorem permMono {d d' : Array α} {a b a' b' : Nat} (h : PermIn a b d d') (ha : a' ≤ a) (hb : b ≤ b') (hs : b' ≤ d.size) : PermIn a' b' d d' := permIn_mono _ _ _ _ _ _ ha hb hs h
/-- The two halves of a merge: what is left of the middle against what is right of it, behind the rotation. -/
theorem merge_parts (hS : SWO lt) {a m b mid st : Nat} {d d1 : Array α} (ham : a < m) (hmb : m < b) (hbs : b ≤ d.size) (hmid : mid = (a + b) / 2)
  (hL : SortedIn lt a m d) (hR : SortedIn lt m b d) (h0 : (if m > mid then mid + m - b else a) ≤ st) (h1 : st ≤ (if m > mid then mid else m))
  (hl : ∀ c, (if m > mid then mid + m - b else a) ≤ c → c < st → lt d[mid + m - 1 - c]! d[c]! = false) (hr : ∀ c, st ≤ c → c < (if m > mid then mid else m) → lt d[mid + m - 1 - c]! d[c]! = true)
  (hrot : Rot st m (mid + m - st) d d1) :
  SortedIn lt a st d1 ∧ SortedIn lt st mid d1 ∧ SortedIn lt mid (mid + m - st) d1 ∧ SortedIn lt (mid + m - st) b d1 ∧ ∀ p q, a ≤ p → p < mid → mid ≤ q → q < b → lt d1[q]! d1[p]! = false := by
 have e : ∀ k, d1[k]! = d[rotI st m (mid + m - st) k]! := hrot.2
 have hst : st ≤ m ∧ st ≤ mid ∧ a ≤ st := by split at h0 <;> split at h1 <;> omega
 have hend : m ≤ mid + m - st ∧ mid + m - st ≤ b := by split at h0 <;> split at h1 <;> omega
 have r1 : ∀ k, k < st → rotI st m (mid + m - st) k = k := fun k hk => by unfold rotI; (repeat' split) <;> omega
 have r2 : ∀ k, st ≤ k → k < mid → rotI st m (mid + m - st) k = k - st + m := fun k h1 h2 => by unfold rotI; (repeat' split) <;> omega
 have r3 : ∀ k, mid ≤ k → k < mid + m - st → rotI st m (mid + m - st) k = k - mid + st := fun k h1 h2 => by unfold rotI; (repeat' split) <;> omega
 have r4 : ∀ k, mid + m - st ≤ k → rotI st m (mid + m - st) k = k := fun k h1 => by unfold rotI; (repeat' split) <;> omega
 -- what is known at the border
 have b1 : a < st → mid + m - st < b → lt d[mid + m - st]! d[st - 1]! = false := fun h2 h3 => by
  have := hl (st - 1) (by split <;> rename_i hm <;> (first | rw [if_pos hm] at h0 | rw [if_neg hm] at h0) <;> omega) (by omega)
  rwa [show mid + m - 1 - (st - 1) = mid + m - st by omega] at this
 have b2 : st < m → st < mid → lt d[mid + m - 1 - st]! d[st]! = true := fun h2 h3 => hr st (Nat.le_refl _) (by split <;> omega)
 refine ⟨?_, ?_, ?_, ?_, ?_⟩
 ·intro i j hi hij hj; rw [e, e, r1 i (by omega), r1 j (by omega)]; exact hL i j hi hij (by omega)
 ·intro i j hi hij hj; rw [e, e, r2 i hi (by omega), r2 j (by omega) hj]; exact hR _ _ (by omega) (by omega) (by omega)
 ·intro i j hi hij hj; rw [e, e, r3 i hi (by omega), r3 j (by omega) hj]; exact hL _ _ (by omega) (by omega) (by omega)
 ·intro i j hi hij hj; rw [e, e, r4 i hi, r4 j (by omega)]; exact hR _ _ (by omega) hij hj
 ·intro p q hp hpm hq hqb
  rw [e, e]
  have le_ : ∀ i j, a ≤ i → i ≤ j → j < m → lt d[j]! d[i]! = false := fun i j h1 h2 h3 => by
   rcases Nat.lt_or_ge i j with h | h
   ·exact hL i j h1 h h3
   ·obtain rfl : i = j := by omega
    exact hS.irrefl _
  have re_ : ∀ i j, m ≤ i → i ≤ j → j < b → lt d[j]! d[i]! = false := fun i j h1 h2 h3 => by
   rcases Nat.lt_or_ge i j with h | h
   ·exact hR i j h1 h h3
   ·obtain rfl : i = j := by omega
    exact hS.irrefl _
  rcases Nat.lt_or_ge p st with hps | hps
  ·rw [r1 p hps]
   rcases Nat.lt_or_ge q (mid + m - st) with hqe | hqe
   ·rw [r3 q hq hqe]; exact le_ _ _ hp (by omega) (by omega)
   ·rw [r4 q hqe]
    have h5 := b1 (by omega) (by omega)
    exact hS.ntrans _ _ _ (re_ (mid + m - st) q (by omega) hqe hqb) (hS.ntrans _ _ _ h5 (le_ p (st - 1) hp (by omega) (by omega)))
  ·rw [r2 p hps hpm]
   rcases Nat.lt_or_ge q (mid + m - st) with hqe | hqe
   ·rw [r3 q hq hqe]
    have h5 := hS.asymmA (b2 (by omega) (by omega))
    exact hS.ntrans _ _ _ (le_ st _ (by omega) (by omega) (by omega)) (hS.ntrans _ _ _ h5 (re_ _ (mid + m - 1 - st) (by omega) (by omega) (by omega)))
   ·rw [r4 q hqe]; exact re_ _ _ (by omega) (by omega) hqb
theorem Rot.triv {a m b : Nat} {d : Array α} (h : a = m ∨ m = b) (hab : a ≤ m) (hmb : m ≤ b) : Rot a m b d d := ⟨rfl, fun k => by congr 1; unfold rotI; (repeat' split) <;> omega⟩
theorem arr_get {d : Array α} {i : Nat} (h : i < d.size) : d.toList[i]? = some d[i]! := by
 rw [Array.getElem?_toList, Array.getElem?_eq_getElem h, getElem!_pos d i h]
theorem swp_toList (d : Array α) (i j : Nat) : (swp d i j).toList = (d.toList.set i d[j]!).set j d[i]! := by simp [swp]
/-- Sorted halves, of which the left one is not above the right one. -/
theorem merge_join {a mid b : Nat} {d : Array α} (h1 : SortedIn lt a mid d) (h2 : SortedIn lt mid b d) (h3 : ∀ p q, a ≤ p → p < mid → mid ≤ q → q < b → lt d[q]! d[p]! = false) : SortedIn lt a b d := fun p q hp hpq hq => by
 rcases Nat.lt_or_ge q mid with h | h
 ·exact h1 p q hp hpq h
 ·rcases Nat.lt_or_ge p mid with h' | h'
  ·exact h3 p q hp h' h hq
  ·exact h2 p q h' hpq hq
/-- What holds between two stretches still holds when each is brought into another order. -/
theorem between_perm {a mid b : Nat} {d d' : Array α} (hs : b ≤ d.size) (hm : mid ≤ b) (h : ∀ p q, a ≤ p → p < mid → mid ≤ q → q < b → lt d[q]! d[p]! = false)
  (hp : PermIn a mid d d') : ∀ p q, a ≤ p → p < mid → mid ≤ q → q < b → lt d'[q]! d'[p]! = false := fun p q h1 h2 h3 h4 => by
 rw [hp.2.1 q (.inr h3)]
 exact permIn_all d d' a mid (fun x => lt d[q]! x = false) (by omega) hp (fun i hi hi' => h i q hi hi' h3 h4) p h1 h2
theorem between_perm' {a mid b : Nat} {d d' : Array α} (hs : b ≤ d.size) (h : ∀ p q, a ≤ p → p < mid → mid ≤ q → q < b → lt d[q]! d[p]! = false)
  (hp : PermIn mid b d d') : ∀ p q, a ≤ p → p < mid → mid ≤ q → q < b → lt d'[q]! d'[p]! = false := fun p q h1 h2 h3 h4 => by
 rw [hp.2.1 p (.inl h2)]
 exact permIn_all d d' mid b (fun x => lt x d[p]! = false) hs hp (fun i hi hi' => h p i h1 h2 hi hi') q h3 h4
end
end Go.Proofs.YtcngmkjdpoiiaaaGreatDoor

/- Plain: who sits in a council. -/
namespace Go.Proofs.YtcngmkjdpoiiaaaGreatDoor
open Go Go.RowKit Go.Sort
instance : Rec Mem := ⟨Mem.cells, 3, fun _ => rfl, Mem.cells_one⟩
instance : Inhabited Mem := ⟨⟨0, 0, 0⟩⟩
/-- May an account sit? -/
def sits (mb : Int) (x : Acc) : Bool := !x.jail && (decide (mb ≤ x.bond) && decide (1 ≤ x.bond))
def memA (x : Acc) : Mem := ⟨x.a, x.bond, 0⟩
/-- All who may sit. -/
def candM (mb : Int) (l : List Acc) : List Mem := (l.filter (sits mb)).map memA
/-- Who comes first: more power, then the lesser address. -/
def bt (x y : Mem) : Bool := decide (y.p < x.p) || (decide (x.p = y.p) && decide (x.a < y.a))
theorem bt_iff {x y : Mem} : bt x y = true ↔ y.p < x.p ∨ (x.p = y.p ∧ x.a < y.a) := by
 unfold bt; rw [Bool.or_eq_true, Bool.and_eq_true, decide_eq_true_eq, decide_eq_true_eq, decide_eq_true_eq]
theorem bt_asymm {x y : Mem} (h : bt x y = true) : ¬ bt y x = true := by rw [bt_iff] at h ⊢; omega
theorem bt_no {x y : Mem} : bt x y = false ↔ ¬ (y.p < x.p ∨ (x.p = y.p ∧ x.a < y.a)) := by rw [← bt_iff, Bool.not_eq_true]
theorem bt_total {x y : Mem} (h : bt y x = false) (ha : x.a ≠ y.a) : bt x y = true := by rw [bt_iff]; rw [bt_no] at h; omega
theorem swo_bt : SWO bt where
 irrefl x := by rw [bt_no]; omega
 trans x y z h1 h2 := by rw [bt_iff] at h1 h2 ⊢; omega
 ntrans x y z h1 h2 := by rw [bt_no] at h1 h2 ⊢; omega
def ltA (x y : Mem) : Bool := decide (x.a < y.a)
theorem swo_ltA : SWO ltA where
 irrefl x := by unfold ltA; rw [decide_eq_false_iff_not]; omega
 trans x y z h1 h2 := by unfold ltA at *; rw [decide_eq_true_eq] at *; omega
 ntrans x y z h1 h2 := by unfold ltA at *; rw [decide_eq_false_iff_not] at *; omega
def mostN (seats : Int) (n : Nat) : Nat := min (min seats.toNat 64) n
/-- R are those who sit. -/
structure SeatsOf (mb seats : Int) (l : List Acc) (R : List Mem) : Prop where
 up : R.Pairwise fun x y => x.a < y.a
 mem : ∀ x ∈ R, x ∈ candM mb l
 len : R.length = mostN seats (candM mb l).length
 best : ∀ x ∈ R, ∀ y ∈ candM mb l, y ∉ R → bt x y = true
theorem nodup_up {R : List Mem} (h : R.Pairwise fun x y => x.a < y.a) : R.Nodup := h.imp fun {x y} h e => by subst e; omega
theorem SeatsOf.sub {mb seats : Int} {l : List Acc} {R R' : List Mem} (h : SeatsOf mb seats l R) (h' : SeatsOf mb seats l R') : ∀ x ∈ R, x ∈ R' := fun x hx => by
 refine Classical.byContradiction fun hn => ?_
 have : ¬ R' ⊆ R := fun hs => by
  have hnd : (x :: R').Nodup := List.nodup_cons.2 ⟨hn, nodup_up h'.up⟩
  have := hnd.length_le_of_subset (l₂ := R) fun y hy => by
   rcases List.mem_cons.1 hy with rfl | hy
   ·exact hx
   ·exact hs hy
  rw [List.length_cons, h.len, h'.len] at this
  omega
 have : ∃ y, y ∈ R' ∧ y ∉ R := Classical.byContradiction fun hh => this fun y hy => Classical.byContradiction fun hq => hh ⟨y, hy, hq⟩
 obtain ⟨y, hy, hy'⟩ := this
 exact bt_asymm (h.best x hx y (h'.mem y hy) hy') (h'.best y hy x (h.mem x hx) hn)
/-- There is but one such list. -/
theorem SeatsOf.uniq {mb seats : Int} {l : List Acc} {R R' : List Mem} (h : SeatsOf mb seats l R) (h' : SeatsOf mb seats l R') : R = R' :=
 List.Perm.eq_of_pairwise (le := fun x y : Mem => x.a < y.a) (fun a b _ _ h1 h2 => by omega) h.up h'.up ((List.perm_ext_iff_of_nodup (nodup_up h.up) (nodup_up h'.up)).2 fun x => ⟨h.sub h' x, h'.sub h x⟩)
theorem cand_up {mb : Int} {l : List Acc} (h : AccFine l) : (candM mb l).Pairwise fun x y => x.a < y.a := by
 unfold candM
 rw [List.pairwise_map]
 refine List.Pairwise.filter _ ?_
 rw [List.pairwise_iff_getElem]
 intro i j hi hj hij
 have := h.mono i j hij hj
 rw [accAt_of (List.getElem?_eq_getElem hi), accAt_of (List.getElem?_eq_getElem hj)] at this
 exact this
/-- What two sorts and a cut leave. -/
theorem seats_of {mb seats : Int} {l : List Acc} {S R : List Mem} (hf : AccFine l) (hp : S.Perm (candM mb l)) (hs : ∀ (i j : Nat) (hij : i < j) (hj : j < S.length), bt S[j] (S[i]'(by omega)) = false)
  (hr : R.Perm (S.take (mostN seats S.length))) (hq : ∀ (i j : Nat) (hij : i < j) (hj : j < R.length), ltA R[j] (R[i]'(by omega)) = false) : SeatsOf mb seats l R := by
 have hcn : ((candM mb l).map Mem.a).Nodup := by
  have := cand_up (mb := mb) hf
  rw [List.nodup_iff_pairwise_ne, List.pairwise_map]
  exact this.imp fun {x y} h => by omega
 have hsn : (S.map Mem.a).Nodup := (hp.map Mem.a).symm.nodup hcn
 have hsne : ∀ (i j : Nat) (hij : i < j) (hj : j < S.length), (S[i]'(by omega)).a ≠ S[j].a := fun i j hij hj => by
  rw [List.nodup_iff_pairwise_ne, List.pairwise_map, List.pairwise_iff_getElem] at hsn
  exact hsn i j (by omega) hj hij
 have hsp : S.Pairwise fun x y => bt x y = true := by
  rw [List.pairwise_iff_getElem]
  exact fun i j hi hj hij => bt_total (hs i j hij hj) (hsne i j hij hj)
 have htn : ((S.take (mostN seats S.length)).map Mem.a).Nodup := by
  rw [List.map_take]; exact List.Pairwise.sublist (List.take_sublist _ _) hsn
 have hrn : (R.map Mem.a).Nodup := (hr.map Mem.a).symm.nodup htn
 have hup : R.Pairwise fun x y => x.a < y.a := by
  rw [List.nodup_iff_pairwise_ne, List.pairwise_map, List.pairwise_iff_getElem] at hrn
  rw [List.pairwise_iff_getElem]
  intro i j hi hj hij
  have h1 := hq i j hij hj
  have h2 := hrn i j hi hj hij
  unfold ltA at h1
  rw [decide_eq_false_iff_not] at h1
  omega
 refine ⟨hup, fun x hx => hp.subset (List.mem_of_mem_take (hr.subset hx)), ?_, fun x hx y hy hn => ?_⟩
 ·rw [hr.length_eq, List.length_take, hp.length_eq]; unfold mostN; omega
 ·have hyS := hp.symm.subset hy
  rw [← List.take_append_drop (mostN seats S.length) S] at hyS hsp
  have hyd : y ∈ S.drop (mostN seats S.length) := by
   rcases List.mem_append.1 hyS with h | h
   ·exact absurd (hr.symm.subset h) hn
   ·exact h
  exact (List.pairwise_append.1 hsp).2.2 x (hr.subset hx) y hyd
/-! ### The document's choice -/
end Go.Proofs.YtcngmkjdpoiiaaaGreatDoor

/- Plain: turns of a council. -/
namespace Go.Proofs.YtcngmkjdpoiiaaaGreatDoor
open Go Go.RowKit
def cmpI (x y : Int) : Int := if x < y then -1 else if y < x then 1 else 0
def orI (x y : Int) : Int := if x ≠ 0 then x else y
end Go.Proofs.YtcngmkjdpoiiaaaGreatDoor

/- Plain: dividing two words by a small number; rules for functions that the model stands in for. -/
namespace Go.Proofs.YtcngmkjdpoiiaaaGreatDoor
open Go Go.RowKit
section
variable {C : Cx} {F : Fx} {l : Env} {o : Oper}
/-- A call that runs here and now. -/
theorem P_indexStr {t : Nat} {x ix : Operand} {k : IntKind} {m : Int} {s : ByteArray} {b : UInt8} (ho : o.op = .index t x ix) (ht : C.P.underlying t = some .string) (hx : ev l x = some (.string s)) (hi : ev l ix = some (.int k m)) (h0 : 0 ≤ m) (hv : s[m.toNat]? = some b) : OpP C F l o (.int .u8 (b.toNat : Int)) := fun a w r => by
 simp [execOp, ho, r.ev hx, r.ev hi, Instr.index, asIntOf, run_underlying ht, h0, hv]
end
/-! ### Lengths -/
def lenI (n : Nat) : Nat := if n < 1 then 0 else if n < 2 then 1 else if n < 4 then 2 else if n < 8 then 3 else if n < 16 then 4 else if n < 32 then 5 else if n < 64 then 6 else 7
def tabB (s : ByteArray) : Bool := (List.range 65).all fun i => s[i]? == some (UInt8.ofNat (lenI i))
theorem tab_at {s : ByteArray} (h : tabB s = true) {m : Int} (h0 : 0 ≤ m) (h1 : m ≤ 64) : s[m.toNat]? = some (UInt8.ofNat (lenI m.toNat)) := by
 have := List.all_eq_true.1 h m.toNat (by simp; omega)
 simpa using this
/-! ### Dividing -/
theorem wrap_e (x : Int) : IntKind.u64.wrap x = x % 18446744073709551616 := by unfold IntKind.wrap; simp [IntKind.signed, IntKind.bits]
theorem u64_fit {x : Int} (h0 : 0 ≤ x) (h1 : x < 18446744073709551616) : IntKind.u64.wrap x = x := by rw [wrap_e]; omega
theorem shl_s {s : Nat} {p x : Int} (hs : s ≤ 63) (pw : (2 : Int) ^ s = p * 4294967296) : shlI .u64 x (s : Int) = IntKind.u64.wrap (x * (p * 4294967296)) := by
 unfold shlI
 rw [Int.toNat_natCast, Nat.min_eq_left (by show s ≤ 64; omega), pw]
theorem shr_s {s : Nat} {p x : Int} (hs : s ≤ 63) (pw : (2 : Int) ^ s = p * 4294967296) (hx : 0 ≤ x) : shrI .u64 x (s : Int) = x / (p * 4294967296) := by
 unfold shrI
 rw [Int.toNat_natCast, Nat.min_eq_left (by show s ≤ 64; omega), pw, Int.fdiv_eq_ediv_of_nonneg _ (by rw [← pw]; exact Int.pow_nonneg (by decide))]
theorem shr_32 (x : Int) : shrI .u64 x 32 = x / 4294967296 := by
 unfold shrI
 show x.fdiv (2 ^ 32) = _
 rw [Int.fdiv_eq_ediv_of_nonneg _ (by decide)]; rfl
theorem and_mask {x : Int} (h0 : 0 ≤ x) (h1 : x < 18446744073709551616) : bitI .and .u64 x 4294967295 = x % 4294967296 := by
 obtain ⟨k, rfl⟩ : ∃ k : Nat, x = k := ⟨x.toNat, by omega⟩
 show IntKind.u64.wrap (BitVec.ofInt 64 _ &&& BitVec.ofInt 64 _).toNat = _
 rw [BitVec.ofInt_natCast]
 have e : BitVec.ofInt 64 (4294967295 : Int) = BitVec.ofNat 64 4294967295 := by decide
 rw [e, BitVec.toNat_and, BitVec.toNat_ofNat, BitVec.toNat_ofNat, Nat.mod_eq_of_lt (show k < 2 ^ 64 by omega), Nat.mod_eq_of_lt (show 4294967295 < 2 ^ 64 by decide)]
 have e2 : k &&& 4294967295 = k % 4294967296 := Nat.and_two_pow_sub_one_eq_mod k 32
 rw [e2, u64_fit (by omega) (by omega)]; omega
theorem or_sum {s : Nat} {p hi y : Int} (hs : s ≤ 63) (pw : (2 : Int) ^ s = p * 4294967296) (h0 : 0 ≤ hi) (a1 : hi * (p * 4294967296) < 18446744073709551616) (y0 : 0 ≤ y) (y1 : y < p * 4294967296) (hs2 : hi * (p * 4294967296) + y < 18446744073709551616) : bitI .or .u64 (hi * (p * 4294967296)) y = hi * (p * 4294967296) + y := by
 obtain ⟨a, rfl⟩ : ∃ k : Nat, hi = k := ⟨hi.toNat, by omega⟩
 obtain ⟨b, rfl⟩ : ∃ k : Nat, y = k := ⟨y.toNat, by omega⟩
 rw [← pw] at *
 have e1 : (a : Int) * 2 ^ s = ((2 ^ s * a : Nat) : Int) := by push_cast; rw [Int.mul_comm]
 rw [e1] at a1 hs2 ⊢
 have hb : b < 2 ^ s := by exact_mod_cast y1
 have hor : 2 ^ s * a ||| b = 2 ^ s * a + b := (Nat.two_pow_add_eq_or_of_lt hb a).symm
 clear e1 y1
 generalize 2 ^ s * a = X at *
 show IntKind.u64.wrap (BitVec.ofInt 64 _ ||| BitVec.ofInt 64 _).toNat = _
 rw [BitVec.ofInt_natCast, BitVec.ofInt_natCast, BitVec.toNat_or, BitVec.toNat_ofNat, BitVec.toNat_ofNat, Nat.mod_eq_of_lt (show X < 2 ^ 64 by omega), Nat.mod_eq_of_lt (show b < 2 ^ 64 by omega), hor]
 rw [u64_fit (by omega) (by omega)]; omega
theorem shl_lo {s : Nat} {p q lo : Int} (hs : s ≤ 63) (pw : (2 : Int) ^ s = p * 4294967296) (p0 : 0 < p) (q0 : 0 < q) (pq : p * q = 4294967296) : shlI .u64 lo (s : Int) = lo % q * p * 4294967296 := by
 rw [shl_s hs pw, wrap_e]
 have e1 := Int.mul_ediv_add_emod lo q
 have m0 := Int.emod_nonneg lo (show q ≠ 0 by omega)
 have m1 := Int.emod_lt_of_pos lo q0
 have b0 : 0 ≤ lo % q * p := Int.mul_nonneg m0 (by omega)
 have b1 : lo % q * p ≤ (q - 1) * p := Int.mul_le_mul_of_nonneg_right (by omega) (by omega)
 have b2 : (q - 1) * p = p * q - p := by rw [Int.sub_mul, Int.mul_comm q]; omega
 have e2 : lo * (p * 4294967296) = lo / q * 18446744073709551616 + lo % q * p * 4294967296 := by
  have c1 : lo * p = q * (lo / q) * p + lo % q * p := by rw [← Int.add_mul, e1]
  have c2 : q * (lo / q) * p = lo / q * 4294967296 := by rw [← pq, Int.mul_comm q, Int.mul_assoc, Int.mul_comm q p]
  rw [← Int.mul_assoc, c1, c2]; omega
 rw [e2]; omega
theorem sub_w {a b c x : Int} (h : a + b - c = x) (h0 : 0 ≤ x) (h1 : x < 18446744073709551616) : IntKind.u64.wrap (IntKind.u64.wrap (IntKind.u64.wrap a + b) - IntKind.u64.wrap c) = x := by
 rw [wrap_e, wrap_e, wrap_e, wrap_e]; omega
/-! ### A sum in two words -/
end Go.Proofs.YtcngmkjdpoiiaaaGreatDoor

/- Walks: sums of two words, comparisons. Printed by gen.py. -/
set_option maxRecDepth 100000
namespace Go.Proofs.YtcngmkjdpoiiaaaGreatDoor
open Go Go.RowKit Go.Proofs
theorem cmpu_nan {gl : Nat → Obj} (x : Int) : SpecV (cx gl) 168 [.int .u64 x] noPre (.bool false) := by
 refine Spec.enter (C := cx gl) Tryz.func168 rfl 6 rfl rfl fun w0 h0 hsep hsub hpre => ?_
 obtain rfl : h0 = Heap.none := hsep
 show St (cx gl) _ [(0, .int .u64 x)] _ _
 refine rT (lA (k:=?_))
 refine L_nil (qT (rT (lM (k:=lM (k:=lP pNe (k:=?_))))))
 refine E_as (t := 5) (v' := .bool false) rfl (by rw [decide_eq_false (fun h => h rfl)]) (lA (k:=?_))
 refine lQ (cE 2 rfl .nil) (R_ret ?_)
 exact R_endV rfl rfl (.tmp rfl .nil) (rfl)
theorem cmpu_ok {gl : Nat → Obj} (x y : Int) : SpecV (cx gl) 94 [.int .u64 x, .int .u64 y] noPre (.int .i64 (cmpI x y)) := by
 refine Spec.enter (C := cx gl) Tryz.func94 rfl 20 rfl rfl fun w0 h0 hsep hsub hpre => ?_
 obtain rfl : h0 = Heap.none := hsep
 show St (cx gl) _ [(0, .int .u64 x), (1, .int .u64 y)] _ _
 refine rT (lA (k:=?_))
 refine L_nil (qT (rT (lM (k:=?_))))
 refine lO (W_callV rfl rfl rfl rfl fn_ca_168 (cmpu_nan x) (fun _ _ => trivial) (lA (k:=?_)))
 refine E_false (t := 5) rfl (rfl) ?_
 refine lQ (cE 0 rfl (cE 1 rfl (cE 4 rfl (cE 5 rfl .nil)))) (rT (lM (k:=?_)))
 refine lO (W_callV rfl rfl rfl rfl fn_ca_168 (cmpu_nan y) (fun _ _ => trivial) (lA (k:=?_)))
 refine E_false (t := 6) rfl (rfl) ?_
 refine lQ (cE 0 rfl (cE 1 rfl (cE 4 rfl (cE 5 rfl (cE 6 rfl .nil))))) (rS (rT (lM (k:=?_))))
 refine E_false (t := 11) rfl (rfl) ?_
 refine lQ (cE 0 rfl (cE 1 rfl (cE 4 rfl (cE 6 rfl (cE 11 rfl .nil))))) (kF (k:=R_skip (qT (rS (rT (lM (k:=?_)))))))
 refine E_false (t := 13) rfl (rfl) ?_
 refine lQ (cE 0 rfl (cE 1 rfl (cE 4 rfl (cE 13 rfl .nil)))) (kF (k:=R_skip (qT (rS (rT (lM (k:=lM (k:=lP pLt (k:=?_)))))))))
 refine lQ (cE 0 rfl (cE 1 rfl (cE 4 rfl (cE 16 rfl .nil)))) ?_
 refine R_condP rfl (fun h1 => ?_) (fun h1 => ?_)
 ·skip
  refine rT (lA (k:=?_))
  refine lQ (cE 0 rfl (cE 1 rfl (cE 4 rfl .nil))) (R_ret (Q_then_ret ?_))
  exact R_endV rfl rfl (.tmp rfl .nil) (by unfold cmpI; rw [if_pos h1]; rfl)
 ·skip
  refine R_skip (qT (rS (rT (lM (k:=lM (k:=lP pGt (k:=?_)))))))
  refine lQ (cE 4 rfl (cE 19 rfl .nil)) ?_
  refine R_condP rfl (fun h2 => ?_) (fun h2 => ?_)
  ·skip
   refine rT (lA (k:=?_))
   refine lQ (cE 4 rfl .nil) (R_ret (Q_then_ret ?_))
   exact R_endV rfl rfl (.tmp rfl .nil) (by unfold cmpI; rw [if_neg h1, if_pos h2]; rfl)
  ·skip
   refine R_skip (qT (rT (lA (k:=?_))))
   refine lQ (cE 4 rfl .nil) (R_ret ?_)
   exact R_endV rfl rfl (.tmp rfl .nil) (by unfold cmpI; rw [if_neg h1, if_neg h2]; rfl)
theorem cmpa_nan {gl : Nat → Obj} (x : Int) : SpecV (cx gl) 169 [.int .u64 x] noPre (.bool false) := by
 refine Spec.enter (C := cx gl) Tryz.func169 rfl 6 rfl rfl fun w0 h0 hsep hsub hpre => ?_
 obtain rfl : h0 = Heap.none := hsep
 show St (cx gl) _ [(0, .int .u64 x)] _ _
 refine rT (lA (k:=?_))
 refine L_nil (qT (rT (lM (k:=lM (k:=lP pNe (k:=?_))))))
 refine E_as (t := 5) (v' := .bool false) rfl (by rw [decide_eq_false (fun h => h rfl)]) (lA (k:=?_))
 refine lQ (cE 2 rfl .nil) (R_ret ?_)
 exact R_endV rfl rfl (.tmp rfl .nil) (rfl)
theorem cmpa_ok {gl : Nat → Obj} (x y : Int) : SpecV (cx gl) 95 [.int .u64 x, .int .u64 y] noPre (.int .i64 (cmpI x y)) := by
 refine Spec.enter (C := cx gl) Tryz.func95 rfl 20 rfl rfl fun w0 h0 hsep hsub hpre => ?_
 obtain rfl : h0 = Heap.none := hsep
 show St (cx gl) _ [(0, .int .u64 x), (1, .int .u64 y)] _ _
 refine rT (lA (k:=?_))
 refine L_nil (qT (rT (lM (k:=?_))))
 refine lO (W_callV rfl rfl rfl rfl fn_ca_169 (cmpa_nan x) (fun _ _ => trivial) (lA (k:=?_)))
 refine E_false (t := 5) rfl (rfl) ?_
 refine lQ (cE 0 rfl (cE 1 rfl (cE 4 rfl (cE 5 rfl .nil)))) (rT (lM (k:=?_)))
 refine lO (W_callV rfl rfl rfl rfl fn_ca_169 (cmpa_nan y) (fun _ _ => trivial) (lA (k:=?_)))
 refine E_false (t := 6) rfl (rfl) ?_
 refine lQ (cE 0 rfl (cE 1 rfl (cE 4 rfl (cE 5 rfl (cE 6 rfl .nil))))) (rS (rT (lM (k:=?_))))
 refine E_false (t := 11) rfl (rfl) ?_
 refine lQ (cE 0 rfl (cE 1 rfl (cE 4 rfl (cE 6 rfl (cE 11 rfl .nil))))) (kF (k:=R_skip (qT (rS (rT (lM (k:=?_)))))))
 refine E_false (t := 13) rfl (rfl) ?_
 refine lQ (cE 0 rfl (cE 1 rfl (cE 4 rfl (cE 13 rfl .nil)))) (kF (k:=R_skip (qT (rS (rT (lM (k:=lM (k:=lP pLt (k:=?_)))))))))
 refine lQ (cE 0 rfl (cE 1 rfl (cE 4 rfl (cE 16 rfl .nil)))) ?_
 refine R_condP rfl (fun h1 => ?_) (fun h1 => ?_)
 ·skip
  refine rT (lA (k:=?_))
  refine lQ (cE 0 rfl (cE 1 rfl (cE 4 rfl .nil))) (R_ret (Q_then_ret ?_))
  exact R_endV rfl rfl (.tmp rfl .nil) (by unfold cmpI; rw [if_pos h1]; rfl)
 ·skip
  refine R_skip (qT (rS (rT (lM (k:=lM (k:=lP pGt (k:=?_)))))))
  refine lQ (cE 4 rfl (cE 19 rfl .nil)) ?_
  refine R_condP rfl (fun h2 => ?_) (fun h2 => ?_)
  ·skip
   refine rT (lA (k:=?_))
   refine lQ (cE 4 rfl .nil) (R_ret (Q_then_ret ?_))
   exact R_endV rfl rfl (.tmp rfl .nil) (by unfold cmpI; rw [if_neg h1, if_pos h2]; rfl)
  ·skip
   refine R_skip (qT (rT (lA (k:=?_))))
   refine lQ (cE 4 rfl .nil) (R_ret ?_)
   exact R_endV rfl rfl (.tmp rfl .nil) (by unfold cmpI; rw [if_neg h1, if_neg h2]; rfl)
def orL : List Int → Int
 | [] => 0
 | x :: l => if x ≠ 0 then x else orL l
theorem orL_drop {l : List Int} {i : Nat} {x : Int} (h : l[i]? = some x) : orL (l.drop i) = if x ≠ 0 then x else orL (l.drop (i + 1)) := by rw [drop_at h]; rfl
theorem or_ok {gl : Nat → Obj} (b c : Nat) (l : List Int) (hl : l.length ≤ c) (hm : l.length ≤ 1000) : SpecV (cx gl) 93 [.slice (some ⟨b, 0, none⟩) l.length c] (fun w => RowAt w ⟨b, 0, none⟩ (ints .i64 l)) (.int .i64 (orL l)) := by
 refine Spec.enter (C := cx gl) Tryz.func93 rfl 18 rfl rfl fun w0 h0 hsep hsub hpre => ?_
 obtain rfl : h0 = Heap.none := hsep
 show St (cx gl) _ [(0, .slice (some ⟨b, 0, none⟩) l.length c)] _ _
 refine rT (lA (k:=?_))
 refine L_nil (qT (rT (lA (k:=?_))))
 refine L_nil (qT (rS (rT (lM (k:=lP (pL ty_sl_200) (k:=lM (k:=?_)))))))
 refine lQ (cE 2 rfl (cE 3 rfl (cE 6 rfl (cE 7 rfl (cE 8 rfl .nil))))) (R_block ?_)
 refine R_loopE (G := Nat) (cE 2 rfl (cE 3 rfl (cE 6 rfl (cE 7 rfl .nil)))) (fun g => [(8, .int .i64 (g : Int))]) (fun _ => _) (fun g => g ≤ l.length ∧ orL l = orL (l.drop g)) (fun g => l.length - g) (0) (by show (0) ≤ l.length ∧ orL l = orL (l.drop (0)); exact ⟨Nat.zero_le _, rfl⟩) (by repeat (first | exact .nil | refine .cons rfl ?_ | refine .consE rfl (by first | rfl | (congr 1; omega) | (congr 1; push_cast; omega)) ?_)) (Weak.refl _) ?_
 intro i hinv
 replace hinv : i ≤ l.length ∧ orL l = orL (l.drop i) := hinv
 show St (cx gl) _ ((8, .int .i64 (i : Int)) :: _) _ _
 obtain ⟨hi, ho⟩ := hinv
 refine rT (lP pLt (k:=?_))
 refine L_nil (qT (rS ?_))
 refine R_condP rfl (fun hlt => ?_) (fun hlt => ?_)
 ·skip
  obtain ⟨x, hx⟩ : ∃ x, l[i]? = some x := ⟨_, List.getElem?_eq_getElem (by omega)⟩
  refine R_skip (qT (rS (R_block (rT ?_))))
  refine lP (P_ixs (i) rfl ty_sl_200 rfl rfl (by first | rfl | omega) (by omega)) (k:=?_)
  refine lV (V_load rfl rfl ty_sc_3 (Rd.row hpre rfl (show (ints .i64 l)[i]? = some (.int .i64 x) by simp [ints, hx]))) (k:=lA (k:=?_))
  refine L_nil (qT (rT (lM (k:=lM (k:=lP pNe (k:=?_))))))
  refine L_nil (qT ?_)
  refine R_condP rfl (fun hz => ?_) (fun hz => ?_)
  ·skip
   refine rT (lM (k:=lA (k:=?_)))
   refine L_nil (qT (R_ret (Q_block_ret (Q_then_ret (Q_then_ret (Q_block_ret (Q_then_ret ?_)))))))
   exact R_endV rfl rfl (.tmp rfl .nil) (by rw [ho, orL_drop hx, if_pos hz]; rfl)
  ·skip
   refine R_skip (Q_block (qT (rR ?_)))
   first | (refine L_val rfl rfl rfl (OpP.v (P_addN rfl rfl rfl (by simp only [fits]; omega))) ?_) | (refine L_val rfl rfl rfl (OpP.v (P_add rfl rfl rfl)) ?_)
   refine lM (k:=?_)
   refine L_nil ?_
   exact Q_round (i + 1) (by show (i + 1) ≤ l.length ∧ orL l = orL (l.drop (i + 1)); exact ⟨by omega, by rw [ho, orL_drop hx, if_neg hz]⟩) (by show l.length - (i + 1) < l.length - i; omega) (by repeat (first | exact .nil | refine .cons rfl ?_ | refine .consE rfl (by first | rfl | (congr 1; omega) | (congr 1; push_cast; omega)) ?_)) (Weak.refl _)
 ·skip
  refine R_exit (Q_then_exit (Q_then_exit (Q_block_eq ?_)))
  refine St.env (cE 2 rfl (cE 3 rfl .nil)) (qT (rT (lM (k:=lA (k:=?_)))))
  refine lQ (cE 2 rfl .nil) (R_ret ?_)
  exact R_endV rfl rfl (.tmp rfl .nil) (by rw [ho, List.drop_eq_nil_of_le (by omega)]; rfl)
theorem orL2 (x y : Int) : orL [x, y] = orI x y := by
 show (if x ≠ 0 then x else if y ≠ 0 then y else 0) = if x ≠ 0 then x else y
 split
 ·rfl
 ·split
  ·rfl
  ·omega
def laterI (x y : Rel) : Int := orI (cmpI x.h y.h) (cmpI x.a y.a)
def btI (x y : Mem) : Int := orI (cmpI y.p x.p) (cmpI x.a y.a)
theorem later_ok {gl : Nat → Obj} (x y : Rel) : SpecV (cx gl) 156 [.agg x.cells.toArray, .agg y.cells.toArray] noPre (.int .i64 (laterI x y)) := by
 refine Spec.enter (C := cx gl) Tryz.func156 rfl 17 rfl rfl fun w0 h0 hsep hsub hpre => ?_
 obtain rfl : h0 = Heap.none := hsep
 show St (cx gl) _ [(0, .agg x.cells.toArray), (1, .agg y.cells.toArray)] _ _
 refine rT ?_
 refine lO (W_box (x.cells) rfl rfl rfl rfl rfl fun b2 => ?_)
 refine lO (W_box (y.cells) rfl rfl rfl rfl rfl fun b3 => lA (k:=?_))
 refine lQ (cE 2 rfl (cE 3 rfl (cE 4 rfl .nil))) (rS ?_)
 refine R_open [(0, 0), (1, 1), (2, 0), (3, 1), (5, 0), (6, 1), (7, 0), (8, 1), (4, 2), (9, 2), (10, 2), (11, 2), (12, 0)] mixed (by kernel_rfl) (QOk.then QOk.body) (oP rfl (pF ty_fl_175_0) (k:=oV rfl (vB ty_sc_23 .h1) (k:=oP rfl (pF ty_fl_175_0) (k:=oV rfl (vB ty_sc_23 .h0) (k:=oP rfl (pF ty_fl_175_1) (k:=oV rfl (vB ty_sc_26 .h1) (k:=oP rfl (pF ty_fl_175_1) (k:=oV rfl (vB ty_sc_26 .h0) (k:=?_)))))))))
 refine O_keep rfl rfl (W_callV rfl rfl rfl rfl fn_ca_94 (cmpu_ok _ _) (fun _ _ => trivial) (K_keep (Weak.refl _) ?_))
 refine O_keep rfl rfl (W_callV rfl rfl rfl rfl fn_ca_95 (cmpa_ok _ _) (fun _ _ => trivial) (K_keep (Weak.refl _) ?_))
 refine O_keep rfl rfl (W_lit (z := .nilIface) (ints .i64 [cmpI x.h y.h, cmpI x.a y.a]) rfl rfl rfl ty_sl_200 ty_lz_200 rfl rfl rfl (by decide) (by decide) (by simp [Value.cells]) (rfl) fun b15 => (K_keep (Weak.drop (Weak.refl _)) ?_))
 refine O_keep rfl rfl (W_callV rfl rfl rfl rfl fn_ca_93 (or_ok b15 2 [cmpI x.h y.h, cmpI x.a y.a] (Nat.le_refl 2) (show 2 ≤ 1000 by decide)) (fun w nw => (Sn.ofBlk .h0).rowAt0 (fun _ _ h => h) w nw) (K_keep (Weak.refl _) (oP rfl pA (k:=O_nil ?_))))
 refine St.env (cE 4 rfl .nil) (qT (R_ret ?_))
 exact R_endV rfl rfl (.tmp rfl .nil) (congrArg (Value.int .i64) (orL2 _ _))
theorem seats1_ok {gl : Nat → Obj} (x y : Mem) : SpecV (cx gl) 92 [.agg x.cells.toArray, .agg y.cells.toArray] noPre (.int .i64 (btI x y)) := by
 refine Spec.enter (C := cx gl) Tryz.func92 rfl 17 rfl rfl fun w0 h0 hsep hsub hpre => ?_
 obtain rfl : h0 = Heap.none := hsep
 show St (cx gl) _ [(0, .agg x.cells.toArray), (1, .agg y.cells.toArray)] _ _
 refine rT ?_
 refine lO (W_box (x.cells) rfl rfl rfl rfl rfl fun b2 => ?_)
 refine lO (W_box (y.cells) rfl rfl rfl rfl rfl fun b3 => lA (k:=?_))
 refine lQ (cE 2 rfl (cE 3 rfl (cE 4 rfl .nil))) (rS ?_)
 refine R_open [(0, 0), (1, 1), (2, 0), (3, 1), (5, 0), (6, 1), (7, 0), (8, 1), (4, 2), (9, 2), (10, 2), (11, 2), (12, 0)] mixed (by kernel_rfl) (QOk.then QOk.body) (oP rfl (pF ty_fl_55_1) (k:=oV rfl (vB ty_sc_23 .h0) (k:=oP rfl (pF ty_fl_55_1) (k:=oV rfl (vB ty_sc_23 .h1) (k:=oP rfl (pF ty_fl_55_0) (k:=oV rfl (vB ty_sc_26 .h1) (k:=oP rfl (pF ty_fl_55_0) (k:=oV rfl (vB ty_sc_26 .h0) (k:=?_)))))))))
 refine O_keep rfl rfl (W_callV rfl rfl rfl rfl fn_ca_94 (cmpu_ok _ _) (fun _ _ => trivial) (K_keep (Weak.refl _) ?_))
 refine O_keep rfl rfl (W_callV rfl rfl rfl rfl fn_ca_95 (cmpa_ok _ _) (fun _ _ => trivial) (K_keep (Weak.refl _) ?_))
 refine O_keep rfl rfl (W_lit (z := .nilIface) (ints .i64 [cmpI y.p x.p, cmpI x.a y.a]) rfl rfl rfl ty_sl_200 ty_lz_200 rfl rfl rfl (by decide) (by decide) (by simp [Value.cells]) (rfl) fun b15 => (K_keep (Weak.drop (Weak.refl _)) ?_))
 refine O_keep rfl rfl (W_callV rfl rfl rfl rfl fn_ca_93 (or_ok b15 2 [cmpI y.p x.p, cmpI x.a y.a] (Nat.le_refl 2) (show 2 ≤ 1000 by decide)) (fun w nw => (Sn.ofBlk .h0).rowAt0 (fun _ _ h => h) w nw) (K_keep (Weak.refl _) (oP rfl pA (k:=O_nil ?_))))
 refine St.env (cE 4 rfl .nil) (qT (R_ret ?_))
 exact R_endV rfl rfl (.tmp rfl .nil) (congrArg (Value.int .i64) (orL2 _ _))
theorem seats2_ok {gl : Nat → Obj} (x y : Mem) : SpecV (cx gl) 97 [.agg x.cells.toArray, .agg y.cells.toArray] noPre (.int .i64 (cmpI x.a y.a)) := by
 refine Spec.enter (C := cx gl) Tryz.func97 rfl 10 rfl rfl fun w0 h0 hsep hsub hpre => ?_
 obtain rfl : h0 = Heap.none := hsep
 show St (cx gl) _ [(0, .agg x.cells.toArray), (1, .agg y.cells.toArray)] _ _
 refine rT ?_
 refine lO (W_box (x.cells) rfl rfl rfl rfl rfl fun b2 => ?_)
 refine lO (W_box (y.cells) rfl rfl rfl rfl rfl fun b3 => lA (k:=?_))
 refine lQ (cE 2 rfl (cE 3 rfl (cE 4 rfl .nil))) (rT (lP (pF ty_fl_55_0) (k:=lV (vB ty_sc_26 .h1) (k:=lP (pF ty_fl_55_0) (k:=lV (vB ty_sc_26 .h0) (k:=?_))))))
 refine lO (W_callV rfl rfl rfl rfl fn_ca_95 (cmpa_ok _ _) (fun _ _ => trivial) (lA (k:=?_)))
 refine lQ (cE 4 rfl .nil) (R_ret ?_)
 exact R_endV rfl rfl (.tmp rfl .nil) (rfl)
end Go.Proofs.YtcngmkjdpoiiaaaGreatDoor

/- Walks: sums of two words, soundAccounts, fresh, New, Find. Printed by gen.py. -/
set_option maxRecDepth 100000
namespace Go.Proofs.YtcngmkjdpoiiaaaGreatDoor
open Go Go.RowKit Go.Proofs
/-- A sum as two words. -/
def sumC (S : Int) : List Value := [.int .u64 (S / 18446744073709551616), .int .u64 (S % 18446744073709551616)]
theorem sumC_one (S : Int) : ∀ v ∈ sumC S, v.oneCell' = true := by
 intro v hv; simp only [sumC, List.mem_cons, List.not_mem_nil, or_false] at hv; rcases hv with rfl | rfl <;> rfl
theorem sumC_zero (l : List Acc) : sumC (sumA (l.take 0)) = [.int .u64 0, .int .u64 0] := by simp [sumA, sumC]
def soundV (l : List Acc) : Value := .tuple #[.agg (sumC (if accE l = 0 then sumA l else 0)).toArray, .int .i64 (accE l)]
theorem soundV_bad {l : List Acc} {e : Int} (h : accE l = e) (he : e ≠ 0) : soundV l = .tuple #[.agg #[.int .u64 0, .int .u64 0], .int .i64 e] := by
 unfold soundV; rw [if_neg (by rw [h]; exact he), h]; rfl
theorem soundV_fine {l : List Acc} (h : accE l = 0) : soundV l = .tuple #[.agg (sumC (sumA l)).toArray, .int .i64 0] := by
 unfold soundV; rw [if_pos h, h]
/-- A ledger's cells. -/
def ledV (u r : Value) (b s : Int) : List Value := [u, r, .int .u64 b, .int .u64 s]
/-- The first place of what is asked for. -/
def idxG {α : Type} (p : α → Bool) (l : List α) : Int := match l.findIdx? p with | some i => i | none => -1
theorem idxG_hit {α : Type} {p : α → Bool} {l : List α} {i : Nat} {m : α} (h0 : ∀ j m', j < i → l[j]? = some m' → p m' = false) (hm : l[i]? = some m) (hp : p m = true) : idxG p l = i := by
 have : l.findIdx? p = some i := by
  rw [List.findIdx?_eq_some_iff_getElem]
  obtain ⟨hi, he⟩ := List.getElem?_eq_some_iff.1 hm
  exact ⟨hi, by rw [he]; exact hp, fun j hj => by have := h0 j _ hj (List.getElem?_eq_getElem (by omega)); simp [this]⟩
 unfold idxG; rw [this]
theorem idxG_none {α : Type} {p : α → Bool} {l : List α} (h0 : ∀ j m', j < l.length → l[j]? = some m' → p m' = false) : idxG p l = -1 := by
 have : l.findIdx? p = none := by
  rw [List.findIdx?_eq_none_iff]
  intro x hx
  obtain ⟨j, hj, rfl⟩ := List.getElem_of_mem hx
  exact h0 j _ hj (List.getElem?_eq_getElem hj)
 unfold idxG; rw [this]
theorem idxG_cases {α : Type} (p : α → Bool) (l : List α) : idxG p l = -1 ∨ ∃ i : Nat, i < l.length ∧ idxG p l = i := by
 unfold idxG
 cases h : l.findIdx? p with
 | none => exact .inl rfl
 | some i =>
  obtain ⟨hi, _⟩ := List.findIdx?_eq_some_iff_getElem.1 h
  exact .inr ⟨i, hi, rfl⟩
theorem idxG_pos {α : Type} {p : α → Bool} {l : List α} (h : ¬ idxG p l < 0) : ∃ i : Nat, i < l.length ∧ idxG p l = i := by
 rcases idxG_cases p l with h1 | h1
 ·omega
 ·exact h1
theorem no_next {α : Type} {p : α → Bool} {l : List α} {i : Nat} {x : α} (h0 : ∀ j m', j < i → l[j]? = some m' → p m' = false) (hx : l[i]? = some x) (hp : p x = false) : ∀ j m', j < i + 1 → l[j]? = some m' → p m' = false := fun j m' hj hm => by
 rcases Nat.lt_or_ge j i with h | h
 ·exact h0 j m' h hm
 ·obtain rfl : j = i := by omega
  rw [hx, Option.some.injEq] at hm; rw [← hm]; exact hp
def isAc (a : Int) (x : Acc) : Bool := decide (x.a = a)
def findE (l : List Acc) (a : Int) : Int := if idxG (isAc a) l < 0 ∨ a = 0 then 85 else 0
def findX (l : List Acc) (a : Int) : Acc := if idxG (isAc a) l < 0 ∨ a = 0 then acc0 else accAt l (idxG (isAc a) l).toNat
def findV (l : List Acc) (a : Int) : Value := .tuple #[.agg (findX l a).cells.toArray, .int .i64 (findE l a)]
theorem findV_no {l : List Acc} {a : Int} (h : idxG (isAc a) l < 0 ∨ a = 0) : findV l a = .tuple #[.agg acc0.cells.toArray, .int .i64 85] := by unfold findV findX findE; rw [if_pos h, if_pos h]
theorem findV_yes {l : List Acc} {a : Int} (h : ¬ (idxG (isAc a) l < 0 ∨ a = 0)) : findV l a = .tuple #[.agg (accAt l (idxG (isAc a) l).toNat).cells.toArray, .int .i64 0] := by unfold findV findX findE; rw [if_neg h, if_neg h]
theorem add64_run (x y c : Int) (hx : 0 ≤ x) (hy : 0 ≤ y) (hc0 : 0 ≤ c) (hc : c ≤ 1) (w : World) : (callFunc 219 #[.int .u64 x, .int .u64 y, .int .u64 c]).run Tryz.prog w = .ok (.value (.tuple #[.int .u64 ((x + y + c) % 18446744073709551616), .int .u64 ((x + y + c) / 18446744073709551616)])) w := by
 rw [run_callFunc_extern (fn := Tryz.f219) Tryz.func219 (by kernel_rfl) (by kernel_rfl) (by kernel_rfl) (e := add64Entry) (by kernel_rfl), run_add64 x y c hx hy hc0 hc]; rfl
theorem plus_ok {gl : Nat → Obj} (S n : Int) (h0 : 0 ≤ S) (h1 : S ≤ 1267650600228229401496703205376) (hn : u64 n) : SpecV (cx gl) 157 [.agg (sumC S).toArray, .int .u64 n] noPre (.agg (sumC (S + n)).toArray) := by
 refine Spec.enter (C := cx gl) Tryz.func157 rfl 20 rfl rfl fun w0 h0 hsep hsub hpre => ?_
 obtain rfl : h0 = Heap.none := hsep
 show St (cx gl) _ [(0, .agg (sumC (S)).toArray), (1, .int .u64 n)] _ _
 obtain ⟨hn0, hn1⟩ := hn
 refine rT ?_
 refine lO (W_box (sumC S) rfl rfl rfl rfl rfl fun b2 => ?_)
 refine lO (W_alloc rfl rfl rfl ty_ze_169 fun b4 => ?_)
 refine lQ (cE 1 rfl (cE 2 rfl (cE 4 rfl .nil))) (rT (lP (pF ty_fl_169_1) (k:=lV (vB ty_sc_23 .h1) (k:=lM (k:=?_)))))
 refine lP (P_ext rfl rfl (fun w => add64_run (S % 18446744073709551616) n 0 (by omega) (by omega) (by omega) (by omega) w)) (k:=lM (k:=lP pX (k:=lP pX (k:=lA (k:=lA (k:=?_))))))
 refine lQ (cE 2 rfl (cE 4 rfl (cE 5 rfl (cE 6 rfl .nil)))) (rT (lP (pF ty_fl_169_0) (k:=lV (vB ty_sc_23 .h1) (k:=lM (k:=?_)))))
 refine lP (P_addN rfl rfl rfl (by simp only [fits]; omega)) (k:=lM (k:=?_))
 refine lP (P_buildStruct rfl ty_pl_169 ty_ze_169 rfl rfl (rfl)) (k:=?_)
 refine E_as (t := 19) (v' := .agg (sumC (S + n)).toArray) rfl (by show Value.agg #[_, _] = Value.agg #[_, _]; rw [show S / 18446744073709551616 + (S % 18446744073709551616 + n + 0) / 18446744073709551616 = (S + n) / 18446744073709551616 by omega, show (S % 18446744073709551616 + n + 0) % 18446744073709551616 = (S + n) % 18446744073709551616 by omega]) ?_
 refine lO (W_storeAll rfl rfl rfl rfl ty_ag_169 (rfl) (sumC_one _) .h0 (rfl) ?_)
 refine lQ (cE 4 rfl .nil) (R_ret ?_)
 exact R_endV rfl rfl (.cell rfl (Rds.loadVar ty_ag_169 (Rds.blk .h0) rfl) .nil) (rfl)
theorem soundAcc_ok {gl : Nat → Obj} (base : Option Addr) (c : Nat) (l : List Acc) (hc : l.length ≤ c) (hm : l.length ≤ 65536)(hok : ∀ x ∈ l, x.ok) : SpecV (cx gl) 78 [.slice base l.length c] (fun w => Row w base (rc l)) (soundV l) := by
 refine Spec.enter (C := cx gl) Tryz.func78 rfl 53 rfl rfl fun w0 h0 hsep hsub hpre => ?_
 obtain rfl : h0 = Heap.none := hsep
 show St (cx gl) _ [(0, .slice base l.length c)] _ _
 have hms : MS = 1152921504606846975 := rfl
 refine rT ?_
 refine lO (W_alloc rfl rfl rfl ty_ze_169 fun b2 => lA (k:=?_))
 refine L_nil (qT (rT ?_))
 refine lO (W_alloc rfl rfl rfl ty_ze_169 fun b4 => ?_)
 refine L_nil (qT (rS (rT (lM (k:=lP (pL ty_sl_22) (k:=lM (k:=?_)))))))
 refine L_nil (qT (R_block ?_))
 refine R_loopE (G := Nat) (cE 0 rfl (cE 2 rfl (cE 3 rfl (cE 4 rfl (cE 7 rfl (cE 8 rfl .nil)))))) (fun g => [(9, .int .i64 (g : Int))]) (fun g => [blk b4 (sumC (sumA (l.take g))) 169, blk b2 [.int .u64 0, .int .u64 0] 169]) (fun g => g ≤ l.length ∧ firstE (accBad l) g = 0) (fun g => l.length - g) (0) (by show (0) ≤ l.length ∧ firstE (accBad l) (0) = 0; exact ⟨Nat.zero_le _, rfl⟩) (by repeat (first | exact .nil | refine .cons rfl ?_ | refine .consE rfl (by first | rfl | (congr 1; omega) | (congr 1; push_cast; omega)) ?_)) (by rw [sumC_zero]; exact Weak.refl _) ?_
 intro i hinv
 replace hinv : i ≤ l.length ∧ firstE (accBad l) i = 0 := hinv
 show St (cx gl) _ ((9, .int .i64 (i : Int)) :: _) [blk b4 (sumC (sumA (l.take i))) 169, blk b2 [.int .u64 0, .int .u64 0] 169] _
 obtain ⟨hi, h0⟩ := hinv
 refine rT (lP pLt (k:=?_))
 refine L_nil (qT (rS ?_))
 refine R_condP rfl (fun hlt => ?_) (fun hlt => ?_)
 ·skip
  have hx0 := accAt_get (l := l) (i := i) (by omega)
  obtain ⟨x, ex⟩ : ∃ x, x = accAt l i := ⟨_, rfl⟩
  have hx : l[i]? = some x := by rw [ex]; exact hx0
  obtain ⟨pb, pj, rfl, hrow⟩ := hpre.some_ (by rw [rc_length]; show 0 < _ * 5; omega)
  obtain ⟨⟨ha1, ha2⟩, hb1, hb2, hb3⟩ := hok x (List.mem_of_getElem? hx)
  have hS := sumA_le i hi h0
  rw [hms] at hS
  have hSn : 0 ≤ sumA (l.take i) := sumA_nn fun y hy => hok y (List.mem_of_mem_take hy)
  refine R_skip (qT (rS (R_block (rT (lM (k:=?_))))))
  refine lP (P_ixs (i) rfl ty_sl_22 rfl rfl (by first | rfl | omega) (by omega)) (k:=?_)
  refine lV (V_loadAgg rfl rfl ty_ag_50 (rds_rc (Rds.row hrow rfl) hx) (rfl)) (k:=?_)
  refine lO (W_alloc rfl rfl rfl ty_ze_50 fun b6 => lA (k:=?_))
  refine lO (W_storeAll rfl rfl rfl rfl ty_ag_50 (rfl) (Rec.one x) .h0 (rfl) ?_)
  refine L_nil (qT (rS (R_block (rT (lP (pF ty_fl_50_0) (k:=lV (vB ty_sc_26 .h0) (k:=lP pEq (k:=lA (k:=?_)))))))))
  refine L_nil (qT ?_)
  refine R_condP rfl (fun ha => ?_) (fun ha => ?_)
  ·skip
   refine rT ?_
   refine lP (P_buildStruct rfl ty_pl_169 ty_ze_169 rfl rfl (rfl)) (k:=?_)
   refine E_as (t := 18) (v' := .agg [.int .u64 0, .int .u64 0].toArray) rfl (rfl) ?_
   refine lO (W_storeAll rfl rfl rfl rfl ty_ag_169 (rfl) (sumC_one 0) .h2 (rfl) (lA (k:=?_)))
   refine L_nil (qT (R_ret (Q_block_ret (Q_then_ret (Q_block_ret (Q_then_ret (Q_then_ret (Q_block_ret (Q_then_ret ?_)))))))))
   exact R_endV rfl rfl (.cell rfl (Rds.loadVar ty_ag_169 (Rds.blk .h2) rfl) (.tmp rfl .nil)) (by have h9 : accE l = 85 := firstE_hit h0 (show accBad l i = 85 by unfold accBad; rw [← ex]; rw [if_pos ha]) (by decide) (by omega); rw [soundV_bad h9 (by decide)]; rfl)
  ·skip
   refine rS ?_
   refine R_open [(0, 0), (1, 0), (2, 0), (3, 0), (4, 1), (5, 0), (6, 0), (7, 0), (8, 0), (9, 0), (10, 1), (11, 0), (12, 0), (13, 0)] mixed (by kernel_rfl) (QOk.then (QOk.block (QOk.then (QOk.block (QOk.then (QOk.then (QOk.block (QOk.then QOk.body)))))))) (oP rfl pM (k:=oP rfl pGt (k:=?_)))
   refine E_bool (t := 21) rfl (fun hi0 => ?_) (fun hi0 => ?_)
   ·skip
    have hi0 := of_decide_eq_true hi0
    obtain ⟨y, ey⟩ : ∃ y, y = accAt l (i - 1) := ⟨_, rfl⟩
    have hy : l[i - 1]? = some y := by rw [ey]; exact accAt_get (by omega)
    refine oP rfl pM (k:=oP rfl (pF ty_fl_50_0) (k:=oV rfl (vB ty_sc_26 .h0) (k:=oP rfl pM (k:=oP rfl pM (k:=?_)))))
    first | (refine O_pure rfl rfl rfl rfl (P_subN rfl rfl rfl (by simp only [fits]; omega)) ?_) | (refine O_pure rfl rfl rfl rfl (P_sub rfl rfl rfl) ?_)
    refine oP rfl (P_ixs (i - 1) rfl ty_sl_22 rfl rfl (by first | rfl | omega) (by omega)) (k:=oP rfl (pG ty_fl_50_0) (k:=?_))
    refine oV rfl (V_load rfl rfl ty_sc_26 (rd_rc (Rds.row hrow rfl) hy rfl)) (k:=oP rfl pLe (k:=oP rfl pK (k:=oP rfl pA (k:=O_nil (qT ?_)))))
    refine R_condP rfl (fun hle => ?_) (fun hle => ?_)
    ·skip
     refine rT ?_
     refine lP (P_buildStruct rfl ty_pl_169 ty_ze_169 rfl rfl (rfl)) (k:=?_)
     refine E_as (t := 33) (v' := .agg [.int .u64 0, .int .u64 0].toArray) rfl (rfl) ?_
     refine lO (W_storeAll rfl rfl rfl rfl ty_ag_169 (rfl) (sumC_one 0) .h2 (rfl) (lA (k:=?_)))
     refine L_nil (qT (R_ret (Q_block_ret (Q_then_ret (Q_block_ret (Q_then_ret (Q_then_ret (Q_block_ret (Q_then_ret ?_)))))))))
     exact R_endV rfl rfl (.cell rfl (Rds.loadVar ty_ag_169 (Rds.blk .h2) rfl) (.tmp rfl .nil)) (by have h9 : accE l = 42 := firstE_hit h0 (show accBad l i = 42 by unfold accBad; rw [← ex]; rw [if_neg ha, if_pos ⟨by omega, by rw [← ey]; exact hle⟩]) (by decide) (by omega); rw [soundV_bad h9 (by decide)]; rfl)
    ·skip
     have hn42 : ¬ (0 < i ∧ x.a ≤ (accAt l (i - 1)).a) := by rw [← ey]; omega
     refine rT (lP (pF ty_fl_50_1) (k:=lV (vB ty_sc_23 .h0) (k:=lP pGt (k:=?_))))
     refine E_bool (t := 37) rfl (fun hb => ?_) (fun hb => ?_)
     ·skip
      have hb := of_decide_eq_true hb
      refine lM (k:=lN (k:=lN (k:=lN (k:=lP pK (k:=lA (k:=?_))))))
      refine L_nil (qT (kT (k:=rT ?_)))
      refine lP (P_buildStruct rfl ty_pl_169 ty_ze_169 rfl rfl (rfl)) (k:=?_)
      refine E_as (t := 43) (v' := .agg [.int .u64 0, .int .u64 0].toArray) rfl (rfl) ?_
      refine lO (W_storeAll rfl rfl rfl rfl ty_ag_169 (rfl) (sumC_one 0) .h2 (rfl) (lA (k:=?_)))
      refine L_nil (qT (R_ret (Q_block_ret (Q_then_ret (Q_block_ret (Q_then_ret (Q_then_ret (Q_block_ret (Q_then_ret ?_)))))))))
      exact R_endV rfl rfl (.cell rfl (Rds.loadVar ty_ag_169 (Rds.blk .h2) rfl) (.tmp rfl .nil)) (by have h9 : accE l = 87 := firstE_hit h0 (show accBad l i = 87 by unfold accBad; rw [← ex]; rw [if_neg ha, if_neg hn42, if_pos (by omega)]) (by decide) (by omega); rw [soundV_bad h9 (by decide)]; rfl)
     ·skip
      have hb := of_decide_eq_false hb
      refine lM (k:=lP (pF ty_fl_50_2) (k:=lV (vB ty_sc_23 .h0) (k:=lP pGt (k:=lP pK (k:=lA (k:=?_))))))
      refine L_nil (qT ?_)
      refine R_condP rfl (fun hd => ?_) (fun hd => ?_)
      ·skip
       refine rT ?_
       refine lP (P_buildStruct rfl ty_pl_169 ty_ze_169 rfl rfl (rfl)) (k:=?_)
       refine E_as (t := 43) (v' := .agg [.int .u64 0, .int .u64 0].toArray) rfl (rfl) ?_
       refine lO (W_storeAll rfl rfl rfl rfl ty_ag_169 (rfl) (sumC_one 0) .h2 (rfl) (lA (k:=?_)))
       refine L_nil (qT (R_ret (Q_block_ret (Q_then_ret (Q_block_ret (Q_then_ret (Q_then_ret (Q_block_ret (Q_then_ret ?_)))))))))
       exact R_endV rfl rfl (.cell rfl (Rds.loadVar ty_ag_169 (Rds.blk .h2) rfl) (.tmp rfl .nil)) (by have h9 : accE l = 87 := firstE_hit h0 (show accBad l i = 87 by unfold accBad; rw [← ex]; rw [if_neg ha, if_neg hn42, if_pos (by omega)]) (by decide) (by omega); rw [soundV_bad h9 (by decide)]; rfl)
      ·skip
       refine R_skip (Q_block (qT ?_))
       refine R_open [(0, 1), (1, 0), (2, 1), (4, 0), (5, 1), (3, 2), (6, 2), (7, 3)] mixed (by kernel_rfl) (QOk.block (QOk.then (QOk.then (QOk.block (QOk.then QOk.body))))) (oV rfl (vG ty_ag_169 .h1) (k:=oP rfl (pF ty_fl_50_1) (k:=oV rfl (vB ty_sc_23 .h0) (k:=oP rfl (pF ty_fl_50_2) (k:=oV rfl (vB ty_sc_23 .h0) (k:=?_))))))
       refine O_keep rfl rfl (W_callV rfl rfl rfl rfl fn_ca_157 (plus_ok (sumA (l.take i)) x.bal hSn (by omega) hb1) (fun _ _ => trivial) (K_keep (Weak.refl _) ?_))
       refine O_keep rfl rfl (W_callV rfl rfl rfl rfl fn_ca_157 (plus_ok (sumA (l.take i) + x.bal) x.bond (by have := hb1.1; omega) (by have := hb1.2; omega) hb2) (fun _ _ => trivial) (K_keep (Weak.refl _) ?_))
       refine O_new rfl rfl (W_storeAll rfl rfl rfl rfl ty_ag_169 (rfl) (sumC_one _) .h1 (rfl) (K_new (O_nil (Q_block (qT (rR ?_))))))
       first | (refine L_val rfl rfl rfl (OpP.v (P_addN rfl rfl rfl (by simp only [fits]; omega))) ?_) | (refine L_val rfl rfl rfl (OpP.v (P_add rfl rfl rfl)) ?_)
       refine lM (k:=?_)
       refine L_nil ?_
       exact Q_round (i + 1) (by show (i + 1) ≤ l.length ∧ firstE (accBad l) (i + 1) = 0; exact ⟨by omega, firstE_next h0 (by unfold accBad; rw [← ex, if_neg ha, if_neg hn42, if_neg (by omega)])⟩) (by show l.length - (i + 1) < l.length - i; omega) (by repeat (first | exact .nil | refine .cons rfl ?_ | refine .consE rfl (by first | rfl | (congr 1; omega) | (congr 1; push_cast; omega)) ?_)) (by rw [sumA_snoc hx, ← Int.add_assoc]; exact Weak.drop (Weak.refl _))
   ·skip
    have hi0 := of_decide_eq_false hi0
    have hn42 : ¬ (0 < i ∧ x.a ≤ (accAt l (i - 1)).a) := by omega
    refine oP rfl pM (k:=?_)
    refine O_no rfl rfl rfl rfl ?_
    refine O_noX rfl rfl rfl rfl ?_
    refine O_no rfl rfl rfl rfl ?_
    refine O_no rfl rfl rfl rfl ?_
    refine O_no rfl rfl rfl rfl ?_
    refine O_no rfl rfl rfl rfl ?_
    refine O_no rfl rfl rfl rfl ?_
    refine O_noX rfl rfl rfl rfl ?_
    refine O_no rfl rfl rfl rfl (oP rfl pK (k:=oP rfl pA (k:=O_nil (qT (kF (k:=rT (lP (pF ty_fl_50_1) (k:=lV (vB ty_sc_23 .h0) (k:=lP pGt (k:=?_))))))))))
    refine E_bool (t := 37) rfl (fun hb => ?_) (fun hb => ?_)
    ·skip
     have hb := of_decide_eq_true hb
     refine lM (k:=lN (k:=lN (k:=lN (k:=lP pK (k:=lA (k:=?_))))))
     refine L_nil (qT (kT (k:=rT ?_)))
     refine lP (P_buildStruct rfl ty_pl_169 ty_ze_169 rfl rfl (rfl)) (k:=?_)
     refine E_as (t := 43) (v' := .agg [.int .u64 0, .int .u64 0].toArray) rfl (rfl) ?_
     refine lO (W_storeAll rfl rfl rfl rfl ty_ag_169 (rfl) (sumC_one 0) .h2 (rfl) (lA (k:=?_)))
     refine L_nil (qT (R_ret (Q_block_ret (Q_then_ret (Q_block_ret (Q_then_ret (Q_then_ret (Q_block_ret (Q_then_ret ?_)))))))))
     exact R_endV rfl rfl (.cell rfl (Rds.loadVar ty_ag_169 (Rds.blk .h2) rfl) (.tmp rfl .nil)) (by have h9 : accE l = 87 := firstE_hit h0 (show accBad l i = 87 by unfold accBad; rw [← ex]; rw [if_neg ha, if_neg hn42, if_pos (by omega)]) (by decide) (by omega); rw [soundV_bad h9 (by decide)]; rfl)
    ·skip
     have hb := of_decide_eq_false hb
     refine lM (k:=lP (pF ty_fl_50_2) (k:=lV (vB ty_sc_23 .h0) (k:=lP pGt (k:=lP pK (k:=lA (k:=?_))))))
     refine L_nil (qT ?_)
     refine R_condP rfl (fun hd => ?_) (fun hd => ?_)
     ·skip
      refine rT ?_
      refine lP (P_buildStruct rfl ty_pl_169 ty_ze_169 rfl rfl (rfl)) (k:=?_)
      refine E_as (t := 43) (v' := .agg [.int .u64 0, .int .u64 0].toArray) rfl (rfl) ?_
      refine lO (W_storeAll rfl rfl rfl rfl ty_ag_169 (rfl) (sumC_one 0) .h2 (rfl) (lA (k:=?_)))
      refine L_nil (qT (R_ret (Q_block_ret (Q_then_ret (Q_block_ret (Q_then_ret (Q_then_ret (Q_block_ret (Q_then_ret ?_)))))))))
      exact R_endV rfl rfl (.cell rfl (Rds.loadVar ty_ag_169 (Rds.blk .h2) rfl) (.tmp rfl .nil)) (by have h9 : accE l = 87 := firstE_hit h0 (show accBad l i = 87 by unfold accBad; rw [← ex]; rw [if_neg ha, if_neg hn42, if_pos (by omega)]) (by decide) (by omega); rw [soundV_bad h9 (by decide)]; rfl)
     ·skip
      refine R_skip (Q_block (qT ?_))
      refine R_open [(0, 1), (1, 0), (2, 1), (4, 0), (5, 1), (3, 2), (6, 2), (7, 3)] mixed (by kernel_rfl) (QOk.block (QOk.then (QOk.then (QOk.block (QOk.then QOk.body))))) (oV rfl (vG ty_ag_169 .h1) (k:=oP rfl (pF ty_fl_50_1) (k:=oV rfl (vB ty_sc_23 .h0) (k:=oP rfl (pF ty_fl_50_2) (k:=oV rfl (vB ty_sc_23 .h0) (k:=?_))))))
      refine O_keep rfl rfl (W_callV rfl rfl rfl rfl fn_ca_157 (plus_ok (sumA (l.take i)) x.bal hSn (by omega) hb1) (fun _ _ => trivial) (K_keep (Weak.refl _) ?_))
      refine O_keep rfl rfl (W_callV rfl rfl rfl rfl fn_ca_157 (plus_ok (sumA (l.take i) + x.bal) x.bond (by have := hb1.1; omega) (by have := hb1.2; omega) hb2) (fun _ _ => trivial) (K_keep (Weak.refl _) ?_))
      refine O_new rfl rfl (W_storeAll rfl rfl rfl rfl ty_ag_169 (rfl) (sumC_one _) .h1 (rfl) (K_new (O_nil (Q_block (qT (rR ?_))))))
      first | (refine L_val rfl rfl rfl (OpP.v (P_addN rfl rfl rfl (by simp only [fits]; omega))) ?_) | (refine L_val rfl rfl rfl (OpP.v (P_add rfl rfl rfl)) ?_)
      refine lM (k:=?_)
      refine L_nil ?_
      exact Q_round (i + 1) (by show (i + 1) ≤ l.length ∧ firstE (accBad l) (i + 1) = 0; exact ⟨by omega, firstE_next h0 (by unfold accBad; rw [← ex, if_neg ha, if_neg hn42, if_neg (by omega)])⟩) (by show l.length - (i + 1) < l.length - i; omega) (by repeat (first | exact .nil | refine .cons rfl ?_ | refine .consE rfl (by first | rfl | (congr 1; omega) | (congr 1; push_cast; omega)) ?_)) (by rw [sumA_snoc hx, ← Int.add_assoc]; exact Weak.drop (Weak.refl _))
 ·skip
  have hin : i = l.length := by omega
  rw [hin] at h0
  rw [hin, List.take_length]
  refine R_exit (Q_then_exit (Q_then_exit (Q_block_eq ?_)))
  refine St.env (cE 2 rfl (cE 3 rfl (cE 4 rfl .nil))) (qT (rT (lV (vG ty_ag_169 .h0) (k:=?_))))
  refine lO (W_storeAll rfl rfl rfl rfl ty_ag_169 (rfl) (sumC_one _) .h1 (rfl) (lA (k:=?_)))
  refine lQ (cE 2 rfl (cE 3 rfl .nil)) (R_ret ?_)
  exact R_endV rfl rfl (.cell rfl (Rds.loadVar ty_ag_169 (Rds.blk .h1) rfl) (.tmp rfl .nil)) (by rw [soundV_fine h0]; rfl)
theorem freshA_ok {gl : Nat → Obj} (base : Option Addr) (c : Nat) (l : List Acc) (hc : l.length ≤ c) (hm : l.length ≤ 3518437208883) : Spec (cx gl) 79 [.slice base l.length c] (fun w h => Seen w h base (rc l)) [] (fun v rs => rs = [ownS 50 5 (v) (l.length) (rc (l))]) := by
 refine Spec.enter (C := cx gl) Tryz.func79 rfl 7 rfl rfl fun w0 h0 hsep hsub hpre => ?_
 obtain rfl : h0 = Heap.none := hsep
 show St (cx gl) _ [(0, .slice base l.length c)] _ _
 refine rT (lA (k:=?_))
 refine L_nil (qT (rT (lM (k:=?_))))
 refine lP (P_slice3 0 0 0 rfl ty_sl_22 rfl rfl rfl rfl (by omega) (by omega) (by omega)) (k:=?_)
 refine E_as (t := 4) (v' := .slice base 0 0) rfl (rfl) ?_
 refine St.res (rs' := [ownS 50 5 (.slice base 0 0) 0 (rc ([] : List Acc))]) (Weak.newNil0) (lM (k:=?_))
 refine lO (W_append (p := []) rfl rfl rfl ty_sl_22 ty_ap_22 ty_src_22 rfl rfl rfl (Src.row (sz := 5) (Sn.old hpre).rw_ (rc_length l) (rc_one l)) (by omega) (by simp only [maxLen]; omega) fun v6 => lA (k:=?_))
 refine lQ (cE 2 rfl .nil) (R_ret ?_)
 exact R_end (rs2 := _) rfl rfl (.tmp rfl .nil) (rfl) (ownS.to2 (by omega) rfl)
theorem freshR_ok {gl : Nat → Obj} (base : Option Addr) (c : Nat) (l : List Rel) (hc : l.length ≤ c) (hm : l.length ≤ 4398046511104) : Spec (cx gl) 80 [.slice base l.length c] (fun w h => Seen w h base (rc l)) [] (fun v rs => rs = [ownS 175 4 (v) (l.length) (rc (l))]) := by
 refine Spec.enter (C := cx gl) Tryz.func80 rfl 7 rfl rfl fun w0 h0 hsep hsub hpre => ?_
 obtain rfl : h0 = Heap.none := hsep
 show St (cx gl) _ [(0, .slice base l.length c)] _ _
 refine rT (lA (k:=?_))
 refine L_nil (qT (rT (lM (k:=?_))))
 refine lP (P_slice3 0 0 0 rfl ty_sl_28 rfl rfl rfl rfl (by omega) (by omega) (by omega)) (k:=?_)
 refine E_as (t := 4) (v' := .slice base 0 0) rfl (rfl) ?_
 refine St.res (rs' := [ownS 175 4 (.slice base 0 0) 0 (rc ([] : List Rel))]) (Weak.newNil0) (lM (k:=?_))
 refine lO (W_append (p := []) rfl rfl rfl ty_sl_28 ty_ap_28 ty_src_28 rfl rfl rfl (Src.row (sz := 4) (Sn.old hpre).rw_ (rc_length l) (rc_one l)) (by omega) (by simp only [maxLen]; omega) fun v6 => lA (k:=?_))
 refine lQ (cE 2 rfl .nil) (R_ret ?_)
 exact R_end (rs2 := _) rfl rfl (.tmp rfl .nil) (rfl) (ownS.to2 (by omega) rfl)
theorem ledV_one (u r : Value) (b s : Int) (hu : u.oneCell' = true) (hr : r.oneCell' = true) : ∀ v ∈ ledV u r b s, v.oneCell' = true := by
 intro v hv; simp only [ledV, List.mem_cons, List.not_mem_nil, or_false] at hv; rcases hv with rfl | rfl | rfl | rfl <;> first | assumption | rfl
theorem newL8_bad' {l : List Acc} (h : newE l ≠ 0) : (newL8 l).acc = [] ∧ (newL8 l).sup = 0 := by rw [newL8_bad h]; exact ⟨rfl, rfl⟩
theorem lnew_ok {gl : Nat → Obj} (base : Option Addr) (c : Nat) (l : List Acc) (hc : l.length ≤ c)(hm : l.length ≤ 3518437208883)(hok : ∀ x ∈ l, x.ok) : Spec (cx gl) 18 [.slice base l.length c] (fun w _ => Row w base (rc l)) [] (fun v rs => ∃ u, v = .tuple #[.agg (ledV u (.slice none 0 0) 0 (newL8 l).sup).toArray, .int .i64 (newE l)] ∧ rs = [ownS 50 5 (u) ((newL8 l).acc.length) (rc ((newL8 l).acc))]) := by
 refine Spec.enter (C := cx gl) Tryz.func18 rfl 33 rfl rfl fun w0 h0 hsep hsub hpre => ?_
 obtain rfl : h0 = Heap.none := hsep
 show St (cx gl) _ [(0, .slice base l.length c)] _ _
 have hms : MS = 1152921504606846975 := rfl
 refine rT ?_
 refine lO (W_alloc rfl rfl rfl ty_ze_30 fun b2 => lA (k:=?_))
 refine L_nil (qT (rS (rT (lM (k:=lP (pL ty_sl_22) (k:=lP pGt (k:=?_)))))))
 refine lQ (cE 0 rfl (cE 2 rfl (cE 3 rfl (cE 8 rfl .nil)))) ?_
 refine R_condP rfl (fun hbig => ?_) (fun hbig => ?_)
 ·skip
  have h9e : newE l = 86 := newE_big (by omega)
  have h9 : newE l ≠ 0 := by rw [h9e]; decide
  refine rT ?_
  refine lP (P_buildStruct rfl ty_pl_30 ty_ze_30 rfl rfl (rfl)) (k:=?_)
  refine E_as (t := 9) (v' := .agg (ledV (.slice none 0 0) (.slice none 0 0) 0 0).toArray) rfl (rfl) ?_
  refine lO (W_storeAll rfl rfl rfl rfl ty_ag_30 (rfl) (ledV_one _ _ _ _ rfl rfl) .h0 (rfl) (lA (k:=?_)))
  refine lQ (cE 0 rfl (cE 2 rfl (cE 3 rfl .nil))) (R_ret (Q_then_ret ?_))
  exact R_end (rs2 := [ownS 50 5 (.slice none 0 0) ((newL8 l).acc.length) (rc ((newL8 l).acc))]) rfl rfl (.cell rfl (Rds.loadVar ty_ag_30 (Rds.blk .h0) rfl) (.tmp rfl .nil)) (⟨.slice none 0 0, by rw [(newL8_bad' h9).2]; rw [h9e]; rfl, rfl⟩) (Weak.trans (Weak.newNil (T := 50) (sz := 5)) (Weak.keep_to (fun h hh => by rw [(newL8_bad' h9).1]; exact hh)))
 ·skip
  have hbig : ¬ 65536 < l.length := by omega
  refine R_skip (qT (rT (lM (k:=?_))))
  refine lO (W_callV rfl rfl rfl rfl fn_ca_78 (soundAcc_ok base c l hc (by omega) hok) (fun w nw => (Sn.row hpre rfl).rw_ w nw) ?_)
  rw [show soundV l = .tuple #[.agg (sumC (if accE l = 0 then sumA l else 0)).toArray, .int .i64 (accE l)] from rfl]
  refine lM (k:=lP pX (k:=lP pX (k:=?_)))
  refine lO (W_alloc rfl rfl rfl ty_ze_169 fun b4 => ?_)
  refine lO (W_storeAll rfl rfl rfl rfl ty_ag_169 (rfl) (sumC_one _) .h0 (rfl) (lA (k:=?_)))
  refine lQ (cE 0 rfl (cE 2 rfl (cE 3 rfl (cE 4 rfl (cE 5 rfl .nil))))) (rS (rT (lM (k:=lP pNe (k:=?_)))))
  refine lQ (cE 0 rfl (cE 2 rfl (cE 3 rfl (cE 4 rfl (cE 5 rfl (cE 16 rfl .nil)))))) ?_
  refine R_condP rfl (fun he => ?_) (fun he => ?_)
  ·skip
   have h9e : newE l = accE l := newE_bad hbig he
   have h9 : newE l ≠ 0 := by rw [h9e]; exact he
   refine rT ?_
   refine lP (P_buildStruct rfl ty_pl_30 ty_ze_30 rfl rfl (rfl)) (k:=?_)
   refine E_as (t := 17) (v' := .agg (ledV (.slice none 0 0) (.slice none 0 0) 0 0).toArray) rfl (rfl) (lM (k:=?_))
   refine lO (W_storeAll rfl rfl rfl rfl ty_ag_30 (rfl) (ledV_one _ _ _ _ rfl rfl) .h1 (rfl) (lA (k:=?_)))
   refine lQ (cE 0 rfl (cE 2 rfl (cE 3 rfl (cE 4 rfl .nil)))) (R_ret (Q_then_ret ?_))
   exact R_end (rs2 := [ownS 50 5 (.slice none 0 0) ((newL8 l).acc.length) (rc ((newL8 l).acc))]) rfl rfl (.cell rfl (Rds.loadVar ty_ag_30 (Rds.blk .h1) rfl) (.tmp rfl .nil)) (⟨.slice none 0 0, by rw [(newL8_bad' h9).2]; rw [h9e]; rfl, rfl⟩) (Weak.trans (Weak.newNil (T := 50) (sz := 5)) (Weak.keep_to (fun h hh => by rw [(newL8_bad' h9).1]; exact hh)))
  ·skip
   have he : accE l = 0 := Classical.not_not.1 he
   have hSn := sumA_nn hok
   have hS := sumA_le l.length (Nat.le_refl _) he
   rw [List.take_length, hms] at hS
   rw [if_pos he]
   refine R_skip (qT (rS (rT (lP (pF ty_fl_169_0) (k:=lV (vB ty_sc_23 .h0) (k:=lP pGt (k:=?_)))))))
   refine E_bool (t := 21) rfl (fun hh => ?_) (fun hh => ?_)
   ·skip
    have hh := of_decide_eq_true hh
    have hbs : MS < sumA l := by omega
    refine lM (k:=lN (k:=lN (k:=lN (k:=lP pK (k:=?_)))))
    refine lQ (cE 0 rfl (cE 2 rfl (cE 3 rfl (cE 4 rfl (cE 26 rfl .nil))))) (kT (k:=rT ?_))
    refine lP (P_buildStruct rfl ty_pl_30 ty_ze_30 rfl rfl (rfl)) (k:=?_)
    refine E_as (t := 27) (v' := .agg (ledV (.slice none 0 0) (.slice none 0 0) 0 0).toArray) rfl (rfl) ?_
    refine lO (W_storeAll rfl rfl rfl rfl ty_ag_30 (rfl) (ledV_one _ _ _ _ rfl rfl) .h1 (rfl) (lA (k:=?_)))
    refine lQ (cE 0 rfl (cE 2 rfl (cE 3 rfl (cE 4 rfl .nil)))) (R_ret (Q_then_ret ?_))
    have h9 : newE l ≠ 0 := by rw [newE_sum hbig he hbs]; decide
    exact R_end (rs2 := [ownS 50 5 (.slice none 0 0) ((newL8 l).acc.length) (rc ((newL8 l).acc))]) rfl rfl (.cell rfl (Rds.loadVar ty_ag_30 (Rds.blk .h1) rfl) (.tmp rfl .nil)) (⟨.slice none 0 0, by rw [(newL8_bad' h9).2]; rw [newE_sum hbig he hbs]; rfl, rfl⟩) (Weak.trans (Weak.newNil (T := 50) (sz := 5)) (Weak.keep_to (fun h hh => by rw [(newL8_bad' h9).1]; exact hh)))
   ·skip
    have hh := of_decide_eq_false hh
    have hlow : sumA l % 18446744073709551616 = sumA l := by omega
    refine lM (k:=lP (pF ty_fl_169_1) (k:=lV (vB ty_sc_23 .h0) (k:=?_)))
    refine E_as (t := 24) (v' := .int .u64 (sumA l)) rfl (by rw [hlow]) (lP pGt (k:=lP pK (k:=?_)))
    refine lQ (cE 0 rfl (cE 2 rfl (cE 3 rfl (cE 4 rfl (cE 26 rfl .nil))))) ?_
    refine R_condP rfl (fun hs => ?_) (fun hs => ?_)
    ·skip
     have hbs : MS < sumA l := hs
     refine rT ?_
     refine lP (P_buildStruct rfl ty_pl_30 ty_ze_30 rfl rfl (rfl)) (k:=?_)
     refine E_as (t := 27) (v' := .agg (ledV (.slice none 0 0) (.slice none 0 0) 0 0).toArray) rfl (rfl) ?_
     refine lO (W_storeAll rfl rfl rfl rfl ty_ag_30 (rfl) (ledV_one _ _ _ _ rfl rfl) .h1 (rfl) (lA (k:=?_)))
     refine lQ (cE 0 rfl (cE 2 rfl (cE 3 rfl (cE 4 rfl .nil)))) (R_ret (Q_then_ret ?_))
     have h9 : newE l ≠ 0 := by rw [newE_sum hbig he hbs]; decide
     exact R_end (rs2 := [ownS 50 5 (.slice none 0 0) ((newL8 l).acc.length) (rc ((newL8 l).acc))]) rfl rfl (.cell rfl (Rds.loadVar ty_ag_30 (Rds.blk .h1) rfl) (.tmp rfl .nil)) (⟨.slice none 0 0, by rw [(newL8_bad' h9).2]; rw [newE_sum hbig he hbs]; rfl, rfl⟩) (Weak.trans (Weak.newNil (T := 50) (sz := 5)) (Weak.keep_to (fun h hh => by rw [(newL8_bad' h9).1]; exact hh)))
    ·skip
     have hbs : ¬ MS < sumA l := hs
     have h9 : newE l = 0 := newE_fine hbig he hbs
     refine R_skip (qT (rS ?_))
     refine R_open [(0, 0), (2, 0), (3, 1), (1, 2), (4, 0), (5, 3), (6, 0)] mixed (by kernel_rfl) (QOk.then QOk.body) (oP rfl pM (k:=oP rfl (pF ty_fl_169_1) (k:=oV rfl (vB ty_sc_23 .h0) (k:=?_))))
     refine E_as (t := 31) (v' := .int .u64 (sumA l)) rfl (by rw [hlow]) ?_
     refine O_keep rfl rfl (W_call rfl rfl rfl rfl fn_ca_79 (freshA_ok base c l hc (by omega)) (Split.nil _) (fun w a b _ hb dj m => Sn.pre (Sn.row hpre rfl) w a b ‹_› hb dj m) fun v29 rs1 (e1 : rs1 = _) => ?_)
     subst e1
     refine St.ownForm (p := []) fun ub uc huv huc => ?_
     subst huv
     refine K_keep (Weak.drop (Weak.refl _)) ?_
     refine oP rfl (P_buildStruct rfl ty_pl_30 ty_ze_30 rfl rfl (rfl)) (k:=?_)
     refine E_as (t := 32) (v' := .agg (ledV (.slice ub l.length uc) (.slice none 0 0) 0 (sumA l)).toArray) rfl (rfl) ?_
     refine O_new rfl rfl (W_storeAll rfl rfl rfl rfl ty_ag_30 (rfl) (ledV_one _ _ _ _ rfl rfl) .h2 (rfl) (K_new (oP rfl pA (k:=O_nil ?_))))
     refine St.env (cE 2 rfl (cE 3 rfl .nil)) (qT (R_ret ?_))
     exact R_end (rs2 := [ownS 50 5 (.slice ub l.length uc) ((newL8 l).acc.length) (rc ((newL8 l).acc))]) rfl rfl (.cell rfl (Rds.loadVar ty_ag_30 (Rds.blk .h2) rfl) (.tmp rfl .nil)) (⟨_, by rw [newL8_fine h9, h9]; rfl, rfl⟩) (by rw [newL8_fine h9]; exact Weak.keep (Weak.nil _))
theorem find1_ok {gl : Nat → Obj} (ab : Nat) (a : Int) (x : Acc) : SpecV (cx gl) 162 [.agg x.cells.toArray, .pointer (some ⟨ab, 0, none⟩)] (fun w => w.cell? ⟨ab, 0, none⟩ = some (.int .u64 a)) (.bool (isAc a x)) := by
 refine Spec.enter (C := cx gl) Tryz.func162 rfl 8 rfl rfl fun w0 h0 hsep hsub hpre => ?_
 obtain rfl : h0 = Heap.none := hsep
 show St (cx gl) _ [(0, .agg x.cells.toArray), (1, .pointer (some ⟨ab, 0, none⟩))] _ _
 refine rT ?_
 refine lO (W_box (x.cells) rfl rfl rfl rfl rfl fun b2 => lA (k:=?_))
 refine lQ (cE 1 rfl (cE 2 rfl (cE 3 rfl .nil))) (rT (lP (pF ty_fl_50_0) (k:=lV (vB ty_sc_26 .h0) (k:=?_))))
 refine lV (V_load rfl rfl ty_sc_26 (Rd.old hpre rfl)) (k:=lP pEq (k:=lA (k:=?_)))
 refine lQ (cE 3 rfl .nil) (R_ret ?_)
 exact R_endV rfl rfl (.tmp rfl .nil) (rfl)
theorem ixA_ok {gl : Nat → Obj} (ab : Nat) (a : Int) (base : Option Addr) (c : Nat) (l : List Acc) (hc : l.length ≤ c) (hm : l.length ≤ 3518437208883) : SpecV (cx gl) 161 [.slice base l.length c, .func (.func 162) #[] #[.pointer (some ⟨ab, 0, none⟩)]] (fun w => Row w base (rc l) ∧ w.cell? ⟨ab, 0, none⟩ = some (.int .u64 a)) (.int .i64 (idxG (isAc a) l)) := by
 refine Spec.enter (C := cx gl) Tryz.func161 rfl 19 rfl rfl fun w0 h0 hsep hsub hpre => ?_
 obtain rfl : h0 = Heap.none := hsep
 show St (cx gl) _ [(0, .slice base l.length c), (1, .func (.func 162) #[] #[.pointer (some ⟨ab, 0, none⟩)])] _ _
 refine rT (lA (k:=?_))
 refine L_nil (qT (rS (rT (lM (k:=lP (pL ty_sl_22) (k:=lM (k:=?_)))))))
 refine lQ (cE 0 rfl (cE 1 rfl (cE 4 rfl (cE 7 rfl (cE 8 rfl .nil))))) (R_block ?_)
 refine R_loopE (G := Nat) (cE 0 rfl (cE 1 rfl (cE 4 rfl (cE 7 rfl .nil)))) (fun g => [(8, .int .i64 (g : Int))]) (fun _ => _) (fun g => g ≤ l.length ∧ ∀ j m', j < g → l[j]? = some m' → isAc a m' = false) (fun g => l.length - g) (0) (by show (0) ≤ l.length ∧ ∀ j m', j < (0) → l[j]? = some m' → isAc a m' = false; exact ⟨Nat.zero_le _, fun j _ h => by omega⟩) (by repeat (first | exact .nil | refine .cons rfl ?_ | refine .consE rfl (by first | rfl | (congr 1; omega) | (congr 1; push_cast; omega)) ?_)) (Weak.refl _) ?_
 intro i hinv
 replace hinv : i ≤ l.length ∧ ∀ j m', j < i → l[j]? = some m' → isAc a m' = false := hinv
 show St (cx gl) _ ((8, .int .i64 (i : Int)) :: _) _ _
 obtain ⟨hi, h0⟩ := hinv
 refine rT (lP pLt (k:=?_))
 refine L_nil (qT (rS ?_))
 refine R_condP rfl (fun hlt => ?_) (fun hlt => ?_)
 ·skip
  obtain ⟨x, hx⟩ : ∃ x, l[i]? = some x := ⟨_, List.getElem?_eq_getElem (by omega)⟩
  obtain ⟨pb, pj, rfl, hrow⟩ := hpre.1.some_ (by rw [rc_length]; show 0 < _ * 5; omega)
  refine R_skip (qT (rS (R_block (rT (lM (k:=lA (k:=?_)))))))
  refine L_nil (qT (rT (lM (k:=lM (k:=lM (k:=?_))))))
  refine lP (P_ixs (i) rfl ty_sl_22 rfl rfl (by first | rfl | omega) (by omega)) (k:=?_)
  refine lV (V_loadAgg rfl rfl ty_ag_50 (rds_rc (Rds.row hrow rfl) hx) (rfl)) (k:=?_)
  refine lO (W_callFV (fi := []) (ca := [.pointer (some ⟨ab, 0, none⟩)]) rfl rfl rfl rfl rfl rfl fn_ca_162 (find1_ok ab a x) (fun w nw => (Rd.old hpre.2 rfl) w nw) ?_)
  refine L_nil (qT ?_)
  refine R_cond rfl (fun hp => ?_) (fun hp => ?_)
  ·skip
   refine rT (lM (k:=lA (k:=?_)))
   refine L_nil (qT (R_ret (Q_block_ret (Q_then_ret (Q_then_ret (Q_block_ret (Q_then_ret ?_)))))))
   exact R_endV rfl rfl (.tmp rfl .nil) (by rw [idxG_hit h0 hx hp]; rfl)
  ·skip
   refine R_skip (Q_block (qT (rR ?_)))
   first | (refine L_val rfl rfl rfl (OpP.v (P_addN rfl rfl rfl (by simp only [fits]; omega))) ?_) | (refine L_val rfl rfl rfl (OpP.v (P_add rfl rfl rfl)) ?_)
   refine lM (k:=?_)
   refine L_nil ?_
   exact Q_round (i + 1) (by show (i + 1) ≤ l.length ∧ ∀ j m', j < (i + 1) → l[j]? = some m' → isAc a m' = false; exact ⟨by omega, no_next h0 hx hp⟩) (by show l.length - (i + 1) < l.length - i; omega) (by repeat (first | exact .nil | refine .cons rfl ?_ | refine .consE rfl (by first | rfl | (congr 1; omega) | (congr 1; push_cast; omega)) ?_)) (Weak.refl _)
 ·skip
  refine R_exit (Q_then_exit (Q_then_exit (Q_block_eq ?_)))
  refine St.env (cE 4 rfl .nil) (qT (rT (lA (k:=?_))))
  refine L_nil (qT (R_ret ?_))
  exact R_endV rfl rfl (.tmp rfl .nil) (by rw [idxG_none fun j m' hj hm' => h0 j m' (by omega) hm']; rfl)
theorem find_ok {gl : Nat → Obj} (base : Option Addr) (c : Nat) (l : List Acc) (hc : l.length ≤ c) (hm : l.length ≤ 3518437208883) (r : Value) (hr : r.oneCell' = true) (bu su a : Int) : SpecV (cx gl) 75 [.agg (ledV (.slice base l.length c) r bu su).toArray, .int .u64 a] (fun w => Row w base (rc l)) (findV l a) := by
 refine Spec.enter (C := cx gl) Tryz.func75 rfl 23 rfl rfl fun w0 h0 hsep hsub hpre => ?_
 obtain rfl : h0 = Heap.none := hsep
 show St (cx gl) _ [(0, .agg (ledV (.slice base l.length c) r bu su).toArray), (1, .int .u64 a)] _ _
 refine rT ?_
 refine lO (W_box (ledV (.slice base l.length c) r bu su) rfl rfl rfl rfl rfl fun b2 => ?_)
 refine lO (W_box ([.int .u64 a]) rfl rfl rfl rfl rfl fun b3 => ?_)
 refine lO (W_alloc rfl rfl rfl ty_ze_50 fun b4 => lA (k:=?_))
 refine lQ (cE 2 rfl (cE 3 rfl (cE 4 rfl (cE 5 rfl .nil)))) (rT (lP (pF ty_fl_30_0) (k:=lV (vB ty_sc_22 .h2) (k:=?_))))
 refine lP (P_func rfl rfl rfl) (k:=?_)
 refine lO (W_callV rfl rfl rfl rfl fn_ca_161 (ixA_ok b3 a base c l hc hm) (fun w nw => ⟨(Sn.row hpre rfl).rw_ w nw, Rd.blk .h1 rfl w nw⟩) (lA (k:=?_)))
 refine lQ (cE 2 rfl (cE 3 rfl (cE 4 rfl (cE 5 rfl (cE 6 rfl .nil))))) (rS (rT (lM (k:=lP pLt (k:=?_)))))
 refine E_bool (t := 12) rfl (fun hn => ?_) (fun hn => ?_)
 ·skip
  have hn := of_decide_eq_true hn
  have hno : idxG (isAc a) l < 0 ∨ a = 0 := .inl hn
  refine lM (k:=lN (k:=lN (k:=lP pK (k:=?_))))
  refine lQ (cE 2 rfl (cE 4 rfl (cE 5 rfl (cE 6 rfl (cE 16 rfl .nil))))) (kT (k:=rT ?_))
  refine lP (P_buildStruct rfl ty_pl_50 ty_ze_50 rfl rfl (rfl)) (k:=?_)
  refine E_as (t := 17) (v' := .agg acc0.cells.toArray) rfl (rfl) ?_
  refine lO (W_storeAll rfl rfl rfl rfl ty_ag_50 (rfl) (Rec.one acc0) .h0 (rfl) (lA (k:=?_)))
  refine lQ (cE 2 rfl (cE 4 rfl (cE 5 rfl (cE 6 rfl .nil)))) (R_ret (Q_then_ret ?_))
  exact R_endV rfl rfl (.cell rfl (Rds.loadVar ty_ag_50 (Rds.blk .h0) rfl) (.tmp rfl .nil)) (by rw [findV_no hno]; rfl)
 ·skip
  have hn := of_decide_eq_false hn
  refine lM (k:=lV (vB ty_sc_26 .h1) (k:=lP pEq (k:=lP pK (k:=?_))))
  refine lQ (cE 2 rfl (cE 4 rfl (cE 5 rfl (cE 6 rfl (cE 16 rfl .nil))))) ?_
  refine R_condP rfl (fun hz => ?_) (fun hz => ?_)
  ·skip
   have hno : idxG (isAc a) l < 0 ∨ a = 0 := .inr hz
   refine rT ?_
   refine lP (P_buildStruct rfl ty_pl_50 ty_ze_50 rfl rfl (rfl)) (k:=?_)
   refine E_as (t := 17) (v' := .agg acc0.cells.toArray) rfl (rfl) ?_
   refine lO (W_storeAll rfl rfl rfl rfl ty_ag_50 (rfl) (Rec.one acc0) .h0 (rfl) (lA (k:=?_)))
   refine lQ (cE 2 rfl (cE 4 rfl (cE 5 rfl (cE 6 rfl .nil)))) (R_ret (Q_then_ret ?_))
   exact R_endV rfl rfl (.cell rfl (Rds.loadVar ty_ag_50 (Rds.blk .h0) rfl) (.tmp rfl .nil)) (by rw [findV_no hno]; rfl)
  ·skip
   have hno : ¬ (idxG (isAc a) l < 0 ∨ a = 0) := by omega
   obtain ⟨i, hi, hix⟩ := idxG_pos (p := isAc a) (l := l) (by omega)
   have hx := accAt_get hi
   obtain ⟨pb, pj, rfl, hrow⟩ := hpre.some_ (by rw [rc_length]; show 0 < _ * 5; omega)
   refine E_as (t := 6) (v' := .int .i64 (i : Int)) rfl (by rw [hix]) (R_skip (qT (rT (lP (pF ty_fl_30_0) (k:=lV (vB ty_sc_22 .h2) (k:=lM (k:=?_)))))))
   refine lP (P_ixs (i) rfl ty_sl_22 rfl rfl (by first | rfl | omega) (by omega)) (k:=?_)
   refine lV (V_loadAgg rfl rfl ty_ag_50 (rds_rc (Rds.row hrow rfl) hx) (rfl)) (k:=?_)
   refine lO (W_storeAll rfl rfl rfl rfl ty_ag_50 (rfl) (Rec.one (accAt l i)) .h0 (rfl) (lA (k:=?_)))
   refine lQ (cE 4 rfl (cE 5 rfl .nil)) (R_ret ?_)
   exact R_endV rfl rfl (.cell rfl (Rds.loadVar ty_ag_50 (Rds.blk .h0) rfl) (.tmp rfl .nil)) (by rw [findV_yes hno, hix]; rfl)
end Go.Proofs.YtcngmkjdpoiiaaaGreatDoor

/- Walks: slices.Insert. Printed by gen.py. -/
set_option maxRecDepth 100000
namespace Go.Proofs.YtcngmkjdpoiiaaaGreatDoor
open Go Go.RowKit Go.Proofs
theorem insA_ov (args : Array Value) (w : World) : (callFunc 214 args).run Tryz.prog w = ((Extern.SlicesOverlaps.overlaps #[22, 22] #[4] args).run Tryz.prog w).andThen fun v w' => .ok (.value v) w' := run_callFunc_extern (fn := Tryz.f214) Tryz.func214 (by kernel_rfl) (by kernel_rfl) (by kernel_rfl) (e := Extern.SlicesOverlaps.overlaps #[22, 22] #[4]) (by kernel_rfl) args w
set_option maxHeartbeats 1000000 in
theorem insA_ok {gl : Nat → Obj} (sb : Option Addr) (sc : Nat) (l : List Acc) (j : Nat) (y : Acc) (lb : Nat) (hj0 : j ≤ l.length) (hsc : l.length ≤ sc) (hm : l.length ≤ 1759218604441) : Spec (cx gl) 153 [.slice sb l.length sc, .int .i64 (j : Int), .slice (some ⟨lb, 0, none⟩) 1 1] (fun _ _ => True) [ownS 50 5 (.slice sb l.length sc) (l.length) (rc (l)), blkZ lb (Rec.cells y) 50] (fun v rs => rs = [ownS 50 5 (v) (l.length + 1) (rc (insL l j y))]) := by
 refine Spec.enter (C := cx gl) Tryz.func153 rfl 95 rfl rfl fun w0 h0 hsep hsub hpre => ?_
 show St (cx gl) _ [(0, .slice sb l.length sc), (1, .int .i64 (j : Int)), (2, .slice (some ⟨lb, 0, none⟩) 1 1)] _ _
 refine rT (lA (k:=?_))
 refine L_nil (qT (rT (lM (k:=lM (k:=?_)))))
 refine lP (P_slice j l.length rfl ty_sl_22 rfl ⟨_, rfl⟩ rfl (by omega) (by omega)) (k:=?_)
 refine lQ (cE 0 rfl (cE 1 rfl (cE 2 rfl (cE 6 rfl .nil)))) (rT (lM (k:=lP (pL ty_sl_22) (k:=lA (k:=?_)))))
 refine lQ (cE 0 rfl (cE 1 rfl (cE 2 rfl (cE 6 rfl (cE 7 rfl .nil))))) (rS (rT (lM (k:=lP pEq (k:=?_)))))
 refine E_false (t := 16) rfl (rfl) ?_
 refine lQ (cE 0 rfl (cE 1 rfl (cE 2 rfl (cE 6 rfl (cE 7 rfl (cE 16 rfl .nil)))))) (kF (k:=R_skip (qT (rT (lM (k:=lP (pL ty_sl_22) (k:=lA (k:=?_))))))))
 refine lQ (cE 0 rfl (cE 1 rfl (cE 2 rfl (cE 6 rfl (cE 7 rfl (cE 8 rfl .nil)))))) (rS (rT (lM (k:=lM (k:=lP pEq (k:=?_))))))
 refine lQ (cE 0 rfl (cE 1 rfl (cE 2 rfl (cE 6 rfl (cE 7 rfl (cE 8 rfl (cE 22 rfl .nil))))))) ?_
 refine R_condP rfl (fun heq => ?_) (fun heq => ?_)
 ·skip
  obtain rfl : j = l.length := by omega
  refine rT (lM (k:=lM (k:=?_)))
  refine lO (W_append (p := []) rfl rfl rfl ty_sl_22 ty_ap_22 ty_src_22 rfl rfl rfl (Src.slice (sz := 5) (m := 1) (news := Rec.cells y) (Rds.blkZ .h1) (Rec.len y) (Rec.one y)) (by omega) (by simp only [maxLen]; omega) fun v25 => lA (k:=?_))
  refine lQ (cE 0 rfl (cE 1 rfl (cE 2 rfl (cE 6 rfl (cE 7 rfl (cE 8 rfl .nil)))))) (R_ret (Q_then_ret ?_))
  exact R_end (rs2 := _) rfl rfl (.tmp rfl .nil) (rfl) (ownS.to2 rfl (by rw [insL_end, rc_append, rc_single]))
 ·skip
  have hj : j < l.length := by omega
  refine St.openOwnF (p := []) (by omega) fun b cap junk hcap hcm hcl hv => ?_
  simp only [Value.slice.injEq, true_and] at hv
  obtain ⟨rfl, rfl⟩ := hv
  rw [List.length_append, rc_length] at hcl
  have hcl : sc * 5 ≤ l.length * 5 + junk.length := hcl
  refine R_skip (qT (rS (rT (lM (k:=lM (k:=?_))))))
  first | (refine L_val rfl rfl rfl (OpP.v (P_addN rfl rfl rfl (by simp only [fits]; omega))) ?_) | (refine L_val rfl rfl rfl (OpP.v (P_add rfl rfl rfl)) ?_)
  refine lM (k:=?_)
  refine lP (P_cap rfl ty_sl_22 rfl) (k:=lP pGt (k:=?_))
  refine lQ (cE 0 rfl (cE 1 rfl (cE 2 rfl (cE 6 rfl (cE 7 rfl (cE 8 rfl (cE 31 rfl .nil))))))) ?_
  refine R_condP rfl (fun hg => ?_) (fun hg => ?_)
  ·skip
   have hg' : sc < l.length + 1 := by omega
   refine rT (lM (k:=lM (k:=?_)))
   refine lP (P_slice 0 j rfl ty_sl_22 rfl rfl ⟨_, rfl⟩ (by omega) (by omega)) (k:=?_)
   refine E_as (t := 34) (v' := .slice (some ⟨b, 0, none⟩) (j) (sc)) rfl (by unfold sliced; rw [if_neg (by omega)]; simp only [Option.map_some, add_zero_off, Nat.zero_add, Value.slice.injEq, true_and, and_true, Nat.sub_zero, Nat.add_sub_add_right]; try omega) (lM (k:=lM (k:=?_)))
   first | (refine L_val rfl rfl rfl (OpP.v (P_addN rfl rfl rfl (by simp only [fits]; omega))) ?_) | (refine L_val rfl rfl rfl (OpP.v (P_add rfl rfl rfl)) ?_)
   refine lM (k:=?_)
   first | (refine L_val rfl rfl rfl (OpP.v (P_subN rfl rfl rfl (by simp only [fits]; omega))) ?_) | (refine L_val rfl rfl rfl (OpP.v (P_sub rfl rfl rfl)) ?_)
   refine E_as (t := 39) (v' := .int .i64 ((l.length + 1 - j : Nat) : Int)) rfl (by congr 1; omega) ?_
   refine lO (W_appendZ (i := j) (k := l.length + 1 - j) (olds := rc (l.take j)) rfl rfl rfl ty_sl_22 ty_ap_22 ty_int_3 rfl rfl (cells_head .h0 (by omega) rfl) (by omega) (by decide) (by omega) (by omega) (by simp only [maxLen]; omega) fun b2 cap2 zs junk2 hzl hc2 hcm2 hcl2 => ?_)
   refine E_as (t := 40) (v' := .slice (some ⟨b2, 0, none⟩) (l.length + 1) cap2) rfl (by congr 1; omega) ?_
   have hol : (rc (l.take j)).length = j * 5 := rc_take_len (by omega)
   rw [hol, hzl] at hcl2
   refine lA (k:=?_)
   refine lQ (cE 0 rfl (cE 1 rfl (cE 2 rfl (cE 6 rfl (cE 7 rfl (cE 8 rfl (cE 9 rfl .nil))))))) (rT (lM (k:=lM (k:=?_))))
   refine lP (P_slice j (l.length + 1) rfl ty_sl_22 rfl ⟨_, rfl⟩ rfl (by omega) (by omega)) (k:=?_)
   refine E_as (t := 43) (v' := .slice (some ⟨b2, j * 5, none⟩) (l.length + 1 - j) (cap2 - j)) rfl (by unfold sliced; rw [if_neg (by omega)]; simp only [Option.map_some, add_zero_off, Nat.zero_add, Value.slice.injEq, true_and, and_true, Nat.sub_zero, Nat.add_sub_add_right]; try omega) (lM (k:=?_))
   refine lO (W_copyN (k := 1) (news := Rec.cells y) rfl rfl rfl ty_sl_22 rfl rfl rfl (by show 1 = min 1 (l.length + 1 - j); omega) (cells_one .h2 rfl) (Rec.one y) .h0 (by rw [List.length_append, List.length_append, hol, hzl, Rec.len]; show j * 5 + 5 ≤ j * 5 + (l.length + 1 - j) * 5 + _; omega) ?_)
   refine lQ (cE 0 rfl (cE 1 rfl (cE 2 rfl (cE 6 rfl (cE 7 rfl (cE 8 rfl (cE 9 rfl .nil))))))) (rS ?_)
   refine R_open [(0, 0), (1, 0), (2, 0), (3, 0), (4, 0), (5, 0), (6, 0), (7, 0), (8, 3)] mixed (by kernel_rfl) (QOk.then (QOk.then QOk.body)) (oP rfl pM (k:=oP rfl pM (k:=oP rfl pM (k:=?_))))
   first | (refine O_pure rfl rfl rfl rfl (P_addN rfl rfl rfl (by simp only [fits]; omega)) ?_) | (refine O_pure rfl rfl rfl rfl (P_add rfl rfl rfl) ?_)
   refine oP rfl (P_slice (j + 1) (l.length + 1) rfl ty_sl_22 rfl ⟨_, rfl⟩ rfl (by omega) (by omega)) (k:=?_)
   refine E_as (t := 50) (v' := .slice (some ⟨b2, (j + 1) * 5, none⟩) (l.length - j) (cap2 - (j + 1))) rfl (by unfold sliced; rw [if_neg (by omega)]; simp only [Option.map_some, add_zero_off, Nat.zero_add, Value.slice.injEq, true_and, and_true, Nat.sub_zero, Nat.add_sub_add_right]; try omega) (oP rfl pM (k:=oP rfl pM (k:=?_)))
   refine oP rfl (P_slice j l.length rfl ty_sl_22 rfl ⟨_, rfl⟩ rfl (by omega) (by omega)) (k:=?_)
   refine E_as (t := 53) (v' := .slice (some ⟨b, j * 5, none⟩) (l.length - j) (sc - j)) rfl (by unfold sliced; rw [if_neg (by omega)]; simp only [Option.map_some, add_zero_off, Nat.zero_add, Value.slice.injEq, true_and, and_true, Nat.sub_zero, Nat.add_sub_add_right]; try omega) ?_
   refine O_new rfl rfl (W_copyN (k := l.length - j) (news := rc (l.drop j)) rfl rfl rfl ty_sl_22 rfl rfl rfl (by show l.length - j = min (l.length - j) (l.length - j); omega) (cells_tail .h1 (by omega) rfl) (rc_one _) .h0 (by rw [length_splice _ _ _ (by rw [List.length_append, List.length_append, hol, hzl, Rec.len]; show j * 5 + 5 ≤ j * 5 + (l.length + 1 - j) * 5 + _; omega), List.length_append, List.length_append, hol, hzl, rc_drop_len]; show (j + 1) * 5 + (l.length - j) * 5 ≤ j * 5 + (l.length + 1 - j) * 5 + _; omega) (K_new (O_nil ?_)))
   refine St.env (cE 0 rfl (cE 1 rfl (cE 2 rfl (cE 6 rfl (cE 7 rfl (cE 8 rfl (cE 9 rfl .nil))))))) (qT (rT (lM (k:=lA (k:=?_)))))
   refine lQ (cE 0 rfl (cE 1 rfl (cE 2 rfl (cE 6 rfl (cE 7 rfl (cE 8 rfl .nil)))))) (R_ret (Q_then_ret ?_))
   exact R_end (rs2 := _) rfl rfl (.tmp rfl .nil) (rfl) (by have h9 : splice (splice (rc (l.take j) ++ zs ++ junk2) (j * 5) (Rec.cells y)) ((j + 1) * 5) (rc (l.drop j)) = rc (insL l j y) ++ junk2 := ins_there (by omega) y hzl; rw [h9]; exact Weak.trans (Weak.own_close (n := l.length + 1) (by rw [rc_length, insL_length (by omega)]; rfl) (by omega) hcm2 (by rw [rc_length, insL_length (by omega)]; show cap2 * 5 ≤ (l.length + 1) * 5 + _; omega)) (Weak.keep (Weak.nil _)))
  ·skip
   have hg' : l.length + 1 ≤ sc := by omega
   have hjk : 5 ≤ junk.length := by have := Nat.mul_le_mul_right 5 hg'; omega
   refine R_skip (qT (rT (lM (k:=lM (k:=lM (k:=?_))))))
   first | (refine L_val rfl rfl rfl (OpP.v (P_addN rfl rfl rfl (by simp only [fits]; omega))) ?_) | (refine L_val rfl rfl rfl (OpP.v (P_add rfl rfl rfl)) ?_)
   refine lP (P_slice 0 (l.length + 1) rfl ty_sl_22 rfl rfl ⟨_, rfl⟩ (by omega) (by omega)) (k:=?_)
   refine E_as (t := 60) (v' := .slice (some ⟨b, 0, none⟩) (l.length + 1) (sc)) rfl (by unfold sliced; rw [if_neg (by omega)]; simp only [Option.map_some, add_zero_off, Nat.zero_add, Value.slice.injEq, true_and, and_true, Nat.sub_zero, Nat.add_sub_add_right]; try omega) (lA (k:=?_))
   refine lQ (cE 0 rfl (cE 1 rfl (cE 2 rfl (cE 6 rfl (cE 7 rfl (cE 8 rfl .nil)))))) (rS (rS ?_))
   refine St.res (rs' := [blkZ lb (Rec.cells y) 50, blk b (rc l ++ junk) 50]) (Weak.p1 (Weak.keep (Weak.nil _))) (rR (lM (k:=lM (k:=lM (k:=lM (k:=?_))))))
   first | (refine L_val rfl rfl rfl (OpP.v (P_addN rfl rfl rfl (by simp only [fits]; omega))) ?_) | (refine L_val rfl rfl rfl (OpP.v (P_add rfl rfl rfl)) ?_)
   refine lP (P_slice (j + 1) (l.length + 1) rfl ty_sl_22 rfl ⟨_, rfl⟩ rfl (by omega) (by omega)) (k:=?_)
   refine E_as (t := 66) (v' := .slice (some ⟨b, (j + 1) * 5, none⟩) (l.length - j) (sc - (j + 1))) rfl (by unfold sliced; rw [if_neg (by omega)]; simp only [Option.map_some, add_zero_off, Nat.zero_add, Value.slice.injEq, true_and, and_true, Nat.sub_zero, Nat.add_sub_add_right]; try omega) ?_
   refine lV (V_apart rfl rfl insA_ov ty_sl_22 (by rw [List.length_append, rc_length]; show l.length * 5 + _ ≠ 0; omega)) (k:=lP pO (k:=?_))
   refine E_true (t := 68) rfl (rfl) ?_
   refine lQ (cE 0 rfl (cE 1 rfl (cE 2 rfl (cE 6 rfl (cE 7 rfl (cE 8 rfl (cE 68 rfl .nil))))))) (kT (k:=rS ?_))
   refine R_open [(0, 0), (1, 0), (2, 0), (3, 0), (4, 0), (5, 0), (6, 0), (7, 0), (8, 3)] mixed (by kernel_rfl) (QOk.then (QOk.then QOk.body)) (oP rfl pM (k:=oP rfl pM (k:=oP rfl pM (k:=?_))))
   first | (refine O_pure rfl rfl rfl rfl (P_addN rfl rfl rfl (by simp only [fits]; omega)) ?_) | (refine O_pure rfl rfl rfl rfl (P_add rfl rfl rfl) ?_)
   refine oP rfl (P_slice (j + 1) (l.length + 1) rfl ty_sl_22 rfl ⟨_, rfl⟩ rfl (by omega) (by omega)) (k:=?_)
   refine E_as (t := 73) (v' := .slice (some ⟨b, (j + 1) * 5, none⟩) (l.length - j) (sc - (j + 1))) rfl (by unfold sliced; rw [if_neg (by omega)]; simp only [Option.map_some, add_zero_off, Nat.zero_add, Value.slice.injEq, true_and, and_true, Nat.sub_zero, Nat.add_sub_add_right]; try omega) (oP rfl pM (k:=oP rfl pM (k:=?_)))
   refine oP rfl (P_slice j (l.length + 1) rfl ty_sl_22 rfl ⟨_, rfl⟩ rfl (by omega) (by omega)) (k:=?_)
   refine E_as (t := 76) (v' := .slice (some ⟨b, j * 5, none⟩) (l.length + 1 - j) (sc - j)) rfl (by unfold sliced; rw [if_neg (by omega)]; simp only [Option.map_some, add_zero_off, Nat.zero_add, Value.slice.injEq, true_and, and_true, Nat.sub_zero, Nat.add_sub_add_right]; try omega) ?_
   refine O_new rfl rfl (W_copyN (k := l.length - j) (news := rc (l.drop j)) rfl rfl rfl ty_sl_22 rfl rfl rfl (by show l.length - j = min (l.length + 1 - j) (l.length - j); omega) (cells_tail .h1 (by omega) rfl) (rc_one _) .h1 (by rw [rc_drop_len, List.length_append, rc_length]; show (j + 1) * 5 + (l.length - j) * 5 ≤ l.length * 5 + _; omega) (K_new (O_nil ?_)))
   refine St.env (cE 0 rfl (cE 1 rfl (cE 2 rfl (cE 6 rfl (cE 7 rfl (cE 8 rfl .nil)))))) (qT (rT (lM (k:=lM (k:=?_)))))
   refine lP (P_slice j (l.length + 1) rfl ty_sl_22 rfl ⟨_, rfl⟩ rfl (by omega) (by omega)) (k:=?_)
   refine E_as (t := 80) (v' := .slice (some ⟨b, j * 5, none⟩) (l.length + 1 - j) (sc - j)) rfl (by unfold sliced; rw [if_neg (by omega)]; simp only [Option.map_some, add_zero_off, Nat.zero_add, Value.slice.injEq, true_and, and_true, Nat.sub_zero, Nat.add_sub_add_right]; try omega) (lM (k:=?_))
   refine lO (W_copyN (k := 1) (news := Rec.cells y) rfl rfl rfl ty_sl_22 rfl rfl rfl (by show 1 = min 1 (l.length + 1 - j); omega) (cells_one .h0 rfl) (Rec.one y) .h1 (by rw [length_splice _ _ _ (by rw [rc_drop_len, List.length_append, rc_length]; show (j + 1) * 5 + (l.length - j) * 5 ≤ l.length * 5 + _; omega), List.length_append, rc_length, Rec.len]; show j * 5 + 5 ≤ l.length * 5 + _; omega) ?_)
   refine lQ (cE 0 rfl (cE 1 rfl (cE 2 rfl (cE 6 rfl (cE 7 rfl (cE 8 rfl .nil)))))) (rT (lM (k:=lA (k:=?_))))
   refine lQ (cE 0 rfl (cE 1 rfl (cE 2 rfl (cE 6 rfl (cE 7 rfl (cE 8 rfl .nil)))))) (R_ret (Q_then_ret ?_))
   exact R_end (rs2 := _) rfl rfl (.tmp rfl .nil) (rfl) (Weak.drop (by have h9 : splice (splice (rc l ++ junk) ((j + 1) * 5) (rc (l.drop j))) (j * 5) (Rec.cells y) = rc (insL l j y) ++ junk.drop 5 := ins_here (by omega) y hjk; rw [h9]; exact Weak.trans (Weak.own_close (n := l.length + 1) (by rw [rc_length, insL_length (by omega)]; rfl) hg' hcm (by rw [rc_length, insL_length (by omega), List.length_drop]; show sc * 5 ≤ (l.length + 1) * 5 + (junk.length - 5); omega)) (Weak.keep (Weak.nil _))))
theorem insR_ov (args : Array Value) (w : World) : (callFunc 217 args).run Tryz.prog w = ((Extern.SlicesOverlaps.overlaps #[28, 28] #[4] args).run Tryz.prog w).andThen fun v w' => .ok (.value v) w' := run_callFunc_extern (fn := Tryz.f217) Tryz.func217 (by kernel_rfl) (by kernel_rfl) (by kernel_rfl) (e := Extern.SlicesOverlaps.overlaps #[28, 28] #[4]) (by kernel_rfl) args w
set_option maxHeartbeats 1000000 in
theorem insR_ok {gl : Nat → Obj} (sb : Option Addr) (sc : Nat) (l : List Rel) (j : Nat) (y : Rel) (lb : Nat) (hj0 : j ≤ l.length) (hsc : l.length ≤ sc) (hm : l.length ≤ 2199023255552) : Spec (cx gl) 155 [.slice sb l.length sc, .int .i64 (j : Int), .slice (some ⟨lb, 0, none⟩) 1 1] (fun _ _ => True) [ownS 175 4 (.slice sb l.length sc) (l.length) (rc (l)), blkZ lb (Rec.cells y) 175] (fun v rs => rs = [ownS 175 4 (v) (l.length + 1) (rc (insL l j y))]) := by
 refine Spec.enter (C := cx gl) Tryz.func155 rfl 95 rfl rfl fun w0 h0 hsep hsub hpre => ?_
 show St (cx gl) _ [(0, .slice sb l.length sc), (1, .int .i64 (j : Int)), (2, .slice (some ⟨lb, 0, none⟩) 1 1)] _ _
 refine rT (lA (k:=?_))
 refine L_nil (qT (rT (lM (k:=lM (k:=?_)))))
 refine lP (P_slice j l.length rfl ty_sl_28 rfl ⟨_, rfl⟩ rfl (by omega) (by omega)) (k:=?_)
 refine lQ (cE 0 rfl (cE 1 rfl (cE 2 rfl (cE 6 rfl .nil)))) (rT (lM (k:=lP (pL ty_sl_28) (k:=lA (k:=?_)))))
 refine lQ (cE 0 rfl (cE 1 rfl (cE 2 rfl (cE 6 rfl (cE 7 rfl .nil))))) (rS (rT (lM (k:=lP pEq (k:=?_)))))
 refine E_false (t := 16) rfl (rfl) ?_
 refine lQ (cE 0 rfl (cE 1 rfl (cE 2 rfl (cE 6 rfl (cE 7 rfl (cE 16 rfl .nil)))))) (kF (k:=R_skip (qT (rT (lM (k:=lP (pL ty_sl_28) (k:=lA (k:=?_))))))))
 refine lQ (cE 0 rfl (cE 1 rfl (cE 2 rfl (cE 6 rfl (cE 7 rfl (cE 8 rfl .nil)))))) (rS (rT (lM (k:=lM (k:=lP pEq (k:=?_))))))
 refine lQ (cE 0 rfl (cE 1 rfl (cE 2 rfl (cE 6 rfl (cE 7 rfl (cE 8 rfl (cE 22 rfl .nil))))))) ?_
 refine R_condP rfl (fun heq => ?_) (fun heq => ?_)
 ·skip
  obtain rfl : j = l.length := by omega
  refine rT (lM (k:=lM (k:=?_)))
  refine lO (W_append (p := []) rfl rfl rfl ty_sl_28 ty_ap_28 ty_src_28 rfl rfl rfl (Src.slice (sz := 4) (m := 1) (news := Rec.cells y) (Rds.blkZ .h1) (Rec.len y) (Rec.one y)) (by omega) (by simp only [maxLen]; omega) fun v25 => lA (k:=?_))
  refine lQ (cE 0 rfl (cE 1 rfl (cE 2 rfl (cE 6 rfl (cE 7 rfl (cE 8 rfl .nil)))))) (R_ret (Q_then_ret ?_))
  exact R_end (rs2 := _) rfl rfl (.tmp rfl .nil) (rfl) (ownS.to2 rfl (by rw [insL_end, rc_append, rc_single]))
 ·skip
  have hj : j < l.length := by omega
  refine St.openOwnF (p := []) (by omega) fun b cap junk hcap hcm hcl hv => ?_
  simp only [Value.slice.injEq, true_and] at hv
  obtain ⟨rfl, rfl⟩ := hv
  rw [List.length_append, rc_length] at hcl
  have hcl : sc * 4 ≤ l.length * 4 + junk.length := hcl
  refine R_skip (qT (rS (rT (lM (k:=lM (k:=?_))))))
  first | (refine L_val rfl rfl rfl (OpP.v (P_addN rfl rfl rfl (by simp only [fits]; omega))) ?_) | (refine L_val rfl rfl rfl (OpP.v (P_add rfl rfl rfl)) ?_)
  refine lM (k:=?_)
  refine lP (P_cap rfl ty_sl_28 rfl) (k:=lP pGt (k:=?_))
  refine lQ (cE 0 rfl (cE 1 rfl (cE 2 rfl (cE 6 rfl (cE 7 rfl (cE 8 rfl (cE 31 rfl .nil))))))) ?_
  refine R_condP rfl (fun hg => ?_) (fun hg => ?_)
  ·skip
   have hg' : sc < l.length + 1 := by omega
   refine rT (lM (k:=lM (k:=?_)))
   refine lP (P_slice 0 j rfl ty_sl_28 rfl rfl ⟨_, rfl⟩ (by omega) (by omega)) (k:=?_)
   refine E_as (t := 34) (v' := .slice (some ⟨b, 0, none⟩) (j) (sc)) rfl (by unfold sliced; rw [if_neg (by omega)]; simp only [Option.map_some, add_zero_off, Nat.zero_add, Value.slice.injEq, true_and, and_true, Nat.sub_zero, Nat.add_sub_add_right]; try omega) (lM (k:=lM (k:=?_)))
   first | (refine L_val rfl rfl rfl (OpP.v (P_addN rfl rfl rfl (by simp only [fits]; omega))) ?_) | (refine L_val rfl rfl rfl (OpP.v (P_add rfl rfl rfl)) ?_)
   refine lM (k:=?_)
   first | (refine L_val rfl rfl rfl (OpP.v (P_subN rfl rfl rfl (by simp only [fits]; omega))) ?_) | (refine L_val rfl rfl rfl (OpP.v (P_sub rfl rfl rfl)) ?_)
   refine E_as (t := 39) (v' := .int .i64 ((l.length + 1 - j : Nat) : Int)) rfl (by congr 1; omega) ?_
   refine lO (W_appendZ (i := j) (k := l.length + 1 - j) (olds := rc (l.take j)) rfl rfl rfl ty_sl_28 ty_ap_28 ty_int_3 rfl rfl (cells_head .h0 (by omega) rfl) (by omega) (by decide) (by omega) (by omega) (by simp only [maxLen]; omega) fun b2 cap2 zs junk2 hzl hc2 hcm2 hcl2 => ?_)
   refine E_as (t := 40) (v' := .slice (some ⟨b2, 0, none⟩) (l.length + 1) cap2) rfl (by congr 1; omega) ?_
   have hol : (rc (l.take j)).length = j * 4 := rc_take_len (by omega)
   rw [hol, hzl] at hcl2
   refine lA (k:=?_)
   refine lQ (cE 0 rfl (cE 1 rfl (cE 2 rfl (cE 6 rfl (cE 7 rfl (cE 8 rfl (cE 9 rfl .nil))))))) (rT (lM (k:=lM (k:=?_))))
   refine lP (P_slice j (l.length + 1) rfl ty_sl_28 rfl ⟨_, rfl⟩ rfl (by omega) (by omega)) (k:=?_)
   refine E_as (t := 43) (v' := .slice (some ⟨b2, j * 4, none⟩) (l.length + 1 - j) (cap2 - j)) rfl (by unfold sliced; rw [if_neg (by omega)]; simp only [Option.map_some, add_zero_off, Nat.zero_add, Value.slice.injEq, true_and, and_true, Nat.sub_zero, Nat.add_sub_add_right]; try omega) (lM (k:=?_))
   refine lO (W_copyN (k := 1) (news := Rec.cells y) rfl rfl rfl ty_sl_28 rfl rfl rfl (by show 1 = min 1 (l.length + 1 - j); omega) (cells_one .h2 rfl) (Rec.one y) .h0 (by rw [List.length_append, List.length_append, hol, hzl, Rec.len]; show j * 4 + 4 ≤ j * 4 + (l.length + 1 - j) * 4 + _; omega) ?_)
   refine lQ (cE 0 rfl (cE 1 rfl (cE 2 rfl (cE 6 rfl (cE 7 rfl (cE 8 rfl (cE 9 rfl .nil))))))) (rS ?_)
   refine R_open [(0, 0), (1, 0), (2, 0), (3, 0), (4, 0), (5, 0), (6, 0), (7, 0), (8, 3)] mixed (by kernel_rfl) (QOk.then (QOk.then QOk.body)) (oP rfl pM (k:=oP rfl pM (k:=oP rfl pM (k:=?_))))
   first | (refine O_pure rfl rfl rfl rfl (P_addN rfl rfl rfl (by simp only [fits]; omega)) ?_) | (refine O_pure rfl rfl rfl rfl (P_add rfl rfl rfl) ?_)
   refine oP rfl (P_slice (j + 1) (l.length + 1) rfl ty_sl_28 rfl ⟨_, rfl⟩ rfl (by omega) (by omega)) (k:=?_)
   refine E_as (t := 50) (v' := .slice (some ⟨b2, (j + 1) * 4, none⟩) (l.length - j) (cap2 - (j + 1))) rfl (by unfold sliced; rw [if_neg (by omega)]; simp only [Option.map_some, add_zero_off, Nat.zero_add, Value.slice.injEq, true_and, and_true, Nat.sub_zero, Nat.add_sub_add_right]; try omega) (oP rfl pM (k:=oP rfl pM (k:=?_)))
   refine oP rfl (P_slice j l.length rfl ty_sl_28 rfl ⟨_, rfl⟩ rfl (by omega) (by omega)) (k:=?_)
   refine E_as (t := 53) (v' := .slice (some ⟨b, j * 4, none⟩) (l.length - j) (sc - j)) rfl (by unfold sliced; rw [if_neg (by omega)]; simp only [Option.map_some, add_zero_off, Nat.zero_add, Value.slice.injEq, true_and, and_true, Nat.sub_zero, Nat.add_sub_add_right]; try omega) ?_
   refine O_new rfl rfl (W_copyN (k := l.length - j) (news := rc (l.drop j)) rfl rfl rfl ty_sl_28 rfl rfl rfl (by show l.length - j = min (l.length - j) (l.length - j); omega) (cells_tail .h1 (by omega) rfl) (rc_one _) .h0 (by rw [length_splice _ _ _ (by rw [List.length_append, List.length_append, hol, hzl, Rec.len]; show j * 4 + 4 ≤ j * 4 + (l.length + 1 - j) * 4 + _; omega), List.length_append, List.length_append, hol, hzl, rc_drop_len]; show (j + 1) * 4 + (l.length - j) * 4 ≤ j * 4 + (l.length + 1 - j) * 4 + _; omega) (K_new (O_nil ?_)))
   refine St.env (cE 0 rfl (cE 1 rfl (cE 2 rfl (cE 6 rfl (cE 7 rfl (cE 8 rfl (cE 9 rfl .nil))))))) (qT (rT (lM (k:=lA (k:=?_)))))
   refine lQ (cE 0 rfl (cE 1 rfl (cE 2 rfl (cE 6 rfl (cE 7 rfl (cE 8 rfl .nil)))))) (R_ret (Q_then_ret ?_))
   exact R_end (rs2 := _) rfl rfl (.tmp rfl .nil) (rfl) (by have h9 : splice (splice (rc (l.take j) ++ zs ++ junk2) (j * 4) (Rec.cells y)) ((j + 1) * 4) (rc (l.drop j)) = rc (insL l j y) ++ junk2 := ins_there (by omega) y hzl; rw [h9]; exact Weak.trans (Weak.own_close (n := l.length + 1) (by rw [rc_length, insL_length (by omega)]; rfl) (by omega) hcm2 (by rw [rc_length, insL_length (by omega)]; show cap2 * 4 ≤ (l.length + 1) * 4 + _; omega)) (Weak.keep (Weak.nil _)))
  ·skip
   have hg' : l.length + 1 ≤ sc := by omega
   have hjk : 4 ≤ junk.length := by have := Nat.mul_le_mul_right 4 hg'; omega
   refine R_skip (qT (rT (lM (k:=lM (k:=lM (k:=?_))))))
   first | (refine L_val rfl rfl rfl (OpP.v (P_addN rfl rfl rfl (by simp only [fits]; omega))) ?_) | (refine L_val rfl rfl rfl (OpP.v (P_add rfl rfl rfl)) ?_)
   refine lP (P_slice 0 (l.length + 1) rfl ty_sl_28 rfl rfl ⟨_, rfl⟩ (by omega) (by omega)) (k:=?_)
   refine E_as (t := 60) (v' := .slice (some ⟨b, 0, none⟩) (l.length + 1) (sc)) rfl (by unfold sliced; rw [if_neg (by omega)]; simp only [Option.map_some, add_zero_off, Nat.zero_add, Value.slice.injEq, true_and, and_true, Nat.sub_zero, Nat.add_sub_add_right]; try omega) (lA (k:=?_))
   refine lQ (cE 0 rfl (cE 1 rfl (cE 2 rfl (cE 6 rfl (cE 7 rfl (cE 8 rfl .nil)))))) (rS (rS ?_))
   refine St.res (rs' := [blkZ lb (Rec.cells y) 175, blk b (rc l ++ junk) 175]) (Weak.p1 (Weak.keep (Weak.nil _))) (rR (lM (k:=lM (k:=lM (k:=lM (k:=?_))))))
   first | (refine L_val rfl rfl rfl (OpP.v (P_addN rfl rfl rfl (by simp only [fits]; omega))) ?_) | (refine L_val rfl rfl rfl (OpP.v (P_add rfl rfl rfl)) ?_)
   refine lP (P_slice (j + 1) (l.length + 1) rfl ty_sl_28 rfl ⟨_, rfl⟩ rfl (by omega) (by omega)) (k:=?_)
   refine E_as (t := 66) (v' := .slice (some ⟨b, (j + 1) * 4, none⟩) (l.length - j) (sc - (j + 1))) rfl (by unfold sliced; rw [if_neg (by omega)]; simp only [Option.map_some, add_zero_off, Nat.zero_add, Value.slice.injEq, true_and, and_true, Nat.sub_zero, Nat.add_sub_add_right]; try omega) ?_
   refine lV (V_apart rfl rfl insR_ov ty_sl_28 (by rw [List.length_append, rc_length]; show l.length * 4 + _ ≠ 0; omega)) (k:=lP pO (k:=?_))
   refine E_true (t := 68) rfl (rfl) ?_
   refine lQ (cE 0 rfl (cE 1 rfl (cE 2 rfl (cE 6 rfl (cE 7 rfl (cE 8 rfl (cE 68 rfl .nil))))))) (kT (k:=rS ?_))
   refine R_open [(0, 0), (1, 0), (2, 0), (3, 0), (4, 0), (5, 0), (6, 0), (7, 0), (8, 3)] mixed (by kernel_rfl) (QOk.then (QOk.then QOk.body)) (oP rfl pM (k:=oP rfl pM (k:=oP rfl pM (k:=?_))))
   first | (refine O_pure rfl rfl rfl rfl (P_addN rfl rfl rfl (by simp only [fits]; omega)) ?_) | (refine O_pure rfl rfl rfl rfl (P_add rfl rfl rfl) ?_)
   refine oP rfl (P_slice (j + 1) (l.length + 1) rfl ty_sl_28 rfl ⟨_, rfl⟩ rfl (by omega) (by omega)) (k:=?_)
   refine E_as (t := 73) (v' := .slice (some ⟨b, (j + 1) * 4, none⟩) (l.length - j) (sc - (j + 1))) rfl (by unfold sliced; rw [if_neg (by omega)]; simp only [Option.map_some, add_zero_off, Nat.zero_add, Value.slice.injEq, true_and, and_true, Nat.sub_zero, Nat.add_sub_add_right]; try omega) (oP rfl pM (k:=oP rfl pM (k:=?_)))
   refine oP rfl (P_slice j (l.length + 1) rfl ty_sl_28 rfl ⟨_, rfl⟩ rfl (by omega) (by omega)) (k:=?_)
   refine E_as (t := 76) (v' := .slice (some ⟨b, j * 4, none⟩) (l.length + 1 - j) (sc - j)) rfl (by unfold sliced; rw [if_neg (by omega)]; simp only [Option.map_some, add_zero_off, Nat.zero_add, Value.slice.injEq, true_and, and_true, Nat.sub_zero, Nat.add_sub_add_right]; try omega) ?_
   refine O_new rfl rfl (W_copyN (k := l.length - j) (news := rc (l.drop j)) rfl rfl rfl ty_sl_28 rfl rfl rfl (by show l.length - j = min (l.length + 1 - j) (l.length - j); omega) (cells_tail .h1 (by omega) rfl) (rc_one _) .h1 (by rw [rc_drop_len, List.length_append, rc_length]; show (j + 1) * 4 + (l.length - j) * 4 ≤ l.length * 4 + _; omega) (K_new (O_nil ?_)))
   refine St.env (cE 0 rfl (cE 1 rfl (cE 2 rfl (cE 6 rfl (cE 7 rfl (cE 8 rfl .nil)))))) (qT (rT (lM (k:=lM (k:=?_)))))
   refine lP (P_slice j (l.length + 1) rfl ty_sl_28 rfl ⟨_, rfl⟩ rfl (by omega) (by omega)) (k:=?_)
   refine E_as (t := 80) (v' := .slice (some ⟨b, j * 4, none⟩) (l.length + 1 - j) (sc - j)) rfl (by unfold sliced; rw [if_neg (by omega)]; simp only [Option.map_some, add_zero_off, Nat.zero_add, Value.slice.injEq, true_and, and_true, Nat.sub_zero, Nat.add_sub_add_right]; try omega) (lM (k:=?_))
   refine lO (W_copyN (k := 1) (news := Rec.cells y) rfl rfl rfl ty_sl_28 rfl rfl rfl (by show 1 = min 1 (l.length + 1 - j); omega) (cells_one .h0 rfl) (Rec.one y) .h1 (by rw [length_splice _ _ _ (by rw [rc_drop_len, List.length_append, rc_length]; show (j + 1) * 4 + (l.length - j) * 4 ≤ l.length * 4 + _; omega), List.length_append, rc_length, Rec.len]; show j * 4 + 4 ≤ l.length * 4 + _; omega) ?_)
   refine lQ (cE 0 rfl (cE 1 rfl (cE 2 rfl (cE 6 rfl (cE 7 rfl (cE 8 rfl .nil)))))) (rT (lM (k:=lA (k:=?_))))
   refine lQ (cE 0 rfl (cE 1 rfl (cE 2 rfl (cE 6 rfl (cE 7 rfl (cE 8 rfl .nil)))))) (R_ret (Q_then_ret ?_))
   exact R_end (rs2 := _) rfl rfl (.tmp rfl .nil) (rfl) (Weak.drop (by have h9 : splice (splice (rc l ++ junk) ((j + 1) * 4) (rc (l.drop j))) (j * 4) (Rec.cells y) = rc (insL l j y) ++ junk.drop 4 := ins_here (by omega) y hjk; rw [h9]; exact Weak.trans (Weak.own_close (n := l.length + 1) (by rw [rc_length, insL_length (by omega)]; rfl) hg' hcm (by rw [rc_length, insL_length (by omega), List.length_drop]; show sc * 4 ≤ (l.length + 1) * 4 + (junk.length - 4); omega)) (Weak.keep (Weak.nil _))))
end Go.Proofs.YtcngmkjdpoiiaaaGreatDoor

/- Go's library's sort by a comparison, over records: the kit's contracts as rules of this logic. -/
namespace Go.Proofs.YtcngmkjdpoiiaaaGreatDoor
open Go Go.RowKit Go.Sort Go.Shelf
section
variable {α : Type} [Rec α] [Inhabited α]
theorem flatK_rc (d : Array α) : flatK Rec.cells (Rec.n α) d = (rc d.toList).toArray := by
 refine ext_get! (by simp [rc_length]) fun t ht => ?_
 have ht' : t < d.size * Rec.n α := by simpa using ht
 have hn : 0 < Rec.n α := by
  rcases Nat.eq_zero_or_pos (Rec.n α) with h | h
  ·rw [h, Nat.mul_zero] at ht'; omega
  ·exact h
 rw [get_flatK _ _ _ t ht']
 have hi : t / Rec.n α < d.size := (Nat.div_lt_iff_lt_mul hn).2 ht'
 have hx : d.toList[t / Rec.n α]? = some d[t / Rec.n α]! := by
  rw [Array.getElem?_toList, Array.getElem?_eq_getElem hi, getElem!_pos d _ hi]
 have hj : t % Rec.n α < (Rec.cells d[t / Rec.n α]!).length := by rw [Rec.len]; exact Nat.mod_lt _ hn
 have := rc_at hx (List.getElem?_eq_getElem hj)
 rw [Nat.div_add_mod'] at this
 have ht2 : t < (rc d.toList).toArray.size := by simp [rc_length]; exact ht'
 rw [getElem!_pos (Rec.cells d[t / Rec.n α]!) (t % Rec.n α) hj, getElem!_pos (rc d.toList).toArray t ht2]
 have h3 := (List.getElem?_eq_some_iff.1 this).2
 simp only [List.getElem_toArray]
 exact h3.symm
theorem rc_size (d : Array α) : (rc d.toList).length = d.size * Rec.n α := by rw [rc_length]; simp
end
section
variable {α : Type} [Rec α] [Inhabited α] {C : Cx}
theorem onCells_of {f : Array Value → Array Value} {c : Array Value} {T : TypeId} {fr : Nat × Nat} : onCells f (.cells c T fr) = .cells (f c) T fr := rfl
theorem putCells_left (F c : Array Value) (junk : List Value) (h : F.size = c.size) : putCells id 0 F (c.toList ++ junk).toArray = (F.toList ++ junk).toArray := by
 refine Array.ext (by simp [putCells]; omega) fun i h1 h2 => ?_
 simp only [putCells, List.size_toArray, List.length_append, Array.length_toList, Array.size_mapIdx] at h1 h2
 simp only [putCells, Array.getElem_mapIdx, List.getElem_toArray]
 by_cases hi : i < F.size
 ·rw [if_pos ⟨Nat.zero_le _, by omega⟩, List.getElem_append_left (by simpa using hi)]
  simp only [Nat.sub_zero, id, Array.getElem_toList]
  exact getElem!_pos F i hi
 ·rw [if_neg (by omega), List.getElem_append_right (by simp; omega), List.getElem_append_right (by simp; omega)]
  simp only [Array.length_toList, h]
theorem heap_sorted {w : World} {b T m : Nat} {d d' : Array α} {junk : List Value} {fr : Nat × Nat} {os : Array Obj} (hg : w.heap[b]? = some (.cells (rc d.toList ++ junk).toArray T fr)) (hs : d'.size = d.size) (i : Nat) (hi : i < w.heap.size) :
  (sortWorldK Rec.cells (Rec.n α) w b 0 m d' os).heap[i]? = if b = i then some (.cells (rc d'.toList ++ junk).toArray T fr) else w.heap[i]? := by
 show ((w.heap.modify b (onCells (putCells id 0 (flatK Rec.cells (Rec.n α) d')))) ++ os)[i]? = _
 rw [Array.getElem?_append_left (by simpa using hi), Array.getElem?_modify]
 split
 ·rename_i e
  subst e
  rw [hg]
  show some (onCells _ _) = _
  rw [onCells_of]
  have := putCells_left (flatK Rec.cells (Rec.n α) d') (rc d.toList).toArray junk (by rw [flatK_rc]; simp [rc_length, hs])
  simp only [List.toList_toArray] at this
  rw [this, flatK_rc]
 ·rfl
/-- A slice of the call's own, whose cells are d, in the words of the kit. -/
theorem own_sorted {w : World} {h : Heap} {T cap b : Nat} {d : Array α} (hs : ownS T (Rec.n α) (.slice (some ⟨b, 0, none⟩) d.size cap) d.size (rc d.toList) h) (hn : 0 < d.size) (sub : Sub C w h) :
  b < w.heap.size ∧ C.ng ≤ b ∧ HoldsK Rec.cells (Rec.n α) w b 0 d ∧ (∀ m (d' : Array α) os, d'.size = d.size → C.ok (sortWorldK Rec.cells (Rec.n α) w b 0 m d' os)) ∧
  ∀ m (d' : Array α) os, d'.size = d.size → ∃ h', ownS T (Rec.n α) (.slice (some ⟨b, 0, none⟩) d.size cap) d.size (rc d'.toList) h' ∧ Move C w h (sortWorldK Rec.cells (Rec.n α) w b 0 m d' os) h' := by
 have hl := hs.1
 rcases hs.2 with ⟨_, h0, _⟩ | ⟨b', cap', junk, e, hc, hm, hl2, fr, hf, rfl⟩
 ·omega
 ·simp only [Value.slice.injEq, Option.some.injEq, Addr.mk.injEq] at e
  obtain ⟨⟨rfl, _⟩, _, rfl⟩ := e
  have hg := sub.sub b _ (Heap.one_same _ _)
  have hlt := lt_of_some hg
  have hng := sub.low b _ (Heap.one_same _ _)
  have hok : ∀ m (d' : Array α) os, d'.size = d.size → C.ok (sortWorldK Rec.cells (Rec.n α) w b 0 m d' os) := fun m d' os hd i hi => by
   rw [heap_sorted hg hd i (by omega), if_neg (by omega)]; exact sub.ok i hi
  refine ⟨hlt, hng, ?_, hok, fun m d' os hd => ?_⟩
  ·intro j hj
   rw [flatK_rc] at hj ⊢
   simp only [List.size_toArray] at hj
   constructor
   ·simp only [World.cell?, hg, Nat.zero_add]
    simp only [getElem!_def, List.getElem?_toArray]
    rw [List.getElem?_append_left hj, List.getElem?_eq_getElem hj]; rfl
   ·simp only [World.frozen?, hg, Nat.zero_add]
    simp only [Bool.and_eq_false_iff, decide_eq_false_iff_not]
    rw [List.length_append] at hf
    omega
  ·have hlen : (rc d'.toList).length = (rc d.toList).length := by rw [rc_size, rc_size, hd]
   refine ⟨Heap.one b (.cells (rc d'.toList ++ junk).toArray T fr), ⟨by rw [hlen]; exact hl, .inr ⟨b, cap, junk, rfl, hc, hm, by rw [List.length_append, hlen, ← List.length_append]; exact hl2, fr, by rw [List.length_append, hlen, ← List.length_append]; exact hf, rfl⟩⟩, ⟨rfl, rfl, rfl, Nat.le_add_right _ _, ?_, ?_, ?_, ?_, ?_, hok m d' os hd⟩⟩
   ·show w.heap.size ≤ (w.heap.modify b _ ++ os).size
    simp
   ·intro i hi h0
    rw [heap_sorted hg hd i hi, if_neg (fun e => by subst e; rw [Heap.one_same] at h0; cases h0)]
   ·intro i o ho
    obtain ⟨rfl, rfl⟩ := Heap.one_some ho
    rw [heap_sorted hg hd i hlt, if_pos rfl]
   ·intro i o ho
    obtain ⟨rfl, rfl⟩ := Heap.one_some ho
    exact hng
   ·intro i o ho hi
    obtain ⟨rfl, rfl⟩ := Heap.one_some ho
    rw [Heap.one_same]; simp
/-- What has grown by a call that keeps all there was. -/
theorem grown_of_move {W W' : World} {h : Heap} (m : Move C W Heap.none W' h) : ∃ q os, W' = grow (W.drewN q) os := by
 refine ⟨W'.drawn - W.drawn, W'.heap.extract W.heap.size W'.heap.size, ?_⟩
 have hh : W'.heap = W.heap ++ W'.heap.extract W.heap.size W'.heap.size := by
  refine Array.ext_getElem? fun i => ?_
  rcases Nat.lt_or_ge i W.heap.size with hi | hi
  ·rw [Array.getElem?_append_left hi]; exact m.keep i hi rfl
  ·rw [Array.getElem?_append_right hi, Array.getElem?_extract]
   split
   ·congr 1; omega
   ·rw [Array.getElem?_eq_none (by omega)]
 have hd := m.drawn
 obtain ⟨heap, tape, drawn, os, output⟩ := W'
 obtain ⟨heap0, tape0, drawn0, os0, output0⟩ := W
 have h1 : tape = tape0 := m.tape
 have h2 : os = os0 := m.os
 have h3 : output = output0 := m.output
 simp only at hd hh
 subst h1 h2 h3
 simp only [grow, World.drewN, World.mk.injEq, and_true, true_and]
 exact ⟨hh, by omega⟩
theorem cmpLays_of {g : Nat} {cf : α → α → Int} (hs : ∀ x y : α, SpecV C g [.agg (Rec.cells x).toArray, .agg (Rec.cells y).toArray] noPre (.int .i64 (cf x y))) {w : World} {b n : Nat}
  (hok : ∀ m (d' : Array α) os, d'.size = n → C.ok (sortWorldK Rec.cells (Rec.n α) w b 0 m d' os)) : CmpLays C.P g #[] Rec.cells (Rec.n α) cf b 0 n w := fun m os dk hdk x y => by
 have h1 := hs x y (sortWorldK Rec.cells (Rec.n α) w b 0 m dk os) Heap.none rfl ⟨(fun i o h => by cases h), (fun i o h => by cases h), hok m dk os hdk⟩ trivial
 refine h1.mono ?_
 rintro e w' ⟨v, rs, h', rfl, ⟨rfl, rfl⟩, _, mv⟩
 exact ⟨rfl, grown_of_move mv⟩
end
section
variable {α : Type} [Rec α] [Inhabited α] {C : Cx} {ρ : Ren} {g : Nat} {cf : α → α → Int}
/-- slices.SortFunc. -/
theorem sortFunc_of (L : SlLaysF0.n6 C.P ρ) (aE : ∀ w, (isAgg (ρ.t 24)).run C.P w = .ok true w) (zE : ∀ w, (Go.sizeOf (ρ.t 24)).run C.P w = .ok (Rec.n α) w) (hg : callable C.P g = true) (hO : SWO (ltOf cf))
  (hs : ∀ x y : α, SpecV C g [.agg (Rec.cells x).toArray, .agg (Rec.cells y).toArray] noPre (.int .i64 (cf x y))) (T : Nat) (base : Option Addr) (cap : Nat) (d : Array α) (hsz : d.size < 4611686018427387904) :
  Spec C (ρ.f 6) [.slice base d.size cap, .func (.func g) #[] #[]] (fun _ _ => True) [ownS T (Rec.n α) (.slice base d.size cap) d.size (rc d.toList)]
   (fun u rs => u = .tuple #[] ∧ ∃ d' : Array α, PermIn 0 d.size d d' ∧ SortedIn (ltOf cf) 0 d.size d' ∧ rs = [ownS T (Rec.n α) (.slice base d.size cap) d.size (rc d'.toList)]) := by
 intro w h hsep sub _
 rcases Nat.eq_zero_or_pos d.size with h0 | hpos
 ·have hc := AnyF.slices_SortFunc_none L base cap (.func (.func g) #[] #[]) w
  rw [h0] at hsep ⊢
  refine hc.mono ?_
  rintro e w' ⟨rfl, rfl⟩
  exact ⟨_, _, h, rfl, ⟨rfl, d, permIn_refl _ _ _, sorted_one (by omega), rfl⟩, hsep, Move.start sub⟩
 ·obtain hown := Sep.single.1 hsep
  obtain ⟨b, rfl⟩ : ∃ b, base = some ⟨b, 0, none⟩ := by
   rcases hown.2 with ⟨_, h0, _⟩ | ⟨b', cap', junk, e, _⟩
   ·omega
   ·simp only [Value.slice.injEq] at e; exact ⟨b', e.1⟩
  obtain ⟨hlt, hng, hH, hok, hmv⟩ := own_sorted hown hpos sub
  have hc := AnyQ.slices_SortFunc L (Rec.n α) aE zE Rec.cells Rec.len Rec.one cf hO g #[] b 0 cap d w (fun args w => run_call hg args w) (cmpLays_of hs hok) hH hlt hsz
  refine hc.mono ?_
  rintro e w' ⟨rfl, d', n, os, hp, hsd, rfl⟩
  obtain ⟨h', ho', hm'⟩ := hmv n d' os hp.1
  exact ⟨_, _, h', rfl, ⟨rfl, d', hp, hsd, rfl⟩, Sep.single.2 ho', hm'⟩
/-- slices.insertionSortCmpFunc. -/
theorem insertion_of (L : SlLaysF0.n20 C.P ρ) (aE : ∀ w, (isAgg (ρ.t 24)).run C.P w = .ok true w) (zE : ∀ w, (Go.sizeOf (ρ.t 24)).run C.P w = .ok (Rec.n α) w) (hg : callable C.P g = true) (hO : SWO (ltOf cf))
  (hs : ∀ x y : α, SpecV C g [.agg (Rec.cells x).toArray, .agg (Rec.cells y).toArray] noPre (.int .i64 (cf x y))) (T : Nat) (base : Option Addr) (cap : Nat) (d : Array α) (a b : Nat) (hab : a ≤ b) (hb : b ≤ d.size) (hsz : d.size < 4611686018427387904) :
  Spec C (ρ.f 20) [.slice base d.size cap, .int .i64 a, .int .i64 b, .func (.func g) #[] #[]] (fun _ _ => True) [ownS T (Rec.n α) (.slice base d.size cap) d.size (rc d.toList)]
   (fun u rs => u = .tuple #[] ∧ ∃ d' : Array α, PermIn a b d d' ∧ SortedIn (ltOf cf) a b d' ∧ rs = [ownS T (Rec.n α) (.slice base d.size cap) d.size (rc d'.toList)]) := by
 intro w h hsep sub _
 rcases Nat.eq_zero_or_pos d.size with h0 | hpos
 ·obtain rfl : b = 0 := by omega
  obtain rfl : a = 0 := by omega
  have hc := AnyF.insertionSortCmpFunc_none L base cap (.func (.func g) #[] #[]) w
  rw [h0] at hsep ⊢
  refine hc.mono ?_
  rintro e w' ⟨rfl, rfl⟩
  exact ⟨_, _, h, rfl, ⟨rfl, d, permIn_refl _ _ _, sorted_one (by omega), rfl⟩, hsep, Move.start sub⟩
 ·obtain hown := Sep.single.1 hsep
  obtain ⟨b', rfl⟩ : ∃ b, base = some ⟨b, 0, none⟩ := by
   rcases hown.2 with ⟨_, h0, _⟩ | ⟨b', cap', junk, e, _⟩
   ·omega
   ·simp only [Value.slice.injEq] at e; exact ⟨b', e.1⟩
  obtain ⟨hlt, hng, hH, hok, hmv⟩ := own_sorted hown hpos sub
  have hc := AnyQ.insertionSortCmpFunc L (Rec.n α) aE zE Rec.cells Rec.len Rec.one cf g #[] b' 0 cap a b d w (fun args w => run_call hg args w) (cmpLays_of hs hok) hH hlt hab hb hsz
  refine hc.mono ?_
  rintro e w' ⟨rfl, n, os, rfl⟩
  have hi := insertionSort_holds (lt := ltOf cf) hO d a b hab hb
  obtain ⟨h', ho', hm'⟩ := hmv n _ os hi.1.1
  exact ⟨_, _, h', rfl, ⟨rfl, _, hi.1, hi.2, rfl⟩, Sep.single.2 ho', hm'⟩
end
end Go.Proofs.YtcngmkjdpoiiaaaGreatDoor

/- Go's sorts of members. Printed by gen.py. -/
set_option maxRecDepth 100000
namespace Go.Proofs.YtcngmkjdpoiiaaaGreatDoor
open Go Go.RowKit Go.Proofs Go.Sort Go.Shelf
def sortM_ren : Go.Shelf.Ren := ⟨fun | 6 => 96 | 15 => 171 | 14 => 170 | 28 => 230 | 29 => 231 | 20 => 221 | 21 => 223 | 22 => 224 | 23 => 225 | 24 => 226 | 25 => 227 | 26 => 228 | 27 => 229 | 46 => 275 | 47 => 276 | 48 => 277 | 49 => 278 | 50 => 279 | 57 => 303 | n => n, fun | 22 => 37 | 24 => 55 | 25 => 189 | 3 => 3 | 39 => 271 | 0 => 0 | 53 => 82 | 55 => 23 | 4 => 4 | 46 => 336 | 45 => 335 | 50 => 191 | 5 => 5 | 9 => 9 | 66 => 376 | 70 => 380 | 76 => 400 | 77 => 401 | n => n, fun | n => n⟩
theorem sortM : Go.Proofs.SlLaysF0.n6 Tryz.prog sortM_ren := {
 mixed := by kernel_rfl
 f6 := ⟨Tryz.f96.name, by decide, Tryz.func96.trans (congrArg some (by kernel_rfl))⟩
 f14 := ⟨Tryz.f170.name, by decide, Tryz.func170.trans (congrArg some (by kernel_rfl))⟩
 f15 := Tryz.func171.trans (congrArg some (by kernel_rfl))
 f20 := ⟨Tryz.f221.name, by decide, Tryz.func221.trans (congrArg some (by kernel_rfl))⟩
 f21 := ⟨Tryz.f223.name, by decide, Tryz.func223.trans (congrArg some (by kernel_rfl))⟩
 f22 := ⟨Tryz.f224.name, by decide, Tryz.func224.trans (congrArg some (by kernel_rfl))⟩
 f23 := ⟨Tryz.f225.name, by decide, Tryz.func225.trans (congrArg some (by kernel_rfl))⟩
 f24 := ⟨Tryz.f226.name, by decide, Tryz.func226.trans (congrArg some (by kernel_rfl))⟩
 f25 := ⟨Tryz.f227.name, by decide, Tryz.func227.trans (congrArg some (by kernel_rfl))⟩
 f26 := ⟨Tryz.f228.name, by decide, Tryz.func228.trans (congrArg some (by kernel_rfl))⟩
 f27 := ⟨Tryz.f229.name, by decide, Tryz.func229.trans (congrArg some (by kernel_rfl))⟩
 f28 := Tryz.func230.trans (congrArg some (by kernel_rfl))
 f29 := Tryz.func231.trans (congrArg some (by kernel_rfl))
 f46 := ⟨Tryz.f275.name, by decide, Tryz.func275.trans (congrArg some (by kernel_rfl))⟩
 f47 := Tryz.func276.trans (congrArg some (by kernel_rfl))
 f48 := Tryz.func277.trans (congrArg some (by kernel_rfl))
 f49 := ⟨Tryz.f278.name, by decide, Tryz.func278.trans (congrArg some (by kernel_rfl))⟩
 f50 := ⟨Tryz.f279.name, by decide, Tryz.func279.trans (congrArg some (by kernel_rfl))⟩
 f57 := ⟨Tryz.f303.name, by decide, Tryz.func303.trans (congrArg some (by kernel_rfl))⟩
 t0 := Tryz.underlying0
 a0 := Tryz.isAgg0
 z0 := Tryz.sizeOf0
 v0 := Tryz.zeroValue0
 t3 := Tryz.underlying3
 a3 := Tryz.isAgg3
 z3 := Tryz.sizeOf3
 v3 := Tryz.zeroValue3
 t4 := Tryz.underlying4
 a4 := Tryz.isAgg4
 z4 := Tryz.sizeOf4
 v4 := Tryz.zeroValue4
 t5 := Tryz.underlying5
 a5 := Tryz.isAgg5
 z5 := Tryz.sizeOf5
 v5 := Tryz.zeroValue5
 t9 := Tryz.underlying9
 a9 := Tryz.isAgg9
 z9 := Tryz.sizeOf9
 v9 := Tryz.zeroValue9
 t22 := Tryz.underlying37
 a22 := Tryz.isAgg37
 z22 := Tryz.sizeOf37
 v22 := Tryz.zeroValue37
 t25 := Tryz.underlying189
 a25 := Tryz.isAgg189
 z25 := Tryz.sizeOf189
 v25 := Tryz.zeroValue189
 t39 := Tryz.underlying271
 a39 := Tryz.isAgg271
 z39 := Tryz.sizeOf271
 v39 := Tryz.zeroValue271
 t45 := Tryz.underlying335
 a45 := Tryz.isAgg335
 z45 := Tryz.sizeOf335
 v45 := Tryz.zeroValue335
 t46 := Tryz.underlying336
 a46 := Tryz.isAgg336
 z46 := Tryz.sizeOf336
 v46 := Tryz.zeroValue336
 t50 := Tryz.underlying191
 a50 := Tryz.isAgg191
 z50 := Tryz.sizeOf191
 v50 := Tryz.zeroValue191
 t53 := Tryz.underlying82
 a53 := Tryz.isAgg82
 z53 := Tryz.sizeOf82
 v53 := Tryz.zeroValue82
 t55 := Tryz.underlying23
 a55 := Tryz.isAgg23
 z55 := Tryz.sizeOf23
 v55 := Tryz.zeroValue23
 t66 := Tryz.underlying376
 a66 := Tryz.isAgg376
 z66 := Tryz.sizeOf376
 v66 := Tryz.zeroValue376
 t70 := Tryz.underlying380
 a70 := Tryz.isAgg380
 z70 := Tryz.sizeOf380
 v70 := Tryz.zeroValue380
 t76 := Tryz.underlying400
 a76 := Tryz.isAgg400
 z76 := Tryz.sizeOf400
 v76 := Tryz.zeroValue400
 t77 := Tryz.underlying401
 a77 := Tryz.isAgg401
 z77 := Tryz.sizeOf401
 v77 := Tryz.zeroValue401 }
theorem ltOf_cmpA : ltOf (fun x y : Mem => cmpI x.a y.a) = ltA := by
 funext x y
 show decide (cmpI x.a y.a < 0) = decide (x.a < y.a)
 rw [decide_eq_decide]; unfold cmpI; split
 ·exact ⟨fun _ => by assumption, fun _ => by decide⟩
 ·split
  ·exact ⟨fun h => absurd h (by decide), fun h => by omega⟩
  ·exact ⟨fun h => absurd h (by decide), fun h => by omega⟩
theorem cmpI_neg (x y : Int) : cmpI x y < 0 ↔ x < y := by
 unfold cmpI; split
 ·exact ⟨fun _ => by assumption, fun _ => by decide⟩
 ·split
  ·exact ⟨fun h => absurd h (by decide), fun h => by omega⟩
  ·exact ⟨fun h => absurd h (by decide), fun h => by omega⟩
theorem cmpI_zero (x y : Int) : cmpI x y = 0 ↔ x = y := by
 unfold cmpI; split
 ·exact ⟨fun h => absurd h (by decide), fun h => by omega⟩
 ·split
  ·exact ⟨fun h => absurd h (by decide), fun h => by omega⟩
  ·exact ⟨fun _ => by omega, fun _ => rfl⟩
theorem btI_neg (x y : Mem) : btI x y < 0 ↔ bt x y = true := by
 rw [bt_iff]
 unfold btI orI
 split
 ·rename_i h; rw [cmpI_neg]; rw [ne_eq, cmpI_zero] at h; omega
 ·rename_i h; rw [cmpI_neg]; rw [ne_eq, cmpI_zero, Classical.not_not] at h; omega
theorem ltOf_bt : ltOf btI = bt := by
 funext x y
 show decide (btI x y < 0) = bt x y
 cases h : bt x y with
 | true => exact decide_eq_true ((btI_neg x y).2 h)
 | false => exact decide_eq_false fun h2 => by rw [(btI_neg x y).1 h2] at h; cases h
theorem half_nat (n : Nat) : shrI .u64 (n : Int) 1 = ((n / 2 : Nat) : Int) := by
 show (n : Int).fdiv (2 ^ 1) = _
 rw [Int.fdiv_eq_ediv_of_nonneg _ (by decide)]; omega
theorem sortM_ok {gl : Nat → Obj} (base : Option Addr) (cap : Nat) (d : Array Mem) (hsz : d.size < 4611686018427387904) : Spec (cx gl) 96 [.slice base d.size cap, .func (.func 97) #[] #[]] (fun _ _ => True) [ownS 55 3 (.slice base d.size cap) d.size (rc (d).toList)] (fun u rs => u = .tuple #[] ∧ ∃ d' : Array Mem, PermIn 0 d.size d d' ∧ SortedIn ltA 0 d.size d' ∧ rs = [ownS 55 3 (.slice base d.size cap) d.size (rc (d').toList)]) := by
 have h := sortFunc_of (C := cx gl) (α := Mem) sortM Tryz.isAgg55 Tryz.sizeOf55 fn_ca_97 (by rw [ltOf_cmpA]; exact swo_ltA) (fun x y => seats2_ok (gl := gl) x y) 55 base cap d hsz
 rw [ltOf_cmpA] at h
 exact h
theorem insM_ok {gl : Nat → Obj} (base : Option Addr) (cap : Nat) (d : Array Mem) (a b : Nat) (hab : a ≤ b) (hb : b ≤ d.size) (hsz : d.size < 4611686018427387904) : Spec (cx gl) 221 [.slice base d.size cap, .int .i64 a, .int .i64 b, .func (.func 92) #[] #[]] (fun _ _ => True) [ownS 55 3 (.slice base d.size cap) d.size (rc (d).toList)] (fun u rs => u = .tuple #[] ∧ ∃ d' : Array Mem, PermIn a b d d' ∧ SortedIn bt a b d' ∧ rs = [ownS 55 3 (.slice base d.size cap) d.size (rc (d').toList)]) := by
 have h := insertion_of (C := cx gl) (α := Mem) (ρ := sortM_ren) { sortM with } Tryz.isAgg55 Tryz.sizeOf55 fn_ca_92 (by rw [ltOf_bt]; exact swo_bt) (fun x y => seats1_ok (gl := gl) x y) 55 base cap d a b hab hb hsz
 rw [ltOf_bt] at h
 exact h
end Go.Proofs.YtcngmkjdpoiiaaaGreatDoor

/- Go's stable sort: exchanges and rotations. Printed by gen.py. -/
set_option maxRecDepth 100000
namespace Go.Proofs.YtcngmkjdpoiiaaaGreatDoor
open Go Go.RowKit Go.Proofs Go.Sort
theorem swR_ok {gl : Nat → Obj} (b0 cap : Nat) (d : Array Mem) (a b n : Nat) (h1 : a + n ≤ b) (h2 : b + n ≤ d.size) (hsz : d.size ≤ 4611686018427387) (hcap : d.size ≤ cap) (fv : Value) : SpecR (cx gl) 302 [.slice (some ⟨b0, 0, none⟩) d.size cap, .int .i64 ((a : Nat) : Int), .int .i64 ((b : Nat) : Int), .int .i64 ((n : Nat) : Int), fv] (fun _ _ => True) [ownS 55 3 (.slice (some ⟨b0, 0, none⟩) d.size cap) d.size (rc (d).toList)] (.tuple #[]) [ownS 55 3 (.slice (some ⟨b0, 0, none⟩) d.size cap) d.size (rc (swR d a b n).toList)] := by
 refine Spec.enter (C := cx gl) Tryz.func302 rfl 38 rfl rfl fun w0 h0 hsep hsub hpre => ?_
 show St (cx gl) _ [(0, .slice (some ⟨b0, 0, none⟩) d.size cap), (1, .int .i64 ((a : Nat) : Int)), (2, .int .i64 ((b : Nat) : Int)), (3, .int .i64 ((n : Nat) : Int)), (4, fv)] _ _
 refine rT (lA (k:=?_))
 refine lQ (cE 0 rfl (cE 1 rfl (cE 2 rfl (cE 3 rfl (cE 10 rfl .nil))))) (R_block ?_)
 refine R_loopE (G := Nat) (cE 0 rfl (cE 1 rfl (cE 2 rfl (cE 3 rfl .nil)))) (fun g => [(10, .int .i64 (g : Int))]) (fun g => [ownS 55 3 (.slice (some ⟨b0, 0, none⟩) d.size cap) d.size (rc (swR d a b g).toList)]) (fun g => g ≤ n) (fun g => n - g) (0) (Nat.zero_le _) (by repeat (first | exact .nil | refine .cons rfl ?_ | refine .consE rfl (by first | rfl | (congr 1; omega) | (congr 1; push_cast; omega)) ?_)) (Weak.refl _) ?_
 intro i hinv
 replace hinv : i ≤ n := hinv
 show St (cx gl) _ ((10, .int .i64 (i : Int)) :: _) [ownS 55 3 (.slice (some ⟨b0, 0, none⟩) d.size cap) d.size (rc (swR d a b i).toList)] _
 refine rS (rT (lM (k:=lM (k:=lP pLt (k:=?_)))))
 refine L_nil (qT ?_)
 refine R_condP rfl (fun hlt => ?_) (fun hlt => ?_)
 ·skip
  have hs := swR_size d a b i
  have hgj := arr_get (d := swR d a b i) (i := b + i) (by omega)
  have hgi := arr_get (d := swR d a b i) (i := a + i) (by omega)
  refine R_skip (qT (rS (R_block ?_)))
  refine R_open [(0, 0), (1, 0), (2, 0), (3, 0), (4, 0), (5, 0), (6, 0), (7, 0), (8, 0), (9, 0), (10, 0), (11, 0), (12, 0), (13, 1), (14, 0), (15, 0), (16, 0), (17, 0), (18, 0), (19, 1), (20, 0), (21, 3), (22, 0), (23, 3)] mixed (by kernel_rfl) (QOk.block (QOk.then (QOk.then (QOk.block QOk.body)))) (oP rfl pM (k:=oP rfl pM (k:=oP rfl pM (k:=?_))))
  first | (refine O_pure rfl rfl rfl rfl (P_addN rfl rfl rfl (by simp only [fits]; omega)) ?_) | (refine O_pure rfl rfl rfl rfl (P_add rfl rfl rfl) ?_)
  refine oP rfl pM (k:=oP rfl pM (k:=oP rfl pM (k:=?_)))
  first | (refine O_pure rfl rfl rfl rfl (P_addN rfl rfl rfl (by simp only [fits]; omega)) ?_) | (refine O_pure rfl rfl rfl rfl (P_add rfl rfl rfl) ?_)
  refine oP rfl pM (k:=oP rfl pM (k:=oP rfl pM (k:=?_)))
  first | (refine O_pure rfl rfl rfl rfl (P_addN rfl rfl rfl (by simp only [fits]; omega)) ?_) | (refine O_pure rfl rfl rfl rfl (P_add rfl rfl rfl) ?_)
  refine oP rfl (P_ixs (b + i) rfl ty_sl_37 rfl rfl (by first | rfl | omega) (by omega)) (k:=?_)
  refine oV rfl (V_loadAgg rfl rfl ty_ag_55 (rds_rc (rds_own .h0) hgj) (rfl)) (k:=oP rfl pM (k:=oP rfl pM (k:=oP rfl pM (k:=?_))))
  first | (refine O_pure rfl rfl rfl rfl (P_addN rfl rfl rfl (by simp only [fits]; omega)) ?_) | (refine O_pure rfl rfl rfl rfl (P_add rfl rfl rfl) ?_)
  refine oP rfl (P_ixs (a + i) rfl ty_sl_37 rfl rfl (by first | rfl | omega) (by omega)) (k:=?_)
  refine oV rfl (V_loadAgg rfl rfl ty_ag_55 (rds_rc (rds_own .h0) hgi) (rfl)) (k:=?_)
  refine oP rfl (P_ixs (a + i) rfl ty_sl_37 rfl rfl (by first | rfl | omega) (by omega)) (k:=?_)
  refine O_new rfl rfl (W_storeOwn (T := 55) (sz := 3) (n := d.size) (c := cap) (cs := rc (swR d a b i).toList) rfl rfl rfl rfl ty_ag_55 rfl (Mem.cells_one _) .h0 (by rw [rc_length]; simp only [Array.length_toList]; show 0 + (a + i) * 3 + 3 ≤ _ * 3; omega) ?_)
  refine St.res (rs' := [ownS 55 3 (.slice (some ⟨b0, 0, none⟩) d.size cap) d.size (rc ((swR d a b i).toList.set (a + i) (swR d a b i)[b + i]!))]) ((by have h9 := rc_splice (l := (swR d a b i).toList) (i := a + i) (swR d a b i)[b + i]! (by simp only [Array.length_toList]; omega); rw [show Rec.n Mem = 3 from rfl] at h9; rw [Nat.zero_add, h9]; exact Weak.refl _)) ?_
  refine K_new ?_
  refine oP rfl (P_ixs (b + i) rfl ty_sl_37 rfl rfl (by first | rfl | omega) (by omega)) (k:=?_)
  refine O_new rfl rfl (W_storeOwn (T := 55) (sz := 3) (n := d.size) (c := cap) (cs := rc ((swR d a b i).toList.set (a + i) (swR d a b i)[b + i]!)) rfl rfl rfl rfl ty_ag_55 rfl (Mem.cells_one _) .h0 (by rw [rc_length]; rw [List.length_set]; simp only [Array.length_toList]; show 0 + (b + i) * 3 + 3 ≤ _ * 3; omega) ?_)
  refine St.res (rs' := [ownS 55 3 (.slice (some ⟨b0, 0, none⟩) d.size cap) d.size (rc (swp (swR d a b i) (a + i) (b + i)).toList)]) ((by have h9 := rc_splice (l := (swR d a b i).toList.set (a + i) (swR d a b i)[b + i]!) (i := b + i) (swR d a b i)[a + i]! (by rw [List.length_set]; simp only [Array.length_toList]; omega); rw [show Rec.n Mem = 3 from rfl] at h9; rw [Nat.zero_add, h9, ← swp_toList]; exact Weak.refl _)) ?_
  refine K_new (O_nil (Q_block (qT (rR (lM (k:=?_))))))
  first | (refine L_val rfl rfl rfl (OpP.v (P_addN rfl rfl rfl (by simp only [fits]; omega))) ?_) | (refine L_val rfl rfl rfl (OpP.v (P_add rfl rfl rfl)) ?_)
  refine lA (k:=?_)
  refine L_nil ?_
  exact Q_round (i + 1) (by omega) (by show n - (i + 1) < n - i; omega) (by repeat (first | exact .nil | refine .cons rfl ?_ | refine .consE rfl (by first | rfl | (congr 1; omega) | (congr 1; push_cast; omega)) ?_)) (Weak.refl _)
 ·skip
  have hin : i = n := by omega
  rw [hin]
  refine R_exit (Q_then_exit (Q_then_exit (Q_block_eq ?_)))
  refine St.env (.nil) ?_
  exact R_end0 (rs2 := _) rfl rfl (.nil) (⟨rfl, rfl⟩) (Weak.refl _)
theorem rot_ok {gl : Nat → Obj} (b0 cap : Nat) (d : Array Mem) (a m b : Nat) (ham : a < m) (hmb : m < b) (hb : b ≤ d.size) (hsz : d.size ≤ 4611686018427387) (hcap : d.size ≤ cap) (fv : Value) : Spec (cx gl) 274 [.slice (some ⟨b0, 0, none⟩) d.size cap, .int .i64 ((a : Nat) : Int), .int .i64 ((m : Nat) : Int), .int .i64 ((b : Nat) : Int), fv] (fun _ _ => True) [ownS 55 3 (.slice (some ⟨b0, 0, none⟩) d.size cap) d.size (rc (d).toList)] (fun u rs => u = .tuple #[] ∧ ∃ d' : Array Mem, (Rot a m b d d' ∧ PermIn a b d d') ∧ rs = [ownS 55 3 (.slice (some ⟨b0, 0, none⟩) d.size cap) d.size (rc (d').toList)]) := by
 refine Spec.enter (C := cx gl) Tryz.func274 rfl 58 rfl rfl fun w0 h0 hsep hsub hpre => ?_
 show St (cx gl) _ [(0, .slice (some ⟨b0, 0, none⟩) d.size cap), (1, .int .i64 ((a : Nat) : Int)), (2, .int .i64 ((m : Nat) : Int)), (3, .int .i64 ((b : Nat) : Int)), (4, fv)] _ _
 refine rT (lM (k:=lM (k:=?_)))
 first | (refine L_val rfl rfl rfl (OpP.v (P_subN rfl rfl rfl (by simp only [fits]; omega))) ?_) | (refine L_val rfl rfl rfl (OpP.v (P_sub rfl rfl rfl)) ?_)
 refine E_as (t := 14) (v' := .int .i64 ((m - a : Nat) : Int)) rfl (by congr 1; omega) (lA (k:=?_))
 refine lQ (cE 0 rfl (cE 2 rfl (cE 3 rfl (cE 4 rfl (cE 10 rfl .nil))))) (rT (lM (k:=lM (k:=?_))))
 first | (refine L_val rfl rfl rfl (OpP.v (P_subN rfl rfl rfl (by simp only [fits]; omega))) ?_) | (refine L_val rfl rfl rfl (OpP.v (P_sub rfl rfl rfl)) ?_)
 refine E_as (t := 17) (v' := .int .i64 ((b - m : Nat) : Int)) rfl (by congr 1; omega) (lA (k:=?_))
 refine lQ (cE 0 rfl (cE 2 rfl (cE 4 rfl (cE 10 rfl (cE 11 rfl .nil))))) (rS (R_block ?_))
 refine R_loopE (G := Nat × Nat × Array Mem) (cE 0 rfl (cE 2 rfl (cE 4 rfl .nil))) (fun g => [(10, .int .i64 ((g.1 : Nat) : Int)), (11, .int .i64 ((g.2.1 : Nat) : Int))]) (fun g => [ownS 55 3 (.slice (some ⟨b0, 0, none⟩) d.size cap) d.size (rc (g.2.2).toList)]) (fun g => 0 < g.1 ∧ 0 < g.2.1 ∧ a + g.1 ≤ m ∧ m + g.2.1 ≤ b ∧ g.2.2.size = d.size ∧ PermIn a b d g.2.2 ∧ ∀ d', Rot (m - g.1) m (m + g.2.1) g.2.2 d' → Rot a m b d d') (fun g => g.1 + g.2.1) (m - a, b - m, d) (by show 0 < (m - a) ∧ 0 < (b - m) ∧ a + (m - a) ≤ m ∧ m + (b - m) ≤ b ∧ (d).size = d.size ∧ PermIn a b d (d) ∧ ∀ d', Rot (m - (m - a)) m (m + (b - m)) (d) d' → Rot a m b d d'; exact ⟨by omega, by omega, by omega, by omega, rfl, permIn_refl _ _ _, fun d' h => by rwa [show m - (m - a) = a by omega, show m + (b - m) = b by omega] at h⟩) (by repeat (first | exact .nil | refine .cons rfl ?_ | refine .consE rfl (by first | rfl | (congr 1; omega) | (congr 1; push_cast; omega)) ?_)) (Weak.refl _) ?_
 rintro ⟨i, j, e⟩ hinv
 replace hinv : 0 < i ∧ 0 < j ∧ a + i ≤ m ∧ m + j ≤ b ∧ e.size = d.size ∧ PermIn a b d e ∧ ∀ d', Rot (m - i) m (m + j) e d' → Rot a m b d d' := hinv
 show St (cx gl) _ ((10, .int .i64 ((i : Nat) : Int)) :: (11, .int .i64 ((j : Nat) : Int)) :: _) [ownS 55 3 (.slice (some ⟨b0, 0, none⟩) d.size cap) d.size (rc (e).toList)] _
 obtain ⟨hi0, hj0, hai, hbj, hes, hpe, hrot⟩ := hinv
 refine rS (rT (lM (k:=lM (k:=lP pNe (k:=?_)))))
 refine L_nil (qT ?_)
 refine R_condP rfl (fun hne => ?_) (fun hne => ?_)
 ·skip
  have hne : i ≠ j := by intro h; apply hne; rw [h]
  have hsw : ∀ x y n, x + n ≤ y → y + n ≤ d.size → SpecR (cx gl) 302 [.slice (some ⟨b0, 0, none⟩) d.size cap, .int .i64 ((x : Nat) : Int), .int .i64 ((y : Nat) : Int), .int .i64 ((n : Nat) : Int), fv] (fun _ _ => True) [ownS 55 3 (.slice (some ⟨b0, 0, none⟩) d.size cap) d.size (rc (e).toList)] (.tuple #[]) [ownS 55 3 (.slice (some ⟨b0, 0, none⟩) d.size cap) d.size (rc (swR e x y n).toList)] := fun x y n hx hy => by have h9 := swR_ok (gl := gl) b0 cap e x y n hx (by omega) (by omega) (by omega) fv; rw [hes] at h9; exact h9
  refine R_skip (qT (R_block (rT (lM (k:=lM (k:=lP pGt (k:=?_)))))))
  refine L_nil (qT ?_)
  refine R_condP rfl (fun hgt => ?_) (fun hgt => ?_)
  ·skip
   have hgt : j < i := by omega
   refine rT (lM (k:=lM (k:=lM (k:=?_))))
   first | (refine L_val rfl rfl rfl (OpP.v (P_subN rfl rfl rfl (by simp only [fits]; omega))) ?_) | (refine L_val rfl rfl rfl (OpP.v (P_sub rfl rfl rfl)) ?_)
   refine E_as (t := 27) (v' := .int .i64 ((m - i : Nat) : Int)) rfl (by congr 1; omega) (lM (k:=lM (k:=lM (k:=?_))))
   refine lO (W_call rfl rfl rfl rfl fn_ca_302 (hsw (m - i) (m) (j) (by omega) (by omega)) (Split.one (p := [])) (fun _ _ _ _ _ _ _ => trivial) fun vv rs1 ⟨e1, e2⟩ => ?_)
   subst e1; subst e2
   refine St.res (rs' := [ownS 55 3 (.slice (some ⟨b0, 0, none⟩) d.size cap) d.size (rc (swR e (m - i) (m) (j)).toList)]) (Weak.refl _) ?_
   refine lQ (cE 0 rfl (cE 2 rfl (cE 4 rfl (cE 10 rfl (cE 11 rfl (cE 18 rfl (cE 19 rfl (cE 20 rfl (cE 21 rfl (cE 22 rfl (cE 23 rfl (cE 24 rfl (cE 25 rfl (cE 26 rfl (cE 27 rfl (cE 28 rfl (cE 29 rfl (cE 30 rfl .nil)))))))))))))))))) (rR (lM (k:=lM (k:=?_))))
   first | (refine L_val rfl rfl rfl (OpP.v (P_subN rfl rfl rfl (by simp only [fits]; omega))) ?_) | (refine L_val rfl rfl rfl (OpP.v (P_sub rfl rfl rfl)) ?_)
   refine E_as (t := 34) (v' := .int .i64 ((i - j : Nat) : Int)) rfl (by congr 1; omega) (lA (k:=?_))
   refine L_nil (Q_block ?_)
   exact Q_round (i - j, j, swR e (m - i) m j) (by show 0 < (i - j) ∧ 0 < (j) ∧ a + (i - j) ≤ m ∧ m + (j) ≤ b ∧ (swR e (m - i) m j).size = d.size ∧ PermIn a b d (swR e (m - i) m j) ∧ ∀ d', Rot (m - (i - j)) m (m + (j)) (swR e (m - i) m j) d' → Rot a m b d d'; exact ⟨by omega, hj0, by omega, hbj, by rw [swR_size]; exact hes, permTr hpe (swR_perm e (m - i) m a b (by omega) (by omega) j (by omega) (by omega)), fun d' h => hrot d' (Rot.left hj0 (by omega) (by omega) (by omega) h)⟩) (by show i - j + j < i + j; omega) (by repeat (first | exact .nil | refine .cons rfl ?_ | refine .consE rfl (by first | rfl | (congr 1; omega) | (congr 1; push_cast; omega)) ?_)) (Weak.refl _)
  ·skip
   have hgt : i < j := by omega
   refine rT (lM (k:=lM (k:=lM (k:=?_))))
   first | (refine L_val rfl rfl rfl (OpP.v (P_subN rfl rfl rfl (by simp only [fits]; omega))) ?_) | (refine L_val rfl rfl rfl (OpP.v (P_sub rfl rfl rfl)) ?_)
   refine E_as (t := 38) (v' := .int .i64 ((m - i : Nat) : Int)) rfl (by congr 1; omega) (lM (k:=lM (k:=?_)))
   first | (refine L_val rfl rfl rfl (OpP.v (P_addN rfl rfl rfl (by simp only [fits]; omega))) ?_) | (refine L_val rfl rfl rfl (OpP.v (P_add rfl rfl rfl)) ?_)
   refine lM (k:=?_)
   first | (refine L_val rfl rfl rfl (OpP.v (P_subN rfl rfl rfl (by simp only [fits]; omega))) ?_) | (refine L_val rfl rfl rfl (OpP.v (P_sub rfl rfl rfl)) ?_)
   refine E_as (t := 43) (v' := .int .i64 ((m + j - i : Nat) : Int)) rfl (by congr 1; omega) (lM (k:=lM (k:=?_)))
   refine lO (W_call rfl rfl rfl rfl fn_ca_302 (hsw (m - i) (m + j - i) (i) (by omega) (by omega)) (Split.one (p := [])) (fun _ _ _ _ _ _ _ => trivial) fun vv rs1 ⟨e1, e2⟩ => ?_)
   subst e1; subst e2
   refine St.res (rs' := [ownS 55 3 (.slice (some ⟨b0, 0, none⟩) d.size cap) d.size (rc (swR e (m - i) (m + j - i) (i)).toList)]) (Weak.refl _) ?_
   refine lQ (cE 0 rfl (cE 2 rfl (cE 4 rfl (cE 10 rfl (cE 11 rfl (cE 18 rfl (cE 19 rfl (cE 20 rfl (cE 21 rfl (cE 22 rfl (cE 23 rfl (cE 35 rfl (cE 36 rfl (cE 37 rfl (cE 38 rfl (cE 39 rfl (cE 40 rfl (cE 41 rfl (cE 42 rfl (cE 43 rfl (cE 44 rfl (cE 45 rfl .nil)))))))))))))))))))))) (rR (lM (k:=lM (k:=?_))))
   first | (refine L_val rfl rfl rfl (OpP.v (P_subN rfl rfl rfl (by simp only [fits]; omega))) ?_) | (refine L_val rfl rfl rfl (OpP.v (P_sub rfl rfl rfl)) ?_)
   refine E_as (t := 49) (v' := .int .i64 ((j - i : Nat) : Int)) rfl (by congr 1; omega) (lA (k:=?_))
   refine L_nil (Q_block ?_)
   exact Q_round (i, j - i, swR e (m - i) (m + j - i) i) (by show 0 < (i) ∧ 0 < (j - i) ∧ a + (i) ≤ m ∧ m + (j - i) ≤ b ∧ (swR e (m - i) (m + j - i) i).size = d.size ∧ PermIn a b d (swR e (m - i) (m + j - i) i) ∧ ∀ d', Rot (m - (i)) m (m + (j - i)) (swR e (m - i) (m + j - i) i) d' → Rot a m b d d'; exact ⟨hi0, by omega, hai, by omega, by rw [swR_size]; exact hes, permTr hpe (swR_perm e (m - i) (m + j - i) a b (by omega) (by omega) i (by omega) (by omega)), fun d' h => hrot d' (Rot.right hi0 (by omega) (by omega) (by omega) h)⟩) (by show i + (j - i) < i + j; omega) (by repeat (first | exact .nil | refine .cons rfl ?_ | refine .consE rfl (by first | rfl | (congr 1; omega) | (congr 1; push_cast; omega)) ?_)) (Weak.refl _)
 ·skip
  have hij : i = j := by omega
  rw [← hij]
  have hsw : ∀ x y n, x + n ≤ y → y + n ≤ d.size → SpecR (cx gl) 302 [.slice (some ⟨b0, 0, none⟩) d.size cap, .int .i64 ((x : Nat) : Int), .int .i64 ((y : Nat) : Int), .int .i64 ((n : Nat) : Int), fv] (fun _ _ => True) [ownS 55 3 (.slice (some ⟨b0, 0, none⟩) d.size cap) d.size (rc (e).toList)] (.tuple #[]) [ownS 55 3 (.slice (some ⟨b0, 0, none⟩) d.size cap) d.size (rc (swR e x y n).toList)] := fun x y n hx hy => by have h9 := swR_ok (gl := gl) b0 cap e x y n hx (by omega) (by omega) (by omega) fv; rw [hes] at h9; exact h9
  refine R_exit (Q_then_exit (Q_then_exit (Q_block_eq ?_)))
  refine St.env (cE 0 rfl (cE 2 rfl (cE 4 rfl (cE 10 rfl .nil)))) (qT (rR (lM (k:=lM (k:=lM (k:=?_))))))
  first | (refine L_val rfl rfl rfl (OpP.v (P_subN rfl rfl rfl (by simp only [fits]; omega))) ?_) | (refine L_val rfl rfl rfl (OpP.v (P_sub rfl rfl rfl)) ?_)
  refine E_as (t := 53) (v' := .int .i64 ((m - i : Nat) : Int)) rfl (by congr 1; omega) (lM (k:=lM (k:=lM (k:=?_))))
  refine lO (W_call rfl rfl rfl rfl fn_ca_302 (hsw (m - i) (m) (i) (by omega) (by omega)) (Split.one (p := [])) (fun _ _ _ _ _ _ _ => trivial) fun vv rs1 ⟨e1, e2⟩ => ?_)
  subst e1; subst e2
  refine St.res (rs' := [ownS 55 3 (.slice (some ⟨b0, 0, none⟩) d.size cap) d.size (rc (swR e (m - i) (m) (i)).toList)]) (Weak.refl _) ?_
  refine lE (.nil) ?_
  exact R_end0 (rs2 := _) rfl rfl (.nil) (⟨rfl, _, ⟨hrot _ (by rw [← hij]; exact Rot.same (by omega) (by omega)), permTr hpe (swR_perm e (m - i) m a b (by omega) (by omega) i (by omega) (by omega))⟩, rfl⟩) (Weak.refl _)
end Go.Proofs.YtcngmkjdpoiiaaaGreatDoor

/- Go's stable sort: merging. Printed by gen.py. -/
set_option maxRecDepth 100000
namespace Go.Proofs.YtcngmkjdpoiiaaaGreatDoor
open Go Go.RowKit Go.Proofs Go.Sort
def SymOk (gl : Nat → Obj) (N : Nat) : Prop := ∀ (b0 cap : Nat) (d : Array Mem) (a m b : Nat), b - a ≤ N → a < m → m < b → b ≤ d.size → d.size ≤ 4611686018427387 → d.size ≤ cap → SortedIn bt a m d → SortedIn bt m b d → Spec (cx gl) 222 [.slice (some ⟨b0, 0, none⟩) d.size cap, .int .i64 ((a : Nat) : Int), .int .i64 ((m : Nat) : Int), .int .i64 ((b : Nat) : Int), .func (.func 92) #[] #[]] (fun _ _ => True) [ownS 55 3 (.slice (some ⟨b0, 0, none⟩) d.size cap) d.size (rc (d).toList)] (fun u rs => u = .tuple #[] ∧ ∃ d' : Array Mem, (PermIn a b d d' ∧ SortedIn bt a b d') ∧ rs = [ownS 55 3 (.slice (some ⟨b0, 0, none⟩) d.size cap) d.size (rc (d').toList)])
theorem up_all {lo i : Nat} {p : Nat → Prop} (_ : ∀ c, lo ≤ c → c < i → p c) (m : Nat) (k : ∀ c, lo ≤ c → c ≤ m → p c) : ∀ c, lo ≤ c → c < m + 1 → p c := fun c h1 h2 => k c h1 (by omega)
theorem down_all {j hi : Nat} {p : Nat → Prop} (_ : ∀ c, j ≤ c → c < hi → p c) (m : Nat) (k : ∀ c, m ≤ c → c < hi → p c) : ∀ c, m ≤ c → c < hi → p c := k
section
variable {d : Array Mem} {a m b h c mid : Nat}
theorem le_sorted {lo hi : Nat} (hs : SortedIn bt lo hi d) {i j : Nat} (h1 : lo ≤ i) (h2 : i ≤ j) (h3 : j < hi) : bt d[j]! d[i]! = false := by
 rcases Nat.lt_or_ge i j with h | h
 ·exact hs i j h1 h h3
 ·rw [show i = j by omega]; exact swo_bt.irrefl _
theorem up_1 (hs : SortedIn bt m b d) (h1 : m ≤ c) (h2 : c ≤ h) (h3 : h < b) (hb : bt d[h]! d[a]! = true) : bt d[c]! d[a]! = true := lt_down swo_bt (le_sorted hs h1 h2 h3) hb
theorem down_1 (hs : SortedIn bt m b d) (h1 : m ≤ h) (h2 : h ≤ c) (h3 : c < b) (hb : bt d[h]! d[a]! = false) : bt d[c]! d[a]! = false := swo_bt.ntrans _ _ _ (le_sorted hs h1 h2 h3) hb
theorem up_2 (hs : SortedIn bt a m d) (h1 : a ≤ c) (h2 : c ≤ h) (h3 : h < m) (hb : bt d[m]! d[h]! = false) : bt d[m]! d[c]! = false := swo_bt.ntrans _ _ _ hb (le_sorted hs h1 h2 h3)
theorem down_2 (hs : SortedIn bt a m d) (h1 : a ≤ h) (h2 : h ≤ c) (h3 : c < m) (hb : bt d[m]! d[h]! = true) : bt d[m]! d[c]! = true := lt_up swo_bt (le_sorted hs h1 h2 h3) hb
theorem search_mono' (hL : SortedIn bt a m d) (hR : SortedIn bt m b d) (h1 : a ≤ h) (h2 : h ≤ c) (h3 : c < m) (h4 : m ≤ mid + m - 1 - c) (h5 : mid + m - 1 - h < b) (hb : bt d[mid + m - 1 - h]! d[h]! = true) : bt d[mid + m - 1 - c]! d[c]! = true :=
 lt_down swo_bt (le_sorted hR h4 (by omega) h5) (lt_up swo_bt (le_sorted hL h1 h2 h3) hb)
theorem up_3 (hL : SortedIn bt a m d) (hR : SortedIn bt m b d) (h1 : a ≤ c) (h2 : c ≤ h) (h3 : h < m) (h4 : m ≤ mid + m - 1 - h) (h5 : mid + m - 1 - c < b) (hb : bt d[mid + m - 1 - h]! d[h]! = false) : bt d[mid + m - 1 - c]! d[c]! = false := by
 cases hc : bt d[mid + m - 1 - c]! d[c]! with
 | false => rfl
 | true => rw [search_mono' hL hR h1 h2 h3 h4 h5 hc] at hb; cases hb
theorem sort_edge {s : Nat} (h1 : SortedIn bt a s d) (h2 : SortedIn bt s mid d) (h : s ≤ a ∨ mid ≤ s) : SortedIn bt a mid d := by
 rcases h with h | h
 ·exact sortSub h2 h (Nat.le_refl _)
 ·exact sortSub h1 (Nat.le_refl _) h
end
set_option maxHeartbeats 4000000 in
theorem sym_step {gl : Nat → Obj} (N : Nat) (hih : SymOk gl N) (b0 cap : Nat) (d : Array Mem) (a m b : Nat) (hN : b - a ≤ N + 1) (ham : a < m) (hmb : m < b) (hb : b ≤ d.size) (hsz : d.size ≤ 4611686018427387) (hcap : d.size ≤ cap) (hSL : SortedIn bt a m d) (hSR : SortedIn bt m b d) : Spec (cx gl) 222 [.slice (some ⟨b0, 0, none⟩) d.size cap, .int .i64 ((a : Nat) : Int), .int .i64 ((m : Nat) : Int), .int .i64 ((b : Nat) : Int), .func (.func 92) #[] #[]] (fun _ _ => True) [ownS 55 3 (.slice (some ⟨b0, 0, none⟩) d.size cap) d.size (rc (d).toList)] (fun u rs => u = .tuple #[] ∧ ∃ d' : Array Mem, (PermIn a b d d' ∧ SortedIn bt a b d') ∧ rs = [ownS 55 3 (.slice (some ⟨b0, 0, none⟩) d.size cap) d.size (rc (d').toList)]) := by
 have hrec : ∀ (e : Array Mem), e.size = d.size → ∀ a m b, b - a ≤ N → a < m → m < b → b ≤ d.size → SortedIn bt a m e → SortedIn bt m b e → Spec (cx gl) 222 [.slice (some ⟨b0, 0, none⟩) d.size cap, .int .i64 ((a : Nat) : Int), .int .i64 ((m : Nat) : Int), .int .i64 ((b : Nat) : Int), .func (.func 92) #[] #[]] (fun _ _ => True) [ownS 55 3 (.slice (some ⟨b0, 0, none⟩) d.size cap) d.size (rc (e).toList)] (fun u rs => u = .tuple #[] ∧ ∃ d' : Array Mem, (PermIn a b e d' ∧ SortedIn bt a b d') ∧ rs = [ownS 55 3 (.slice (some ⟨b0, 0, none⟩) d.size cap) d.size (rc (d').toList)]) := fun e he a m b h1 h2 h3 h4 h5 h6 => by have h9 := hih b0 cap e a m b h1 h2 h3 (by omega) (by omega) (by omega) h5 h6; rw [he] at h9; exact h9
 refine Spec.enter (C := cx gl) Tryz.func222 rfl 220 rfl rfl fun w0 h0 hsep hsub hpre => ?_
 show St (cx gl) _ [(0, .slice (some ⟨b0, 0, none⟩) d.size cap), (1, .int .i64 ((a : Nat) : Int)), (2, .int .i64 ((m : Nat) : Int)), (3, .int .i64 ((b : Nat) : Int)), (4, .func (.func 92) #[] #[])] _ _
 refine rS (rT (lM (k:=lM (k:=?_))))
 first | (refine L_val rfl rfl rfl (OpP.v (P_subN rfl rfl rfl (by simp only [fits]; omega))) ?_) | (refine L_val rfl rfl rfl (OpP.v (P_sub rfl rfl rfl)) ?_)
 refine E_as (t := 27) (v' := .int .i64 ((m - a : Nat) : Int)) rfl (by congr 1; omega) (lP pEq (k:=?_))
 refine lQ (cE 0 rfl (cE 1 rfl (cE 2 rfl (cE 3 rfl (cE 4 rfl (cE 28 rfl .nil)))))) ?_
 refine R_condP rfl (fun h1 => ?_) (fun h1 => ?_)
 ·skip
  have hm1 : m = a + 1 := by omega
  have hga := arr_get (d := d) (i := a) (by omega)
  refine rT (lM (k:=lA (k:=?_)))
  refine lQ (cE 0 rfl (cE 1 rfl (cE 2 rfl (cE 3 rfl (cE 4 rfl (cE 10 rfl .nil)))))) (rT (lM (k:=lA (k:=?_))))
  refine lQ (cE 0 rfl (cE 1 rfl (cE 2 rfl (cE 3 rfl (cE 4 rfl (cE 10 rfl (cE 11 rfl .nil))))))) (rS (R_block ?_))
  refine R_loopE (G := Nat × Nat) (cE 0 rfl (cE 1 rfl (cE 2 rfl (cE 3 rfl (cE 4 rfl .nil))))) (fun g => [(10, .int .i64 ((g.1 : Nat) : Int)), (11, .int .i64 ((g.2 : Nat) : Int))]) (fun _ => _) (fun g => m ≤ g.1 ∧ g.1 ≤ g.2 ∧ g.2 ≤ b ∧ (∀ c, m ≤ c → c < g.1 → bt d[c]! d[a]! = true) ∧ (∀ c, g.2 ≤ c → c < b → bt d[c]! d[a]! = false)) (fun g => g.2 - g.1) (m, b) (by show m ≤ (m) ∧ (m) ≤ (b) ∧ (b) ≤ b ∧ (∀ c, m ≤ c → c < (m) → bt d[c]! d[a]! = true) ∧ (∀ c, (b) ≤ c → c < b → bt d[c]! d[a]! = false); exact ⟨Nat.le_refl _, by omega, Nat.le_refl _, fun c _ _ => by omega, fun c _ _ => by omega⟩) (by repeat (first | exact .nil | refine .cons rfl ?_ | refine .consE rfl (by first | rfl | (congr 1; omega) | (congr 1; push_cast; omega)) ?_)) (Weak.refl _) ?_
  rintro ⟨i, j⟩ hinv
  replace hinv : m ≤ i ∧ i ≤ j ∧ j ≤ b ∧ (∀ c, m ≤ c → c < i → bt d[c]! d[a]! = true) ∧ (∀ c, j ≤ c → c < b → bt d[c]! d[a]! = false) := hinv
  show St (cx gl) _ ((10, .int .i64 ((i : Nat) : Int)) :: (11, .int .i64 ((j : Nat) : Int)) :: _) _ _
  obtain ⟨hmi, hij, hjb, hl, hr⟩ := hinv
  refine rS (rT (lM (k:=lM (k:=lP pLt (k:=?_)))))
  refine L_nil (qT ?_)
  refine R_condP rfl (fun hlt => ?_) (fun hlt => ?_)
  ·skip
   have hgh := arr_get (d := d) (i := (i + j) / 2) (by omega)
   refine R_skip (qT (R_block (rT (lM (k:=lM (k:=?_))))))
   first | (refine L_val rfl rfl rfl (OpP.v (P_addN rfl rfl rfl (by simp only [fits]; omega))) ?_) | (refine L_val rfl rfl rfl (OpP.v (P_add rfl rfl rfl)) ?_)
   first | (refine L_val rfl rfl rfl (OpP.v (P_convN rfl ty_int_3 ty_int_271 rfl (by simp only [fits]; omega))) ?_) | (refine L_val rfl rfl rfl (OpP.v (P_conv rfl ty_int_3 ty_int_271 rfl)) ?_)
   refine lP (P_shr rfl rfl rfl (by omega)) (k:=?_)
   refine E_as (t := 38) (v' := .int .u64 (((i + j) / 2 : Nat) : Int)) rfl (by have h9 := half_nat (i + j); push_cast at h9 ⊢; rw [h9]) ?_
   first | (refine L_val rfl rfl rfl (OpP.v (P_convN rfl ty_int_271 ty_int_3 rfl (by simp only [fits]; omega))) ?_) | (refine L_val rfl rfl rfl (OpP.v (P_conv rfl ty_int_271 ty_int_3 rfl)) ?_)
   refine lA (k:=?_)
   refine L_nil (qT (rS ?_))
   refine R_open [(0, 0), (1, 0), (2, 0), (3, 0), (4, 1), (5, 0), (6, 0), (7, 0), (8, 1), (9, 2), (10, 0)] mixed (by kernel_rfl) (QOk.then (QOk.block (QOk.then (QOk.block (QOk.then (QOk.then QOk.body)))))) (oP rfl pM (k:=oP rfl pM (k:=oP rfl pM (k:=?_))))
   refine oP rfl (P_ixs ((i + j) / 2) rfl ty_sl_37 rfl rfl (by first | rfl | omega) (by omega)) (k:=?_)
   refine oV rfl (V_loadAgg rfl rfl ty_ag_55 (rds_rc (rds_own .h0) hgh) (rfl)) (k:=oP rfl pM (k:=oP rfl pM (k:=?_)))
   refine oP rfl (P_ixs (a) rfl ty_sl_37 rfl rfl (by first | rfl | omega) (by omega)) (k:=?_)
   refine oV rfl (V_loadAgg rfl rfl ty_ag_55 (rds_rc (rds_own .h0) hga) (rfl)) (k:=?_)
   refine O_keep rfl rfl (W_callFV (fi := []) (ca := []) rfl rfl rfl rfl rfl rfl fn_ca_92 (seats1_ok (d[(i + j) / 2]!) (d[a]!)) (fun _ _ => trivial) (K_keep (Weak.refl _) (oP rfl pLt (k:=?_))))
   refine E_as (t := 50) (v' := .bool (bt (d[(i + j) / 2]!) (d[a]!))) rfl (by rw [← ltOf_bt]; rfl) (O_nil (qT ?_))
   refine R_cond rfl (fun hb => ?_) (fun hb => ?_)
   ·skip
    refine rR (lM (k:=?_))
    first | (refine L_val rfl rfl rfl (OpP.v (P_addN rfl rfl rfl (by simp only [fits]; omega))) ?_) | (refine L_val rfl rfl rfl (OpP.v (P_add rfl rfl rfl)) ?_)
    refine lA (k:=?_)
    refine L_nil (Q_block ?_)
    exact Q_round ((i + j) / 2 + 1, j) (by show m ≤ ((i + j) / 2 + 1) ∧ ((i + j) / 2 + 1) ≤ (j) ∧ (j) ≤ b ∧ (∀ c, m ≤ c → c < ((i + j) / 2 + 1) → bt d[c]! d[a]! = true) ∧ (∀ c, (j) ≤ c → c < b → bt d[c]! d[a]! = false); exact ⟨by omega, by omega, hjb, up_all hl ((i + j) / 2) fun c hc1 hc2 => up_1 hSR (by omega) hc2 (by omega) hb, hr⟩) (by show j - ((i + j) / 2 + 1) < j - i; omega) (by repeat (first | exact .nil | refine .cons rfl ?_ | refine .consE rfl (by first | rfl | (congr 1; omega) | (congr 1; push_cast; omega)) ?_)) (Weak.refl _)
   ·skip
    refine rR (lM (k:=lA (k:=?_)))
    refine L_nil (Q_block ?_)
    exact Q_round (i, (i + j) / 2) (by show m ≤ (i) ∧ (i) ≤ ((i + j) / 2) ∧ ((i + j) / 2) ≤ b ∧ (∀ c, m ≤ c → c < (i) → bt d[c]! d[a]! = true) ∧ (∀ c, ((i + j) / 2) ≤ c → c < b → bt d[c]! d[a]! = false); exact ⟨hmi, by omega, by omega, hl, down_all hr ((i + j) / 2) fun c hc1 hc2 => down_1 hSR (by omega) hc1 (by omega) hb⟩) (by show (i + j) / 2 - i < j - i; omega) (by repeat (first | exact .nil | refine .cons rfl ?_ | refine .consE rfl (by first | rfl | (congr 1; omega) | (congr 1; push_cast; omega)) ?_)) (Weak.refl _)
  ·skip
   have hin : i = j := by omega
   rw [← hin] at hr
   refine R_exit (Q_then_exit (Q_then_exit (Q_block_eq ?_)))
   refine St.env (cE 0 rfl (cE 1 rfl (cE 2 rfl (cE 3 rfl (cE 4 rfl (cE 10 rfl .nil)))))) (qT (rS (rT (lM (k:=lA (k:=?_))))))
   refine lQ (cE 0 rfl (cE 1 rfl (cE 2 rfl (cE 3 rfl (cE 4 rfl (cE 10 rfl (cE 13 rfl .nil))))))) (R_block ?_)
   refine R_loopE (G := Nat) (cE 0 rfl (cE 1 rfl (cE 2 rfl (cE 3 rfl (cE 4 rfl (cE 10 rfl .nil)))))) (fun g => [(13, .int .i64 ((a + g : Nat) : Int))]) (fun g => [ownS 55 3 (.slice (some ⟨b0, 0, none⟩) d.size cap) d.size (rc (shR d a g).toList)]) (fun g => g ≤ i - 1 - a) (fun g => i - 1 - a - g) (0) (Nat.zero_le _) (by repeat (first | exact .nil | refine .cons rfl ?_ | refine .consE rfl (by first | rfl | (congr 1; omega) | (congr 1; push_cast; omega)) ?_)) (Weak.refl _) ?_
   intro n hinv
   replace hinv : n ≤ i - 1 - a := hinv
   show St (cx gl) _ ((13, .int .i64 ((a + n : Nat) : Int)) :: _) [ownS 55 3 (.slice (some ⟨b0, 0, none⟩) d.size cap) d.size (rc (shR d a n).toList)] _
   refine rS (rT (lM (k:=lM (k:=?_))))
   first | (refine L_val rfl rfl rfl (OpP.v (P_subN rfl rfl rfl (by simp only [fits]; omega))) ?_) | (refine L_val rfl rfl rfl (OpP.v (P_sub rfl rfl rfl)) ?_)
   refine E_as (t := 57) (v' := .int .i64 ((i - 1 : Nat) : Int)) rfl (by congr 1; omega) (lP pLt (k:=?_))
   refine L_nil (qT ?_)
   refine R_condP rfl (fun hlt2 => ?_) (fun hlt2 => ?_)
   ·skip
    have hes := shR_size d a n
    have hgj := arr_get (d := shR d a n) (i := a + n + 1) (by omega)
    have hgi := arr_get (d := shR d a n) (i := a + n) (by omega)
    refine R_skip (qT (rS (R_block ?_)))
    refine R_open [(0, 0), (1, 0), (2, 0), (3, 0), (4, 0), (5, 0), (6, 0), (7, 0), (8, 0), (9, 1), (10, 0), (11, 0), (12, 0), (13, 1), (14, 0), (15, 3), (16, 0), (17, 3)] mixed (by kernel_rfl) (QOk.block (QOk.then (QOk.then (QOk.block (QOk.then (QOk.then QOk.body)))))) (oP rfl pM (k:=oP rfl pM (k:=oP rfl pM (k:=oP rfl pM (k:=?_)))))
    first | (refine O_pure rfl rfl rfl rfl (P_addN rfl rfl rfl (by simp only [fits]; omega)) ?_) | (refine O_pure rfl rfl rfl rfl (P_add rfl rfl rfl) ?_)
    refine oP rfl pM (k:=oP rfl pM (k:=?_))
    first | (refine O_pure rfl rfl rfl rfl (P_addN rfl rfl rfl (by simp only [fits]; omega)) ?_) | (refine O_pure rfl rfl rfl rfl (P_add rfl rfl rfl) ?_)
    refine oP rfl (P_ixs (a + n + 1) rfl ty_sl_37 rfl rfl (by first | rfl | omega) (by omega)) (k:=?_)
    refine oV rfl (V_loadAgg rfl rfl ty_ag_55 (rds_rc (rds_own .h0) hgj) (rfl)) (k:=oP rfl pM (k:=oP rfl pM (k:=?_)))
    refine oP rfl (P_ixs (a + n) rfl ty_sl_37 rfl rfl (by first | rfl | omega) (by omega)) (k:=?_)
    refine oV rfl (V_loadAgg rfl rfl ty_ag_55 (rds_rc (rds_own .h0) hgi) (rfl)) (k:=?_)
    refine oP rfl (P_ixs (a + n) rfl ty_sl_37 rfl rfl (by first | rfl | omega) (by omega)) (k:=?_)
    refine O_new rfl rfl (W_storeOwn (T := 55) (sz := 3) (n := d.size) (c := cap) (cs := rc (shR d a n).toList) rfl rfl rfl rfl ty_ag_55 rfl (Mem.cells_one _) .h0 (by rw [rc_length]; simp only [Array.length_toList]; show 0 + (a + n) * 3 + 3 ≤ _ * 3; omega) ?_)
    refine St.res (rs' := [ownS 55 3 (.slice (some ⟨b0, 0, none⟩) d.size cap) d.size (rc ((shR d a n).toList.set (a + n) (shR d a n)[a + n + 1]!))]) ((by have h9 := rc_splice (l := (shR d a n).toList) (i := a + n) (shR d a n)[a + n + 1]! (by simp only [Array.length_toList]; omega); rw [show Rec.n Mem = 3 from rfl] at h9; rw [Nat.zero_add, h9]; exact Weak.refl _)) ?_
    refine K_new ?_
    refine oP rfl (P_ixs (a + n + 1) rfl ty_sl_37 rfl rfl (by first | rfl | omega) (by omega)) (k:=?_)
    refine O_new rfl rfl (W_storeOwn (T := 55) (sz := 3) (n := d.size) (c := cap) (cs := rc ((shR d a n).toList.set (a + n) (shR d a n)[a + n + 1]!)) rfl rfl rfl rfl ty_ag_55 rfl (Mem.cells_one _) .h0 (by rw [rc_length]; rw [List.length_set]; simp only [Array.length_toList]; show 0 + (a + n + 1) * 3 + 3 ≤ _ * 3; omega) ?_)
    refine St.res (rs' := [ownS 55 3 (.slice (some ⟨b0, 0, none⟩) d.size cap) d.size (rc (swp (shR d a n) (a + n) (a + n + 1)).toList)]) ((by have h9 := rc_splice (l := (shR d a n).toList.set (a + n) (shR d a n)[a + n + 1]!) (i := a + n + 1) (shR d a n)[a + n]! (by rw [List.length_set]; simp only [Array.length_toList]; omega); rw [show Rec.n Mem = 3 from rfl] at h9; rw [Nat.zero_add, h9, ← swp_toList]; exact Weak.refl _)) ?_
    refine K_new (O_nil (Q_block (qT (rR (lM (k:=?_))))))
    first | (refine L_val rfl rfl rfl (OpP.v (P_addN rfl rfl rfl (by simp only [fits]; omega))) ?_) | (refine L_val rfl rfl rfl (OpP.v (P_add rfl rfl rfl)) ?_)
    refine lA (k:=?_)
    refine L_nil ?_
    exact Q_round (n + 1) (by omega) (by show i - 1 - a - (n + 1) < i - 1 - a - n; omega) (by repeat (first | exact .nil | refine .cons rfl ?_ | refine .consE rfl (by first | rfl | (congr 1; omega) | (congr 1; push_cast; omega)) ?_)) (Weak.refl _)
   ·skip
    have hn : n = i - 1 - a := by omega
    have hsg := fun k => shR_get d a n k (by omega)
    refine R_exit (Q_then_exit (Q_then_exit (Q_block_eq ?_)))
    refine St.env (cE 0 rfl (cE 1 rfl (cE 2 rfl (cE 3 rfl (cE 4 rfl .nil))))) (qT (R_ret (Q_then_ret ?_)))
    exact R_end (rs2 := _) rfl rfl (.nil) (⟨rfl, _, ⟨shR_perm d a a b (Nat.le_refl _) (by omega) n (by omega), merge_one swo_bt (i := i) (by omega) (by omega) (by rw [← hm1]; exact hSR) (fun c h5 h6 => hl c (by omega) h6) hr (fun k h5 h6 => by rw [hsg, if_pos ⟨h5, by omega⟩]) (by rw [hsg, if_neg (by omega), if_pos (by omega)]) (fun k h5 h6 => by rw [hsg, if_neg (by omega), if_neg (by omega)])⟩, rfl⟩) (Weak.refl _)
 ·skip
  have h1 : a + 1 < m := by omega
  refine R_skip (qT (rS (rT (lM (k:=lM (k:=?_))))))
  first | (refine L_val rfl rfl rfl (OpP.v (P_subN rfl rfl rfl (by simp only [fits]; omega))) ?_) | (refine L_val rfl rfl rfl (OpP.v (P_sub rfl rfl rfl)) ?_)
  refine E_as (t := 79) (v' := .int .i64 ((b - m : Nat) : Int)) rfl (by congr 1; omega) (lP pEq (k:=?_))
  refine lQ (cE 0 rfl (cE 1 rfl (cE 2 rfl (cE 3 rfl (cE 4 rfl (cE 80 rfl .nil)))))) ?_
  refine R_condP rfl (fun h2 => ?_) (fun h2 => ?_)
  ·skip
   have hb1 : b = m + 1 := by omega
   have hga := arr_get (d := d) (i := m) (by omega)
   refine rT (lM (k:=lA (k:=?_)))
   refine lQ (cE 0 rfl (cE 1 rfl (cE 2 rfl (cE 3 rfl (cE 4 rfl (cE 14 rfl .nil)))))) (rT (lM (k:=lA (k:=?_))))
   refine lQ (cE 0 rfl (cE 1 rfl (cE 2 rfl (cE 3 rfl (cE 4 rfl (cE 14 rfl (cE 15 rfl .nil))))))) (rS (R_block ?_))
   refine R_loopE (G := Nat × Nat) (cE 0 rfl (cE 1 rfl (cE 2 rfl (cE 3 rfl (cE 4 rfl .nil))))) (fun g => [(14, .int .i64 ((g.1 : Nat) : Int)), (15, .int .i64 ((g.2 : Nat) : Int))]) (fun _ => _) (fun g => a ≤ g.1 ∧ g.1 ≤ g.2 ∧ g.2 ≤ m ∧ (∀ c, a ≤ c → c < g.1 → bt d[m]! d[c]! = false) ∧ (∀ c, g.2 ≤ c → c < m → bt d[m]! d[c]! = true)) (fun g => g.2 - g.1) (a, m) (by show a ≤ (a) ∧ (a) ≤ (m) ∧ (m) ≤ m ∧ (∀ c, a ≤ c → c < (a) → bt d[m]! d[c]! = false) ∧ (∀ c, (m) ≤ c → c < m → bt d[m]! d[c]! = true); exact ⟨Nat.le_refl _, by omega, Nat.le_refl _, fun c _ _ => by omega, fun c _ _ => by omega⟩) (by repeat (first | exact .nil | refine .cons rfl ?_ | refine .consE rfl (by first | rfl | (congr 1; omega) | (congr 1; push_cast; omega)) ?_)) (Weak.refl _) ?_
   rintro ⟨i, j⟩ hinv
   replace hinv : a ≤ i ∧ i ≤ j ∧ j ≤ m ∧ (∀ c, a ≤ c → c < i → bt d[m]! d[c]! = false) ∧ (∀ c, j ≤ c → c < m → bt d[m]! d[c]! = true) := hinv
   show St (cx gl) _ ((14, .int .i64 ((i : Nat) : Int)) :: (15, .int .i64 ((j : Nat) : Int)) :: _) _ _
   obtain ⟨hmi, hij, hjb, hl, hr⟩ := hinv
   refine rS (rT (lM (k:=lM (k:=lP pLt (k:=?_)))))
   refine L_nil (qT ?_)
   refine R_condP rfl (fun hlt => ?_) (fun hlt => ?_)
   ·skip
    have hgh := arr_get (d := d) (i := (i + j) / 2) (by omega)
    refine R_skip (qT (R_block (rT (lM (k:=lM (k:=?_))))))
    first | (refine L_val rfl rfl rfl (OpP.v (P_addN rfl rfl rfl (by simp only [fits]; omega))) ?_) | (refine L_val rfl rfl rfl (OpP.v (P_add rfl rfl rfl)) ?_)
    first | (refine L_val rfl rfl rfl (OpP.v (P_convN rfl ty_int_3 ty_int_271 rfl (by simp only [fits]; omega))) ?_) | (refine L_val rfl rfl rfl (OpP.v (P_conv rfl ty_int_3 ty_int_271 rfl)) ?_)
    refine lP (P_shr rfl rfl rfl (by omega)) (k:=?_)
    refine E_as (t := 90) (v' := .int .u64 (((i + j) / 2 : Nat) : Int)) rfl (by have h9 := half_nat (i + j); push_cast at h9 ⊢; rw [h9]) ?_
    first | (refine L_val rfl rfl rfl (OpP.v (P_convN rfl ty_int_271 ty_int_3 rfl (by simp only [fits]; omega))) ?_) | (refine L_val rfl rfl rfl (OpP.v (P_conv rfl ty_int_271 ty_int_3 rfl)) ?_)
    refine lA (k:=?_)
    refine L_nil (qT (rS ?_))
    refine R_open [(0, 0), (1, 0), (2, 0), (3, 0), (4, 1), (5, 0), (6, 0), (7, 0), (8, 1), (9, 2), (10, 0), (11, 0)] mixed (by kernel_rfl) (QOk.then (QOk.block (QOk.then (QOk.block (QOk.then (QOk.then QOk.body)))))) (oP rfl pM (k:=oP rfl pM (k:=oP rfl pM (k:=?_))))
    refine oP rfl (P_ixs (m) rfl ty_sl_37 rfl rfl (by first | rfl | omega) (by omega)) (k:=?_)
    refine oV rfl (V_loadAgg rfl rfl ty_ag_55 (rds_rc (rds_own .h0) hga) (rfl)) (k:=oP rfl pM (k:=oP rfl pM (k:=?_)))
    refine oP rfl (P_ixs ((i + j) / 2) rfl ty_sl_37 rfl rfl (by first | rfl | omega) (by omega)) (k:=?_)
    refine oV rfl (V_loadAgg rfl rfl ty_ag_55 (rds_rc (rds_own .h0) hgh) (rfl)) (k:=?_)
    refine O_keep rfl rfl (W_callFV (fi := []) (ca := []) rfl rfl rfl rfl rfl rfl fn_ca_92 (seats1_ok (d[m]!) (d[(i + j) / 2]!)) (fun _ _ => trivial) (K_keep (Weak.refl _) (oP rfl pLt (k:=?_))))
    refine E_as (t := 102) (v' := .bool (bt (d[m]!) (d[(i + j) / 2]!))) rfl (by rw [← ltOf_bt]; rfl) (oP rfl pO (k:=O_nil (qT ?_)))
    refine R_cond rfl (fun hb => ?_) (fun hb => ?_)
    ·skip
     have hb : bt d[m]! d[(i + j) / 2]! = false := by simpa using hb
     refine rR (lM (k:=?_))
     first | (refine L_val rfl rfl rfl (OpP.v (P_addN rfl rfl rfl (by simp only [fits]; omega))) ?_) | (refine L_val rfl rfl rfl (OpP.v (P_add rfl rfl rfl)) ?_)
     refine lA (k:=?_)
     refine L_nil (Q_block ?_)
     exact Q_round ((i + j) / 2 + 1, j) (by show a ≤ ((i + j) / 2 + 1) ∧ ((i + j) / 2 + 1) ≤ (j) ∧ (j) ≤ m ∧ (∀ c, a ≤ c → c < ((i + j) / 2 + 1) → bt d[m]! d[c]! = false) ∧ (∀ c, (j) ≤ c → c < m → bt d[m]! d[c]! = true); exact ⟨by omega, by omega, hjb, up_all hl ((i + j) / 2) fun c hc1 hc2 => up_2 hSL hc1 hc2 (by omega) hb, hr⟩) (by show j - ((i + j) / 2 + 1) < j - i; omega) (by repeat (first | exact .nil | refine .cons rfl ?_ | refine .consE rfl (by first | rfl | (congr 1; omega) | (congr 1; push_cast; omega)) ?_)) (Weak.refl _)
    ·skip
     have hb : bt d[m]! d[(i + j) / 2]! = true := by simpa using hb
     refine rR (lM (k:=lA (k:=?_)))
     refine L_nil (Q_block ?_)
     exact Q_round (i, (i + j) / 2) (by show a ≤ (i) ∧ (i) ≤ ((i + j) / 2) ∧ ((i + j) / 2) ≤ m ∧ (∀ c, a ≤ c → c < (i) → bt d[m]! d[c]! = false) ∧ (∀ c, ((i + j) / 2) ≤ c → c < m → bt d[m]! d[c]! = true); exact ⟨hmi, by omega, by omega, hl, down_all hr ((i + j) / 2) fun c hc1 hc2 => down_2 hSL (by omega) hc1 (by omega) hb⟩) (by show (i + j) / 2 - i < j - i; omega) (by repeat (first | exact .nil | refine .cons rfl ?_ | refine .consE rfl (by first | rfl | (congr 1; omega) | (congr 1; push_cast; omega)) ?_)) (Weak.refl _)
   ·skip
    have hin : i = j := by omega
    rw [← hin] at hr
    refine R_exit (Q_then_exit (Q_then_exit (Q_block_eq ?_)))
    refine St.env (cE 0 rfl (cE 1 rfl (cE 2 rfl (cE 3 rfl (cE 4 rfl (cE 14 rfl .nil)))))) (qT (rS (rT (lM (k:=lA (k:=?_))))))
    refine lQ (cE 0 rfl (cE 1 rfl (cE 2 rfl (cE 3 rfl (cE 4 rfl (cE 14 rfl (cE 17 rfl .nil))))))) (R_block ?_)
    refine R_loopE (G := Nat) (cE 0 rfl (cE 1 rfl (cE 2 rfl (cE 3 rfl (cE 4 rfl (cE 14 rfl .nil)))))) (fun g => [(17, .int .i64 ((m - g : Nat) : Int))]) (fun g => [ownS 55 3 (.slice (some ⟨b0, 0, none⟩) d.size cap) d.size (rc (shL d m g).toList)]) (fun g => g ≤ m - i) (fun g => m - i - g) (0) (Nat.zero_le _) (by repeat (first | exact .nil | refine .cons rfl ?_ | refine .consE rfl (by first | rfl | (congr 1; omega) | (congr 1; push_cast; omega)) ?_)) (Weak.refl _) ?_
    intro n hinv
    replace hinv : n ≤ m - i := hinv
    show St (cx gl) _ ((17, .int .i64 ((m - n : Nat) : Int)) :: _) [ownS 55 3 (.slice (some ⟨b0, 0, none⟩) d.size cap) d.size (rc (shL d m n).toList)] _
    refine rS (rT (lM (k:=lM (k:=lP pGt (k:=?_)))))
    refine L_nil (qT ?_)
    refine R_condP rfl (fun hlt2 => ?_) (fun hlt2 => ?_)
    ·skip
     have hes := shL_size d m n
     have hgj := arr_get (d := shL d m n) (i := m - n - 1) (by omega)
     have hgi := arr_get (d := shL d m n) (i := m - n) (by omega)
     refine R_skip (qT (rS (R_block ?_)))
     refine R_open [(0, 0), (1, 0), (2, 0), (3, 0), (4, 0), (5, 0), (6, 0), (7, 0), (8, 0), (9, 1), (10, 0), (11, 0), (12, 0), (13, 1), (14, 0), (15, 3), (16, 0), (17, 3)] mixed (by kernel_rfl) (QOk.block (QOk.then (QOk.then (QOk.block (QOk.then (QOk.then QOk.body)))))) (oP rfl pM (k:=oP rfl pM (k:=oP rfl pM (k:=oP rfl pM (k:=?_)))))
     first | (refine O_pure rfl rfl rfl rfl (P_subN rfl rfl rfl (by simp only [fits]; omega)) ?_) | (refine O_pure rfl rfl rfl rfl (P_sub rfl rfl rfl) ?_)
     refine E_as (t := 117) (v' := .int .i64 ((m - n - 1 : Nat) : Int)) rfl (by congr 1; omega) (oP rfl pM (k:=oP rfl pM (k:=?_)))
     first | (refine O_pure rfl rfl rfl rfl (P_subN rfl rfl rfl (by simp only [fits]; omega)) ?_) | (refine O_pure rfl rfl rfl rfl (P_sub rfl rfl rfl) ?_)
     refine E_as (t := 120) (v' := .int .i64 ((m - n - 1 : Nat) : Int)) rfl (by congr 1; omega) ?_
     refine oP rfl (P_ixs (m - n - 1) rfl ty_sl_37 rfl rfl (by first | rfl | omega) (by omega)) (k:=?_)
     refine oV rfl (V_loadAgg rfl rfl ty_ag_55 (rds_rc (rds_own .h0) hgj) (rfl)) (k:=oP rfl pM (k:=oP rfl pM (k:=?_)))
     refine oP rfl (P_ixs (m - n) rfl ty_sl_37 rfl rfl (by first | rfl | omega) (by omega)) (k:=?_)
     refine oV rfl (V_loadAgg rfl rfl ty_ag_55 (rds_rc (rds_own .h0) hgi) (rfl)) (k:=?_)
     refine oP rfl (P_ixs (m - n) rfl ty_sl_37 rfl rfl (by first | rfl | omega) (by omega)) (k:=?_)
     refine O_new rfl rfl (W_storeOwn (T := 55) (sz := 3) (n := d.size) (c := cap) (cs := rc (shL d m n).toList) rfl rfl rfl rfl ty_ag_55 rfl (Mem.cells_one _) .h0 (by rw [rc_length]; simp only [Array.length_toList]; show 0 + (m - n) * 3 + 3 ≤ _ * 3; omega) ?_)
     refine St.res (rs' := [ownS 55 3 (.slice (some ⟨b0, 0, none⟩) d.size cap) d.size (rc ((shL d m n).toList.set (m - n) (shL d m n)[m - n - 1]!))]) ((by have h9 := rc_splice (l := (shL d m n).toList) (i := m - n) (shL d m n)[m - n - 1]! (by simp only [Array.length_toList]; omega); rw [show Rec.n Mem = 3 from rfl] at h9; rw [Nat.zero_add, h9]; exact Weak.refl _)) ?_
     refine K_new ?_
     refine oP rfl (P_ixs (m - n - 1) rfl ty_sl_37 rfl rfl (by first | rfl | omega) (by omega)) (k:=?_)
     refine O_new rfl rfl (W_storeOwn (T := 55) (sz := 3) (n := d.size) (c := cap) (cs := rc ((shL d m n).toList.set (m - n) (shL d m n)[m - n - 1]!)) rfl rfl rfl rfl ty_ag_55 rfl (Mem.cells_one _) .h0 (by rw [rc_length]; rw [List.length_set]; simp only [Array.length_toList]; show 0 + (m - n - 1) * 3 + 3 ≤ _ * 3; omega) ?_)
     refine St.res (rs' := [ownS 55 3 (.slice (some ⟨b0, 0, none⟩) d.size cap) d.size (rc (swp (shL d m n) (m - n) (m - n - 1)).toList)]) ((by have h9 := rc_splice (l := (shL d m n).toList.set (m - n) (shL d m n)[m - n - 1]!) (i := m - n - 1) (shL d m n)[m - n]! (by rw [List.length_set]; simp only [Array.length_toList]; omega); rw [show Rec.n Mem = 3 from rfl] at h9; rw [Nat.zero_add, h9, ← swp_toList]; exact Weak.refl _)) ?_
     refine K_new (O_nil (Q_block (qT (rR (lM (k:=?_))))))
     first | (refine L_val rfl rfl rfl (OpP.v (P_subN rfl rfl rfl (by simp only [fits]; omega))) ?_) | (refine L_val rfl rfl rfl (OpP.v (P_sub rfl rfl rfl)) ?_)
     refine E_as (t := 112) (v' := .int .i64 ((m - (n + 1) : Nat) : Int)) rfl (by congr 1; omega) (lA (k:=?_))
     refine L_nil ?_
     exact Q_round (n + 1) (by omega) (by show m - i - (n + 1) < m - i - n; omega) (by repeat (first | exact .nil | refine .cons rfl ?_ | refine .consE rfl (by first | rfl | (congr 1; omega) | (congr 1; push_cast; omega)) ?_)) (Weak.refl _)
    ·skip
     have hn : n = m - i := by omega
     have hsg := fun k => shL_get d m n k (by omega) (by omega)
     refine R_exit (Q_then_exit (Q_then_exit (Q_block_eq ?_)))
     refine St.env (cE 0 rfl (cE 1 rfl (cE 2 rfl (cE 3 rfl (cE 4 rfl .nil))))) (qT (R_ret (Q_then_ret ?_)))
     exact R_end (rs2 := _) rfl rfl (.nil) (⟨rfl, _, ⟨shL_perm d m a b (by omega) (by omega) n (by omega), by rw [hb1]; exact merge_last swo_bt (i := i) (by omega) (by omega) hSL hl hr (fun k h5 h6 => by rw [hsg, if_pos ⟨by omega, h6⟩]) (by rw [hsg, if_neg (by omega), if_pos (by omega)]) (fun k h5 h6 => by rw [hsg, if_neg (by omega), if_neg (by omega)])⟩, rfl⟩) (Weak.refl _)
  ·skip
   have h2 : m + 1 < b := by omega
   refine R_skip (qT (rS ?_))
   obtain ⟨mid, hmid⟩ : ∃ x, x = (a + b) / 2 := ⟨_, rfl⟩
   obtain ⟨s0, hs0⟩ : ∃ x, x = (if m > mid then mid + m - b else a) := ⟨_, rfl⟩
   obtain ⟨r0, hr0⟩ : ∃ x, x = (if m > mid then mid else m) := ⟨_, rfl⟩
   refine rR (lM (k:=lM (k:=?_)))
   first | (refine L_val rfl rfl rfl (OpP.v (P_addN rfl rfl rfl (by simp only [fits]; omega))) ?_) | (refine L_val rfl rfl rfl (OpP.v (P_add rfl rfl rfl)) ?_)
   first | (refine L_val rfl rfl rfl (OpP.v (P_convN rfl ty_int_3 ty_int_271 rfl (by simp only [fits]; omega))) ?_) | (refine L_val rfl rfl rfl (OpP.v (P_conv rfl ty_int_3 ty_int_271 rfl)) ?_)
   refine lP (P_shr rfl rfl rfl (by omega)) (k:=?_)
   refine E_as (t := 133) (v' := .int .u64 (((a + b) / 2 : Nat) : Int)) rfl (by have h9 := half_nat (a + b); push_cast at h9 ⊢; rw [h9]) ?_
   first | (refine L_val rfl rfl rfl (OpP.v (P_convN rfl ty_int_271 ty_int_3 rfl (by simp only [fits]; omega))) ?_) | (refine L_val rfl rfl rfl (OpP.v (P_conv rfl ty_int_271 ty_int_3 rfl)) ?_)
   refine E_as (t := 134) (v' := .int .i64 ((mid : Nat) : Int)) rfl (by rw [hmid]) (lA (k:=?_))
   refine lQ (cE 0 rfl (cE 1 rfl (cE 2 rfl (cE 3 rfl (cE 4 rfl (cE 18 rfl .nil)))))) (rT (lM (k:=lM (k:=?_))))
   first | (refine L_val rfl rfl rfl (OpP.v (P_addN rfl rfl rfl (by simp only [fits]; omega))) ?_) | (refine L_val rfl rfl rfl (OpP.v (P_add rfl rfl rfl)) ?_)
   refine lA (k:=?_)
   refine lQ (cE 0 rfl (cE 1 rfl (cE 2 rfl (cE 3 rfl (cE 4 rfl (cE 18 rfl (cE 19 rfl .nil))))))) (rT (lA (k:=lA (k:=?_))))
   refine L_nil (qT ?_)
   refine R_joinE0 (G := Unit) (cE 0 rfl (cE 1 rfl (cE 2 rfl (cE 3 rfl (cE 4 rfl (cE 18 rfl (cE 19 rfl .nil))))))) (fun g => [(20, .int .i64 ((s0 : Nat) : Int)), (21, .int .i64 ((r0 : Nat) : Int))]) (fun g => True) ?_ ?_
   ·skip
    refine rT (lM (k:=lM (k:=lP pGt (k:=?_))))
    refine lQ (cE 0 rfl (cE 1 rfl (cE 2 rfl (cE 3 rfl (cE 4 rfl (cE 18 rfl (cE 19 rfl (cE 20 rfl (cE 21 rfl (cE 140 rfl .nil)))))))))) ?_
    refine R_condP rfl (fun hgt => ?_) (fun hgt => ?_)
    ·skip
     refine rT (lM (k:=lM (k:=?_)))
     first | (refine L_val rfl rfl rfl (OpP.v (P_subN rfl rfl rfl (by simp only [fits]; omega))) ?_) | (refine L_val rfl rfl rfl (OpP.v (P_sub rfl rfl rfl)) ?_)
     refine E_as (t := 143) (v' := .int .i64 ((s0 : Nat) : Int)) rfl (by congr 1; rw [hs0, if_pos (by omega)]; omega) (lA (k:=?_))
     refine lQ (cE 0 rfl (cE 1 rfl (cE 2 rfl (cE 3 rfl (cE 4 rfl (cE 18 rfl (cE 19 rfl (cE 20 rfl (cE 21 rfl .nil))))))))) (rR (lM (k:=lA (k:=?_))))
     refine lE (cE 0 rfl (cE 1 rfl (cE 2 rfl (cE 3 rfl (cE 4 rfl (cE 18 rfl (cE 19 rfl (cE 20 rfl (cE 21 rfl .nil))))))))) ?_
     refine E_as (t := 20) (v' := .int .i64 ((s0 : Nat) : Int)) rfl (rfl) ?_
     refine E_as (t := 21) (v' := .int .i64 ((r0 : Nat) : Int)) rfl (by congr 1; rw [hr0, if_pos (by omega)]) ?_
     exact Q_meet () (trivial) (by repeat (first | exact .nil | refine .cons rfl ?_ | refine .consE rfl (by first | rfl | (congr 1; omega) | (congr 1; push_cast; omega)) ?_)) (Weak.refl _)
    ·skip
     refine rT (lM (k:=lA (k:=?_)))
     refine lQ (cE 0 rfl (cE 1 rfl (cE 2 rfl (cE 3 rfl (cE 4 rfl (cE 18 rfl (cE 19 rfl (cE 20 rfl (cE 21 rfl .nil))))))))) (rR (lM (k:=lA (k:=?_))))
     refine lE (cE 0 rfl (cE 1 rfl (cE 2 rfl (cE 3 rfl (cE 4 rfl (cE 18 rfl (cE 19 rfl (cE 20 rfl (cE 21 rfl .nil))))))))) ?_
     refine E_as (t := 20) (v' := .int .i64 ((s0 : Nat) : Int)) rfl (by congr 1; rw [hs0, if_neg (by omega)]) ?_
     refine E_as (t := 21) (v' := .int .i64 ((r0 : Nat) : Int)) rfl (by congr 1; rw [hr0, if_neg (by omega)]) ?_
     exact Q_meet () (trivial) (by repeat (first | exact .nil | refine .cons rfl ?_ | refine .consE rfl (by first | rfl | (congr 1; omega) | (congr 1; push_cast; omega)) ?_)) (Weak.refl _)
   ·rintro ⟨⟩ hinv
    replace hinv : True := hinv
    show St (cx gl) _ ((20, .int .i64 ((s0 : Nat) : Int)) :: (21, .int .i64 ((r0 : Nat) : Int)) :: _) _ _
    have hb0 : s0 ≤ r0 ∧ a ≤ s0 ∧ r0 ≤ m ∧ r0 ≤ mid := by rw [hs0, hr0]; (repeat' split) <;> omega
    have hb9 : mid + m ≤ s0 + b ∧ m ≤ mid + m - r0 := by rw [hs0, hr0]; (repeat' split) <;> omega
    refine rT (lM (k:=?_))
    first | (refine L_val rfl rfl rfl (OpP.v (P_subN rfl rfl rfl (by simp only [fits]; omega))) ?_) | (refine L_val rfl rfl rfl (OpP.v (P_sub rfl rfl rfl)) ?_)
    refine E_as (t := 148) (v' := .int .i64 ((mid + m - 1 : Nat) : Int)) rfl (by congr 1; omega) (lA (k:=?_))
    refine lQ (cE 0 rfl (cE 1 rfl (cE 2 rfl (cE 3 rfl (cE 4 rfl (cE 18 rfl (cE 19 rfl (cE 20 rfl (cE 21 rfl (cE 22 rfl .nil)))))))))) (rS (R_block ?_))
    refine R_loopE (G := Nat × Nat) (cE 0 rfl (cE 1 rfl (cE 2 rfl (cE 3 rfl (cE 4 rfl (cE 18 rfl (cE 19 rfl (cE 22 rfl .nil)))))))) (fun g => [(20, .int .i64 ((g.1 : Nat) : Int)), (21, .int .i64 ((g.2 : Nat) : Int))]) (fun _ => _) (fun g => s0 ≤ g.1 ∧ g.1 ≤ g.2 ∧ g.2 ≤ r0 ∧ (∀ c, s0 ≤ c → c < g.1 → bt d[mid + m - 1 - c]! d[c]! = false) ∧ (∀ c, g.2 ≤ c → c < r0 → bt d[mid + m - 1 - c]! d[c]! = true)) (fun g => g.2 - g.1) (s0, r0) (by show s0 ≤ (s0) ∧ (s0) ≤ (r0) ∧ (r0) ≤ r0 ∧ (∀ c, s0 ≤ c → c < (s0) → bt d[mid + m - 1 - c]! d[c]! = false) ∧ (∀ c, (r0) ≤ c → c < r0 → bt d[mid + m - 1 - c]! d[c]! = true); exact ⟨Nat.le_refl _, by omega, Nat.le_refl _, fun c _ _ => by omega, fun c _ _ => by omega⟩) (by repeat (first | exact .nil | refine .cons rfl ?_ | refine .consE rfl (by first | rfl | (congr 1; omega) | (congr 1; push_cast; omega)) ?_)) (Weak.refl _) ?_
    rintro ⟨s, r⟩ hinv
    replace hinv : s0 ≤ s ∧ s ≤ r ∧ r ≤ r0 ∧ (∀ c, s0 ≤ c → c < s → bt d[mid + m - 1 - c]! d[c]! = false) ∧ (∀ c, r ≤ c → c < r0 → bt d[mid + m - 1 - c]! d[c]! = true) := hinv
    show St (cx gl) _ ((20, .int .i64 ((s : Nat) : Int)) :: (21, .int .i64 ((r : Nat) : Int)) :: _) _ _
    obtain ⟨hsi, hsr, hrr, hl, hr⟩ := hinv
    refine rS (rT (lM (k:=lM (k:=lP pLt (k:=?_)))))
    refine L_nil (qT ?_)
    refine R_condP rfl (fun hlt => ?_) (fun hlt => ?_)
    ·skip
     have hgh := arr_get (d := d) (i := (s + r) / 2) (by omega)
     have hga := arr_get (d := d) (i := mid + m - 1 - (s + r) / 2) (by omega)
     refine R_skip (qT (R_block (rT (lM (k:=lM (k:=?_))))))
     first | (refine L_val rfl rfl rfl (OpP.v (P_addN rfl rfl rfl (by simp only [fits]; omega))) ?_) | (refine L_val rfl rfl rfl (OpP.v (P_add rfl rfl rfl)) ?_)
     first | (refine L_val rfl rfl rfl (OpP.v (P_convN rfl ty_int_3 ty_int_271 rfl (by simp only [fits]; omega))) ?_) | (refine L_val rfl rfl rfl (OpP.v (P_conv rfl ty_int_3 ty_int_271 rfl)) ?_)
     refine lP (P_shr rfl rfl rfl (by omega)) (k:=?_)
     refine E_as (t := 156) (v' := .int .u64 (((s + r) / 2 : Nat) : Int)) rfl (by have h9 := half_nat (s + r); push_cast at h9 ⊢; rw [h9]) ?_
     first | (refine L_val rfl rfl rfl (OpP.v (P_convN rfl ty_int_271 ty_int_3 rfl (by simp only [fits]; omega))) ?_) | (refine L_val rfl rfl rfl (OpP.v (P_conv rfl ty_int_271 ty_int_3 rfl)) ?_)
     refine lA (k:=?_)
     refine L_nil (qT (rS ?_))
     refine R_open [(0, 0), (1, 0), (2, 0), (3, 0), (4, 0), (5, 0), (6, 1), (7, 0), (8, 0), (9, 0), (10, 1), (11, 2), (12, 0), (13, 0)] mixed (by kernel_rfl) (QOk.then (QOk.block (QOk.then (QOk.block (QOk.then QOk.body))))) (oP rfl pM (k:=oP rfl pM (k:=oP rfl pM (k:=oP rfl pM (k:=?_)))))
     first | (refine O_pure rfl rfl rfl rfl (P_subN rfl rfl rfl (by simp only [fits]; omega)) ?_) | (refine O_pure rfl rfl rfl rfl (P_sub rfl rfl rfl) ?_)
     refine E_as (t := 162) (v' := .int .i64 ((mid + m - 1 - (s + r) / 2 : Nat) : Int)) rfl (by congr 1; omega) ?_
     refine oP rfl (P_ixs (mid + m - 1 - (s + r) / 2) rfl ty_sl_37 rfl rfl (by first | rfl | omega) (by omega)) (k:=?_)
     refine oV rfl (V_loadAgg rfl rfl ty_ag_55 (rds_rc (rds_own .h0) hga) (rfl)) (k:=oP rfl pM (k:=oP rfl pM (k:=?_)))
     refine oP rfl (P_ixs ((s + r) / 2) rfl ty_sl_37 rfl rfl (by first | rfl | omega) (by omega)) (k:=?_)
     refine oV rfl (V_loadAgg rfl rfl ty_ag_55 (rds_rc (rds_own .h0) hgh) (rfl)) (k:=?_)
     refine O_keep rfl rfl (W_callFV (fi := []) (ca := []) rfl rfl rfl rfl rfl rfl fn_ca_92 (seats1_ok (d[mid + m - 1 - (s + r) / 2]!) (d[(s + r) / 2]!)) (fun _ _ => trivial) (K_keep (Weak.refl _) (oP rfl pLt (k:=?_))))
     refine E_as (t := 170) (v' := .bool (bt (d[mid + m - 1 - (s + r) / 2]!) (d[(s + r) / 2]!))) rfl (by rw [← ltOf_bt]; rfl) (oP rfl pO (k:=O_nil (qT ?_)))
     refine R_cond rfl (fun hb => ?_) (fun hb => ?_)
     ·skip
      have hb : bt d[mid + m - 1 - (s + r) / 2]! d[(s + r) / 2]! = false := by simpa using hb
      refine rR (lM (k:=?_))
      first | (refine L_val rfl rfl rfl (OpP.v (P_addN rfl rfl rfl (by simp only [fits]; omega))) ?_) | (refine L_val rfl rfl rfl (OpP.v (P_add rfl rfl rfl)) ?_)
      refine lA (k:=?_)
      refine L_nil (Q_block ?_)
      exact Q_round ((s + r) / 2 + 1, r) (by show s0 ≤ ((s + r) / 2 + 1) ∧ ((s + r) / 2 + 1) ≤ (r) ∧ (r) ≤ r0 ∧ (∀ c, s0 ≤ c → c < ((s + r) / 2 + 1) → bt d[mid + m - 1 - c]! d[c]! = false) ∧ (∀ c, (r) ≤ c → c < r0 → bt d[mid + m - 1 - c]! d[c]! = true); exact ⟨by omega, by omega, hrr, up_all hl ((s + r) / 2) fun c hc1 hc2 => up_3 (mid := mid) hSL hSR (by omega) hc2 (by omega) (by omega) (by omega) hb, hr⟩) (by show r - ((s + r) / 2 + 1) < r - s; omega) (by repeat (first | exact .nil | refine .cons rfl ?_ | refine .consE rfl (by first | rfl | (congr 1; omega) | (congr 1; push_cast; omega)) ?_)) (Weak.refl _)
     ·skip
      have hb : bt d[mid + m - 1 - (s + r) / 2]! d[(s + r) / 2]! = true := by simpa using hb
      refine rR (lM (k:=lA (k:=?_)))
      refine L_nil (Q_block ?_)
      exact Q_round (s, (s + r) / 2) (by show s0 ≤ (s) ∧ (s) ≤ ((s + r) / 2) ∧ ((s + r) / 2) ≤ r0 ∧ (∀ c, s0 ≤ c → c < (s) → bt d[mid + m - 1 - c]! d[c]! = false) ∧ (∀ c, ((s + r) / 2) ≤ c → c < r0 → bt d[mid + m - 1 - c]! d[c]! = true); exact ⟨hsi, by omega, by omega, hl, down_all hr ((s + r) / 2) fun c hc1 hc2 => search_mono' (mid := mid) hSL hSR (by omega) hc1 (by omega) (by omega) (by omega) hb⟩) (by show (s + r) / 2 - s < r - s; omega) (by repeat (first | exact .nil | refine .cons rfl ?_ | refine .consE rfl (by first | rfl | (congr 1; omega) | (congr 1; push_cast; omega)) ?_)) (Weak.refl _)
    ·skip
     have hin : s = r := by omega
     subst hin
     refine R_exit (Q_then_exit (Q_then_exit (Q_block_eq ?_)))
     refine St.env (cE 0 rfl (cE 1 rfl (cE 2 rfl (cE 3 rfl (cE 4 rfl (cE 18 rfl (cE 19 rfl (cE 20 rfl .nil)))))))) (qT (rT (lM (k:=lM (k:=?_)))))
     first | (refine L_val rfl rfl rfl (OpP.v (P_subN rfl rfl rfl (by simp only [fits]; omega))) ?_) | (refine L_val rfl rfl rfl (OpP.v (P_sub rfl rfl rfl)) ?_)
     refine E_as (t := 177) (v' := .int .i64 ((mid + m - s : Nat) : Int)) rfl (by congr 1; omega) (lA (k:=?_))
     refine lQ (cE 0 rfl (cE 1 rfl (cE 2 rfl (cE 3 rfl (cE 4 rfl (cE 18 rfl (cE 20 rfl (cE 24 rfl .nil)))))))) ?_
     refine R_joinE (G := Array Mem) (cE 0 rfl (cE 1 rfl (cE 3 rfl (cE 4 rfl (cE 18 rfl (cE 20 rfl (cE 24 rfl .nil))))))) (fun g => []) (fun g => [ownS 55 3 (.slice (some ⟨b0, 0, none⟩) d.size cap) d.size (rc (g).toList)]) (fun g => g.size = d.size ∧ PermIn a b d g ∧ Rot s m (mid + m - s) d g) ?_ ?_
     ·skip
      refine rT (lM (k:=lM (k:=lP pLt (k:=?_))))
      refine E_bool (t := 180) rfl (fun hp => ?_) (fun hp => ?_)
      ·skip
       have hp := of_decide_eq_true hp
       refine lM (k:=lM (k:=lM (k:=lP pLt (k:=lP pK (k:=?_)))))
       refine lQ (cE 0 rfl (cE 1 rfl (cE 2 rfl (cE 3 rfl (cE 4 rfl (cE 18 rfl (cE 20 rfl (cE 24 rfl (cE 185 rfl .nil))))))))) ?_
       refine R_condP rfl (fun hq => ?_) (fun hq => ?_)
       ·skip
        refine rR (lM (k:=lM (k:=lM (k:=lM (k:=lM (k:=?_))))))
        refine lO (W_call rfl rfl rfl rfl fn_ca_274 (rot_ok b0 cap d s m (mid + m - s) (by omega) (by omega) (by omega) hsz hcap (.func (.func 92) #[] #[])) (Split.one (p := [])) (fun _ _ _ _ _ _ _ => trivial) fun vv rs1 ⟨z1, e1, ⟨hr1, hp1⟩, z2⟩ => ?_)
        subst z1; subst z2
        refine St.res (rs' := [ownS 55 3 (.slice (some ⟨b0, 0, none⟩) d.size cap) d.size (rc (e1).toList)]) (Weak.refl _) ?_
        refine lE (cE 0 rfl (cE 1 rfl (cE 3 rfl (cE 4 rfl (cE 18 rfl (cE 20 rfl (cE 24 rfl .nil))))))) ?_
        exact Q_meet (e1) (by show (e1).size = d.size ∧ PermIn a b d (e1) ∧ Rot s m (mid + m - s) d (e1); exact ⟨hr1.1, permMono hp1 (by omega) (by omega) (by omega), hr1⟩) (by repeat (first | exact .nil | refine .cons rfl ?_ | refine .consE rfl (by first | rfl | (congr 1; omega) | (congr 1; push_cast; omega)) ?_)) (Weak.refl _)
       ·skip
        refine R_skip ?_
        exact Q_meet (d) (by show (d).size = d.size ∧ PermIn a b d (d) ∧ Rot s m (mid + m - s) d (d); exact ⟨rfl, permIn_refl _ _ _, Rot.triv (by omega) (by omega) (by omega)⟩) (by repeat (first | exact .nil | refine .cons rfl ?_ | refine .consE rfl (by first | rfl | (congr 1; omega) | (congr 1; push_cast; omega)) ?_)) (Weak.refl _)
      ·skip
       have hp := of_decide_eq_false hp
       refine lM (k:=lN (k:=lN (k:=lN (k:=lP pK (k:=?_)))))
       refine lQ (cE 0 rfl (cE 1 rfl (cE 2 rfl (cE 3 rfl (cE 4 rfl (cE 18 rfl (cE 20 rfl (cE 24 rfl (cE 185 rfl .nil))))))))) (kF (k:=R_skip ?_))
       exact Q_meet (d) (by show (d).size = d.size ∧ PermIn a b d (d) ∧ Rot s m (mid + m - s) d (d); exact ⟨rfl, permIn_refl _ _ _, Rot.triv (by omega) (by omega) (by omega)⟩) (by repeat (first | exact .nil | refine .cons rfl ?_ | refine .consE rfl (by first | rfl | (congr 1; omega) | (congr 1; push_cast; omega)) ?_)) (Weak.refl _)
     ·intro e hinv
      replace hinv : e.size = d.size ∧ PermIn a b d e ∧ Rot s m (mid + m - s) d e := hinv
      show St (cx gl) _ _ [ownS 55 3 (.slice (some ⟨b0, 0, none⟩) d.size cap) d.size (rc (e).toList)] _
      obtain ⟨hes, hpe, hrot⟩ := hinv
      obtain ⟨q1, q2, q3, q4, q5⟩ := merge_parts swo_bt ham hmb hb hmid hSL hSR (by rw [← hs0]; exact hsi) (by rw [← hr0]; exact hrr) (fun c h5 h6 => hl c (by rw [hs0]; exact h5) h6) (fun c h5 h6 => hr c h5 (by rw [hr0]; exact h6)) hrot
      refine R_joinE (G := Array Mem) (cE 0 rfl (cE 3 rfl (cE 4 rfl (cE 18 rfl (cE 24 rfl .nil))))) (fun g => []) (fun g => [ownS 55 3 (.slice (some ⟨b0, 0, none⟩) d.size cap) d.size (rc (g).toList)]) (fun g => g.size = d.size ∧ PermIn a mid e g ∧ SortedIn bt a mid g) ?_ ?_
      ·skip
       refine rT (lM (k:=lM (k:=lP pLt (k:=?_))))
       refine E_bool (t := 194) rfl (fun hp2 => ?_) (fun hp2 => ?_)
       ·skip
        have hp2 := of_decide_eq_true hp2
        refine lM (k:=lM (k:=lM (k:=lP pLt (k:=lP pK (k:=?_)))))
        refine lQ (cE 0 rfl (cE 1 rfl (cE 3 rfl (cE 4 rfl (cE 18 rfl (cE 20 rfl (cE 24 rfl (cE 199 rfl .nil)))))))) ?_
        refine R_condP rfl (fun hq2 => ?_) (fun hq2 => ?_)
        ·skip
         refine rR (lM (k:=lM (k:=lM (k:=lM (k:=lM (k:=?_))))))
         refine lO (W_call rfl rfl rfl rfl fn_ca_222 (hrec e hes a s mid (by omega) (by omega) (by omega) (by omega) q1 q2) (Split.one (p := [])) (fun _ _ _ _ _ _ _ => trivial) fun vv rs1 ⟨z1, e3, ⟨hp3, hs3⟩, z2⟩ => ?_)
         subst z1; subst z2
         refine St.res (rs' := [ownS 55 3 (.slice (some ⟨b0, 0, none⟩) d.size cap) d.size (rc (e3).toList)]) (Weak.refl _) ?_
         refine lE (cE 0 rfl (cE 3 rfl (cE 4 rfl (cE 18 rfl (cE 24 rfl .nil))))) ?_
         exact Q_meet (e3) (by show (e3).size = d.size ∧ PermIn a mid e (e3) ∧ SortedIn bt a mid (e3); exact ⟨by rw [hp3.1, hes], hp3, hs3⟩) (by repeat (first | exact .nil | refine .cons rfl ?_ | refine .consE rfl (by first | rfl | (congr 1; omega) | (congr 1; push_cast; omega)) ?_)) (Weak.refl _)
        ·skip
         refine R_skip ?_
         exact Q_meet (e) (by show (e).size = d.size ∧ PermIn a mid e (e) ∧ SortedIn bt a mid (e); exact ⟨hes, permIn_refl _ _ _, sort_edge q1 q2 (by omega)⟩) (by repeat (first | exact .nil | refine .cons rfl ?_ | refine .consE rfl (by first | rfl | (congr 1; omega) | (congr 1; push_cast; omega)) ?_)) (Weak.refl _)
       ·skip
        have hp2 := of_decide_eq_false hp2
        refine lM (k:=lN (k:=lN (k:=lN (k:=lP pK (k:=?_)))))
        refine lQ (cE 0 rfl (cE 1 rfl (cE 3 rfl (cE 4 rfl (cE 18 rfl (cE 20 rfl (cE 24 rfl (cE 199 rfl .nil)))))))) (kF (k:=R_skip ?_))
        exact Q_meet (e) (by show (e).size = d.size ∧ PermIn a mid e (e) ∧ SortedIn bt a mid (e); exact ⟨hes, permIn_refl _ _ _, sort_edge q1 q2 (by omega)⟩) (by repeat (first | exact .nil | refine .cons rfl ?_ | refine .consE rfl (by first | rfl | (congr 1; omega) | (congr 1; push_cast; omega)) ?_)) (Weak.refl _)
      ·intro e2 hinv
       replace hinv : e2.size = d.size ∧ PermIn a mid e e2 ∧ SortedIn bt a mid e2 := hinv
       show St (cx gl) _ _ [ownS 55 3 (.slice (some ⟨b0, 0, none⟩) d.size cap) d.size (rc (e2).toList)] _
       obtain ⟨he2, hpe2, hso2⟩ := hinv
       have q3' := sortEq q3 fun k h5 h6 => hpe2.2.1 k (.inr h5)
       have q4' := sortEq q4 fun k h5 h6 => hpe2.2.1 k (.inr (by omega))
       have q5' := between_perm (by omega) (by omega) q5 hpe2
       refine rT (lM (k:=lM (k:=lP pLt (k:=?_))))
       refine E_bool (t := 208) rfl (fun hp4 => ?_) (fun hp4 => ?_)
       ·skip
        have hp4 := of_decide_eq_true hp4
        refine lM (k:=lM (k:=lM (k:=lP pLt (k:=lP pK (k:=?_)))))
        refine lQ (cE 0 rfl (cE 3 rfl (cE 4 rfl (cE 18 rfl (cE 24 rfl (cE 213 rfl .nil)))))) ?_
        refine R_condP rfl (fun hq4 => ?_) (fun hq4 => ?_)
        ·skip
         refine rR (lM (k:=lM (k:=lM (k:=lM (k:=lM (k:=?_))))))
         refine lO (W_call rfl rfl rfl rfl fn_ca_222 (hrec e2 he2 mid (mid + m - s) b (by omega) (by omega) (by omega) (by omega) q3' q4') (Split.one (p := [])) (fun _ _ _ _ _ _ _ => trivial) fun vv rs1 ⟨z1, e5, ⟨hp5, hs5⟩, z2⟩ => ?_)
         subst z1; subst z2
         refine St.res (rs' := [ownS 55 3 (.slice (some ⟨b0, 0, none⟩) d.size cap) d.size (rc (e5).toList)]) (Weak.refl _) ?_
         refine lE (.nil) ?_
         exact R_end0 (rs2 := _) rfl rfl (.nil) (⟨rfl, e5, ⟨permTr hpe (permTr (permMono hpe2 (by omega) (by omega) (by omega)) (permMono hp5 (by omega) (by omega) (by omega))), merge_join (sortEq hso2 fun k h5 h6 => hp5.2.1 k (.inl h6)) hs5 (between_perm' (by omega) q5' hp5)⟩, rfl⟩) (Weak.refl _)
        ·skip
         refine R_skip ?_
         exact R_end0 (rs2 := _) rfl rfl (.nil) (⟨rfl, e2, ⟨permTr hpe (permTr (permMono hpe2 (by omega) (by omega) (by omega)) (permIn_refl _ _ _)), merge_join hso2 (sort_edge q3' q4' (by omega)) q5'⟩, rfl⟩) (Weak.refl _)
       ·skip
        have hp4 := of_decide_eq_false hp4
        refine lM (k:=lN (k:=lN (k:=lN (k:=lP pK (k:=?_)))))
        refine lQ (cE 0 rfl (cE 3 rfl (cE 4 rfl (cE 18 rfl (cE 24 rfl (cE 213 rfl .nil)))))) (kF (k:=R_skip ?_))
        exact R_end0 (rs2 := _) rfl rfl (.nil) (⟨rfl, e2, ⟨permTr hpe (permTr (permMono hpe2 (by omega) (by omega) (by omega)) (permIn_refl _ _ _)), merge_join hso2 (sort_edge q3' q4' (by omega)) q5'⟩, rfl⟩) (Weak.refl _)
theorem sym_ok {gl : Nat → Obj} : ∀ N, SymOk gl N
 | 0 => fun b0 cap d a m b h1 h2 h3 _ _ _ _ _ => by omega
 | N + 1 => fun b0 cap d a m b h1 h2 h3 h4 h5 h6 h7 h8 => sym_step N (sym_ok N) b0 cap d a m b h1 h2 h3 h4 h5 h6 h7 h8
end Go.Proofs.YtcngmkjdpoiiaaaGreatDoor
