/- The eighth part of the program logic: strings of bytes; how a call's rule becomes a row's. -/
import Derived.Test.YtfhjhaogmdaepaaEngG
import Derived.Test.YtfhjhaogmdaepaaTy
import Derived.Test.YtfhjhaogmdaepaaRows
import Derived.ProofKit
import Derived.LaidMore
import Derived.OpenShut
import Derived.Stop.Joined
import Derived.Carry
import Derived.ChangeOld
import Derived.ChangeSlices
import Derived.MakeChecks
import Derived.SizedLaws
import Derived.FnData
set_option linter.unusedVariables false
set_option linter.unusedSimpArgs false
namespace Go.Proofs.Ytfhjhaogmdaepaa
open Go Go.RowKit Go.ChangeShapes Go.WideShapes

/-- All are bytes. -/
def IsB (xs : List Int) : Prop := ∀ x ∈ xs, 0 ≤ x ∧ x ≤ 255
theorem strOfNums_inj {xs ys : List Int} (hx : IsB xs) (hy : IsB ys) : (strOfNums xs).toList = (strOfNums ys).toList ↔ xs = ys := by
  constructor
  · intro h
    have h2 : (xs.map fun n => UInt8.ofNat n.toNat) = ys.map fun n => UInt8.ofNat n.toNat := by
      have e : ∀ zs : List Int, (strOfNums zs).toList = zs.map fun n => UInt8.ofNat n.toNat := fun zs => by
        rw [ByteArray.toList_eq, strOfNums_data]
      rw [e, e] at h; exact h
    clear h
    induction xs generalizing ys with
    | nil => cases ys with
      | nil => rfl
      | cons y ys => simp at h2
    | cons x xs ih =>
      cases ys with
      | nil => simp at h2
      | cons y ys =>
        simp only [List.map_cons, List.cons.injEq] at h2
        have hx0 := hx x (by simp)
        have hy0 := hy y (by simp)
        have e : x.toNat = y.toNat := by
          have := congrArg UInt8.toNat h2.1
          simp only [UInt8.toNat_ofNat'] at this
          omega
        have : x = y := by omega
        subst this
        rw [ih (fun z hz => hx z (by simp [hz])) (fun z hz => hy z (by simp [hz])) h2.2]
  · rintro rfl; rfl
section
variable {C : Cx} {F : Fx} {l : Env} {rs rs' : List HP} {K : Act → World → Prop} {o : Oper} {Q : Exit → Act → World → Prop} {d : Nat}
theorem V_str {t t' e c : Nat} {x : Operand} {base : Option Addr} {xs : List Int} (ho : o.op = .convert t t' x) (hs : C.P.underlying t = some (.slice e)) (he : C.P.underlying e = some (.int .u8)) (ht : C.P.underlying t' = some .string) (hx : ev l x = some (.slice base xs.length c)) (hr : Rw C F rs base (ints .u8 xs)) : OpV C F l rs o (.string (strOfNums xs)) := fun a w r n => by
  simp only [execOp, ho, r.ev hx, Sem.run_bind]
  rcases (hr w n).cases with h0 | ⟨b, j, rfl, hrow⟩
  · have : xs = [] := by cases xs with | nil => rfl | cons => cases h0
    subst this
    cases base with
    | none => rw [run_convert_bytes_nil w t e hs he _ _ t' ht]; rfl
    | some ad =>
      obtain ⟨b, j, sp⟩ := ad
      have hl : (loadCells ⟨b, j, sp⟩ ([] : List Int).length).run C.P w = .ok #[] w := run_loadCells_list w _ [] (fun _ _ h => by cases h)
      rw [run_convert_bytes_string w t t' e _ _ _ hs he ht, run_bytesToString w ⟨b, j, sp⟩ _ c [] hl]
      rfl
  · rw [run_convert_bytes_arg w t e hs he b j xs.length c xs rfl (fun i hi => by
      have := hrow i _ (ints_at (k := .u8) hi)
      rwa [add_zero_off] at this) t' ht]
    rfl
theorem Now.putFr {w w' : World} {b T : Nat} {cs : List Value} (n : Now C F rs w) (m : Has rs (blk b cs T) (blk b cs T) rs)
    (h : ∀ fr, w.heap[b]? = some (.cells cs.toArray T fr) → (fr.1 = fr.2 ∨ cs.length ≤ fr.1) → ∃ fr' : Nat × Nat, (fr'.1 = fr'.2 ∨ cs.length ≤ fr'.1) ∧ PutRel w b (.cells cs.toArray T fr') w') : Now C F rs w' := by
  obtain ⟨k, s, mv⟩ := n
  obtain ⟨a, c, ⟨fr, hf, rfl⟩, dj, rfl, back⟩ := Sep.take m s
  have hb := mv.sub b _ (Heap.le_join_left _ _ b _ (Heap.one_same _ _))
  obtain ⟨fr', hf', p⟩ := h fr hb hf
  obtain ⟨dj2, mv2⟩ := mv.put dj p.os p.tape p.output p.drawn p.size p.at_ p.other
  exact ⟨_, back _ ⟨fr', hf', rfl⟩ dj2, mv2⟩
/-- []byte(x) of a slice of bytes of the call's own. -/
theorem W_mark {t e b j n c T : Nat} {x : Operand} {cs : List Value} (ho : o.op = .convert t t x) (hd : o.dst = some d) (hn : Nat.blt d F.n = true) (ht : C.P.underlying t = some (.slice e)) (he : C.P.underlying e = some (.int .u8)) (hx : ev l x = some (.slice (some ⟨b, j, none⟩) n c))
    (m : Has rs (blk b cs T) (blk b cs T) rs) (k : St C F ((d, .slice (some ⟨b, j, none⟩) n c) :: l) rs K) : OpW C F l rs o K Q := fun a w r nw => by
  obtain ⟨fr, hg, hf⟩ := nw.getBlk m
  unfold Oper.wp
  have hsh : (shape b).run C.P w = .ok (some (T, cs.length)) w := by simp [shape, Sem.run, World.shape?, hg]
  have : (execOp a.eval o).run C.P w = .ok (.value (.slice (some ⟨b, j, none⟩) n c)) (w.freeze ⟨b, cs.length, none⟩ 1) := by
    simp [execOp, ho, r.ev hx, convert, run_underlying ht, run_underlying he, markStringish, hsh]
  rw [this]
  show K (a.put o.dst _) _
  rw [hd]
  refine k _ _ (r.put hn _) (nw.putFr m fun fr' hg' _ => ?_)
  rw [hg] at hg'
  injection hg' with hg'
  injection hg' with _ _ e
  subst e
  refine ⟨if fr.1 == fr.2 then (cs.length, cs.length + 1) else (min fr.1 cs.length, max fr.2 (cs.length + 1)), ?_, rfl, rfl, rfl, rfl, ?_, ?_, ?_⟩
  · by_cases h : fr.1 = fr.2
    · simp [h]
    · rcases hf with hf | hf
      · exact absurd hf h
      · simp [h]; omega
  · simp [World.freeze]
  · simp only [World.freeze]
    rw [if_neg (by decide)]
    show (w.heap.modify b _)[b]? = _
    rw [Array.getElem?_modify, if_pos rfl, hg]
    rfl
  · intro i hi
    simp only [World.freeze]
    rw [if_neg (by decide)]
    show (w.heap.modify b _)[i]? = _
    rw [Array.getElem?_modify, if_neg (fun h => hi h.symm)]
theorem P_eqStr {t t' : Nat} {x y : Operand} {xs ys : List Int} (ho : o.op = .binOp .eql t x y t') (hx : ev l x = some (.string (strOfNums xs))) (hy : ev l y = some (.string (strOfNums ys))) (h1 : IsB xs) (h2 : IsB ys) : OpP C F l o (.bool (decide (xs = ys))) := fun a w r => by
  have : ((strOfNums xs).toList == (strOfNums ys).toList) = decide (xs = ys) := by
    by_cases h : xs = ys
    · subst h; simp
    · have := mt (strOfNums_inj h1 h2).1 h; simp [h, this]
  simp [execOp, ho, r.ev hx, r.ev hy, binOp, eqGuard, Op.stringOp, this]
theorem P_neStr {t t' : Nat} {x y : Operand} {xs ys : List Int} (ho : o.op = .binOp .neq t x y t') (hx : ev l x = some (.string (strOfNums xs))) (hy : ev l y = some (.string (strOfNums ys))) (h1 : IsB xs) (h2 : IsB ys) : OpP C F l o (.bool (decide (xs ≠ ys))) := fun a w r => by
  have : ((strOfNums xs).toList == (strOfNums ys).toList) = decide (xs = ys) := by
    by_cases h : xs = ys
    · subst h; simp
    · have := mt (strOfNums_inj h1 h2).1 h; simp [h, this]
  simp [execOp, ho, r.ev hx, r.ev hy, binOp, eqGuard, Op.stringOp, this]
end

theorem Move.below {C : Cx} {W W' : World} {h : Heap} (m : Move C W Heap.none W' h) : Below W.heap.size W W' := ⟨m.os, m.tape, m.output, m.size, fun k hk => m.keep k hk rfl⟩
theorem Spec.calls {C : Cx} {f : FuncId} {args : List Value} {pre : World → Heap → Prop} {post : Value → List HP → Prop} {W : World} (s : Spec C f args pre [] post) (hok : C.ok W) (hp : pre W Heap.none) :
    Calls C.P f args.toArray W (fun e W' => ∃ v rs, e = .returned v ∧ post v rs ∧ Below W.heap.size W W') :=
  (s W Heap.none rfl ⟨fun _ _ h => by (cases h), fun _ _ h => by (cases h), hok⟩ hp).mono fun e W' ⟨v, rs, h', e1, e2, _, m⟩ => ⟨v, rs, e1, e2, m.below⟩
theorem SpecV.calls {C : Cx} {f : FuncId} {args : List Value} {pre : World → Prop} {v : Value} {W : World} (s : SpecV C f args pre v) (hok : C.ok W) (hp : pre W) : Calls C.P f args.toArray W (fun e W' => e = .returned v ∧ Below W.heap.size W W') :=
  (Spec.calls s hok hp).mono fun e W' ⟨u, rs, e1, e2, b⟩ => ⟨by rw [e1, e2.1], b⟩

section
variable {H : Type} {enc : TypeId × Value → H} {P : Program} {w : World} {base : Nat} {spare : Nat → Bool} {held : Bool}
/-- An array of whole numbers is read. -/
theorem open_intArr {t n e fuel : Nat} {k : IntKind} {cs : List Value} {x : DataW H × List MemPlace} (ht : P.underlying t = some (.array n e)) (he : P.underlying e = some (.int k)) (hc : P.cellsOf e = 1) (hct : P.cellsOf t = n)
    (h : DataW.trod enc P w base spare held fuel t cs = some x) : ∃ zs : List Int, cs = ints k zs ∧ zs.length = n ∧ x = (.agg (lits k zs), []) ∧ ∀ z ∈ zs, (Lit.int k z).wf = true := by
  obtain ⟨xs, m, rfl, hx, hlen, hn, hel⟩ := DataW.trod_array ht h
  have each : ∀ i, i < n → ∃ z, cs[i]? = some (.int k z) ∧ xs[i]? = some (.lit (.int k z), []) ∧ (Lit.int k z).wf = true := by
    intro i hi
    have h1 := hel i hi
    have hxi : xs[i]? = some xs[i] := List.getElem?_eq_getElem (by omega)
    rw [hxi, hc, Nat.mul_one] at h1
    obtain ⟨z, e1, e2, e3⟩ := DataW.trod_int he h1
    refine ⟨z, ?_, by rw [hxi, e2], e3⟩
    have : ((cs.drop i).take 1)[0]? = some (.int k z) := by rw [e1]; rfl
    simpa using this
  have hlit : ∀ i z, i < n → cs[i]? = some (.int k z) → xs[i]? = some (.lit (.int k z), []) := fun i z hi hz => by
    obtain ⟨z', h1, h2, _⟩ := each i hi
    rw [h1, Option.some.injEq, Value.int.injEq] at hz
    rw [h2, hz.2]
  refine ⟨xs.map fun y => numOf y, ?_, by simp [hn], ?_, ?_⟩
  · apply List.ext_getElem?
    intro i
    by_cases hi : i < n
    · obtain ⟨z, h1, h2, _⟩ := each i hi
      rw [h1]; simp [ints, h2, numOf]
    · rw [List.getElem?_eq_none (by omega), List.getElem?_eq_none (by simp [ints]; omega)]
  · rw [hx]
    congr 1
    · congr 1
      apply List.ext_getElem?
      intro i
      by_cases hi : i < n
      · obtain ⟨z, h1, h2, _⟩ := each i hi
        simp [lits, h2, numOf]
      · rw [List.getElem?_eq_none (by simp; omega), List.getElem?_eq_none (by simp [lits]; omega)]
    · rw [List.flatMap_eq_nil_iff]
      intro y hy
      obtain ⟨i, hi, e⟩ := List.mem_iff_getElem.1 hy
      obtain ⟨z, _, h2, _⟩ := each i (by omega)
      rw [List.getElem?_eq_getElem hi, e] at h2
      rw [Option.some.inj h2]
  · intro z hz
    obtain ⟨y, hy, rfl⟩ := List.mem_map.1 hz
    obtain ⟨i, hi, e⟩ := List.mem_iff_getElem.1 hy
    obtain ⟨z, _, h2, h3⟩ := each i (by omega)
    rw [List.getElem?_eq_getElem hi, e] at h2
    rw [Option.some.inj h2]; exact h3
theorem lits_inj {k : IntKind} {xs ys : List Int} (h : lits (H := H) k xs = lits k ys) : xs = ys := by
  unfold lits at h
  exact (List.map_inj_right (fun a b h => by injection h with h; injection h)).1 h
theorem var_heap {n : String} {g : Nat} {cs : Array Value} (hg : P.globalNamed n = some g) (h : w.var? P n = some cs) : ∃ T fr, w.heap[g]? = some (.cells cs T fr) := by
  simp only [World.var?, hg, Option.bind_some] at h
  split at h
  · rename_i cs' T fr hh
    rw [Option.some.injEq] at h
    subst h; exact ⟨T, fr, hh⟩
  · cases h
/-- The arguments read behind the call as they did. -/
theorem below_trodAll (hl : laidOutB P = true) {W W' : World} (hb : Below W.heap.size W W') : ∀ {ts : List TypeId} {vs : List Value} {ds : List (DataW H)} {ps : List MemPlace}, (ts.all fun t => P.readableRec t && Nat.blt t P.types.size) = true →
    DataW.TrodAll enc P W 0 (fun _ => true) true ts vs ds ps → (∀ x ∈ ps, x.block < W.heap.size) → DataW.TrodAll enc P W' 0 (fun b => decide (b < W.heap.size)) true ts vs ds ps
  | [], vs, ds, ps, _, h, _ => by obtain ⟨rfl, rfl, rfl⟩ := trodAll_nil h; exact trodAll_mk0
  | t :: ts, vs, ds, ps, ht, h, hlt => by
    obtain ⟨v, vs', d, ds', p, q, rfl, rfl, rfl, h1, h2⟩ := trodAll_cons h
    simp only [List.all_cons, Bool.and_eq_true] at ht
    exact ⟨p, q, Below.trod hl ht.1.1 (Nat.le_of_ble_eq_true ht.1.2) h1 hb (fun x hx => hlt x (List.mem_append_left _ hx)), below_trodAll hl hb ht.2 h2 (fun x hx => hlt x (List.mem_append_right _ hx)), rfl⟩
end
end Go.Proofs.Ytfhjhaogmdaepaa
