/- Texts that poolChainUpto_holds leans on, part 2: each says at its head what it holds; no condition beyond its theorems' own. -/
import Derived.Test.YtcngmkjdpoiiaaaGreatDoorMs1
import Derived.Test.YtcngmkjdpoiiaaaGreatDoorRows
import Derived.ProofKit
import Derived.LaidMore
import Derived.OpenShut
import Derived.Stop.Joined
import Derived.Carry
import Derived.ChangeOld
import Derived.ChangeSlices
import Derived.MakeChecks
import Derived.SizedLaws
import Derived.FnData
import Derived.Sort.AssemblyPlain
import Derived.Shelf.SlSortCmp.WholeK
import Derived.Shelf.SlSortCmp.NoneTotal
import Derived.Laws.Cover1
import Derived.Laws.LoneSync
import Derived.MapKept
import Derived.Defers
import Derived.Laws.IdiomStrings
import Derived.Laws.Externs
import Derived.Test.YtcngmkjdpoiiaaaGreatDoorChecked
set_option linter.unusedVariables false
set_option linter.unusedSimpArgs false
set_option linter.unusedSectionVars false
/- The eighth part of the program logic: strings of bytes; how a call's rule becomes a row's. -/
namespace Go.Proofs.YtcngmkjdpoiiaaaGreatDoor
open Go Go.RowKit Go.ChangeShapes Go.WideShapes

/-- All are bytes. -/
def IsB (xs : List Int) : Prop := ∀ x ∈ xs, 0 ≤ x ∧ x ≤ 255
theorem strOfNums_inj {xs ys : List Int} (hx : IsB xs) (hy : IsB ys) : (strOfNums xs).toList = (strOfNums ys).toList ↔ xs = ys := by
 constructor
 ·intro h
  have h2 : (xs.map fun n => UInt8.ofNat n.toNat) = ys.map fun n => UInt8.ofNat n.toNat := by
   have e : ∀ zs : List Int, (strOfNums zs).toList = zs.map fun n => UInt8.ofNat n.toNat := fun zs => by
    rw [ByteArray.toList_eq, strOfNums_data]
   rw [e, e] at h; exact h
  clear h
  induction xs generalizing ys with
  | nil => cases ys with
   | nil => rfl
   | cons y ys => simp at h2
  | cons x xs ih =>
   cases ys with
   | nil => simp at h2
   | cons y ys =>
    simp only [List.map_cons, List.cons.injEq] at h2
    have hx0 := hx x (by simp)
    have hy0 := hy y (by simp)
    have e : x.toNat = y.toNat := by
     have := congrArg UInt8.toNat h2.1
     simp only [UInt8.toNat_ofNat'] at this
     omega
    have : x = y := by omega
    subst this
    rw [ih (fun z hz => hx z (by simp [hz])) (fun z hz => hy z (by simp [hz])) h2.2]
 ·rintro rfl; rfl
section
variable {C : Cx} {F : Fx} {l : Env} {rs rs' : List HP} {K : Act → World → Prop} {o : Oper} {Q : Exit → Act → World → Prop} {d : Nat}
theorem V_str {t t' e c : Nat} {x : Operand} {base : Option Addr} {xs : List Int} (ho : o.op = .convert t t' x) (hs : C.P.underlying t = some (.slice e)) (he : C.P.underlying e = some (.int .u8)) (ht : C.P.underlying t' = some .string) (hx : ev l x = some (.slice base xs.length c)) (hr : Rw C F rs base (ints .u8 xs)) : OpV C F l rs o (.string (strOfNums xs)) := fun a w r n => by
 simp only [execOp, ho, r.ev hx, Sem.run_bind]
 rcases (hr w n).cases with h0 | ⟨b, j, rfl, hrow⟩
 ·have : xs = [] := by cases xs with | nil => rfl | cons => cases h0
  subst this
  cases base with
  | none => rw [run_convert_bytes_nil w t e hs he _ _ t' ht]; rfl
  | some ad =>
   obtain ⟨b, j, sp⟩ := ad
   have hl : (loadCells ⟨b, j, sp⟩ ([] : List Int).length).run C.P w = .ok #[] w := run_loadCells_list w _ [] (fun _ _ h => by cases h)
   rw [run_convert_bytes_string w t t' e _ _ _ hs he ht, run_bytesToString w ⟨b, j, sp⟩ _ c [] hl]
   rfl
 ·rw [run_convert_bytes_arg w t e hs he b j xs.length c xs rfl (fun i hi => by
   have := hrow i _ (ints_at (k := .u8) hi)
   rwa [add_zero_off] at this) t' ht]
  rfl
end

theorem Move.below {C : Cx} {W W' : World} {h : Heap} (m : Move C W Heap.none W' h) : Below W.heap.size W W' := ⟨m.os, m.tape, m.output, m.size, fun k hk => m.keep k hk rfl⟩
theorem Spec.calls {C : Cx} {f : FuncId} {args : List Value} {pre : World → Heap → Prop} {post : Value → List HP → Prop} {W : World} (s : Spec C f args pre [] post) (hok : C.ok W) (hp : pre W Heap.none) :
  Calls C.P f args.toArray W (fun e W' => ∃ v rs, e = .returned v ∧ post v rs ∧ Below W.heap.size W W') :=
 (s W Heap.none rfl ⟨fun _ _ h => by (cases h), fun _ _ h => by (cases h), hok⟩ hp).mono fun e W' ⟨v, rs, h', e1, e2, _, m⟩ => ⟨v, rs, e1, e2, m.below⟩
theorem SpecV.calls {C : Cx} {f : FuncId} {args : List Value} {pre : World → Prop} {v : Value} {W : World} (s : SpecV C f args pre v) (hok : C.ok W) (hp : pre W) : Calls C.P f args.toArray W (fun e W' => e = .returned v ∧ Below W.heap.size W W') :=
 (Spec.calls s hok hp).mono fun e W' ⟨u, rs, e1, e2, b⟩ => ⟨by rw [e1, e2.1], b⟩

section
variable {H : Type} {enc : TypeId × Value → H} {P : Program} {w : World} {base : Nat} {spare : Nat → Bool} {held : Bool}
/-- An array of whole numbers is read. -/
theorem open_intArr {t n e fuel : Nat} {k : IntKind} {cs : List Value} {x : DataW H × List MemPlace} (ht : P.underlying t = some (.array n e)) (he : P.underlying e = some (.int k)) (hc : P.cellsOf e = 1) (hct : P.cellsOf t = n)
  (h : DataW.trod enc P w base spare held fuel t cs = some x) : ∃ zs : List Int, cs = ints k zs ∧ zs.length = n ∧ x = (.agg (lits k zs), []) ∧ ∀ z ∈ zs, (Lit.int k z).wf = true := by
 obtain ⟨xs, m, rfl, hx, hlen, hn, hel⟩ := DataW.trod_array ht h
 have each : ∀ i, i < n → ∃ z, cs[i]? = some (.int k z) ∧ xs[i]? = some (.lit (.int k z), []) ∧ (Lit.int k z).wf = true := by
  intro i hi
  have h1 := hel i hi
  have hxi : xs[i]? = some xs[i] := List.getElem?_eq_getElem (by omega)
  rw [hxi, hc, Nat.mul_one] at h1
  obtain ⟨z, e1, e2, e3⟩ := DataW.trod_int he h1
  refine ⟨z, ?_, by rw [hxi, e2], e3⟩
  have : ((cs.drop i).take 1)[0]? = some (.int k z) := by rw [e1]; rfl
  simpa using this
 have hlit : ∀ i z, i < n → cs[i]? = some (.int k z) → xs[i]? = some (.lit (.int k z), []) := fun i z hi hz => by
  obtain ⟨z', h1, h2, _⟩ := each i hi
  rw [h1, Option.some.injEq, Value.int.injEq] at hz
  rw [h2, hz.2]
 refine ⟨xs.map fun y => numOf y, ?_, by simp [hn], ?_, ?_⟩
 ·apply List.ext_getElem?
  intro i
  by_cases hi : i < n
  ·obtain ⟨z, h1, h2, _⟩ := each i hi
   rw [h1]; simp [ints, h2, numOf]
  ·rw [List.getElem?_eq_none (by omega), List.getElem?_eq_none (by simp [ints]; omega)]
 ·rw [hx]
  congr 1
  ·congr 1
   apply List.ext_getElem?
   intro i
   by_cases hi : i < n
   ·obtain ⟨z, h1, h2, _⟩ := each i hi
    simp [lits, h2, numOf]
   ·rw [List.getElem?_eq_none (by simp; omega), List.getElem?_eq_none (by simp [lits]; omega)]
  ·rw [List.flatMap_eq_nil_iff]
   intro y hy
   obtain ⟨i, hi, e⟩ := List.mem_iff_getElem.1 hy
   obtain ⟨z, _, h2, _⟩ := each i (by omega)
   rw [List.getElem?_eq_getElem hi, e] at h2
   rw [Option.some.inj h2]
 ·intro z hz
  obtain ⟨y, hy, rfl⟩ := List.mem_map.1 hz
  obtain ⟨i, hi, e⟩ := List.mem_iff_getElem.1 hy
  obtain ⟨z, _, h2, h3⟩ := each i (by omega)
  rw [List.getElem?_eq_getElem hi, e] at h2
  rw [Option.some.inj h2]; exact h3
theorem lits_inj {k : IntKind} {xs ys : List Int} (h : lits (H := H) k xs = lits k ys) : xs = ys := by
 unfold lits at h
 exact (List.map_inj_right (fun a b h => by injection h with h; injection h)).1 h
theorem var_heap {n : String} {g : Nat} {cs : Array Value} (hg : P.globalNamed n = some g) (h : w.var? P n = some cs) : ∃ T fr, w.heap[g]? = some (.cells cs T fr) := by
 simp only [World.var?, hg, Option.bind_some] at h
 split at h
 ·rename_i cs' T fr hh
  rw [Option.some.injEq] at h
  subst h; exact ⟨T, fr, hh⟩
 ·cases h
/-- The arguments read behind the call as they did. -/
theorem below_trodAll (hl : laidOutB P = true) {W W' : World} (hb : Below W.heap.size W W') : ∀ {ts : List TypeId} {vs : List Value} {ds : List (DataW H)} {ps : List MemPlace}, (ts.all fun t => P.readableRec t && Nat.blt t P.types.size) = true →
  DataW.TrodAll enc P W 0 (fun _ => true) true ts vs ds ps → (∀ x ∈ ps, x.block < W.heap.size) → DataW.TrodAll enc P W' 0 (fun b => decide (b < W.heap.size)) true ts vs ds ps
 | [], vs, ds, ps, _, h, _ => by obtain ⟨rfl, rfl, rfl⟩ := trodAll_nil h; exact trodAll_mk0
 | t :: ts, vs, ds, ps, ht, h, hlt => by
  obtain ⟨v, vs', d, ds', p, q, rfl, rfl, rfl, h1, h2⟩ := trodAll_cons h
  simp only [List.all_cons, Bool.and_eq_true] at ht
  exact ⟨p, q, Below.trod hl ht.1.1 (Nat.le_of_ble_eq_true ht.1.2) h1 hb (fun x hx => hlt x (List.mem_append_left _ hx)), below_trodAll hl hb ht.2 h2 (fun x hx => hlt x (List.mem_append_right _ hx)), rfl⟩
end
end Go.Proofs.YtcngmkjdpoiiaaaGreatDoor

/- The ninth part of the program logic: rows of rows of whole numbers; made slices. -/
namespace Go.Proofs.YtcngmkjdpoiiaaaGreatDoor
open Go Go.RowKit

section
variable {k : IntKind} {n : Nat} {xss : List (List Int)} (h : ∀ x ∈ xss, x.length = n)
include h
end

/-- The cells of a made slice. -/
def madeL (z : List Value) (m : Nat) : List Value := (madeCells z.toArray m).toList
theorem madeL_length (z : List Value) (m : Nat) : (madeL z m).length = m := by rw [madeL, Array.length_toList, size_madeCells]
section
variable {C : Cx} {F : Fx} {l : Env} {rs rs' : List HP} {K : Act → World → Prop} {o : Oper} {Q : Exit → Act → World → Prop} {d : Nat}
/-- An owned slice that is not empty has a block. -/
theorem St.ownSome (p : List HP) {q : List HP} {T sz n : Nat} {v : Value} {cs : List Value} (hn : 0 < n) (h : ∀ b cap, v = .slice (some ⟨b, 0, none⟩) n cap → n ≤ cap → St C F l (p ++ ownS T sz v n cs :: q) K) : St C F l (p ++ ownS T sz v n cs :: q) K := fun a w r nw => by
 obtain ⟨_, hv, _⟩ := nw.has (r := ownS T sz v n cs) ⟨p, q, rfl, rfl⟩
 rcases hv.2 with ⟨_, h0, _⟩ | ⟨b, cap, junk, e, hc, _⟩
 ·omega
 ·exact h b cap e hc a w r nw
theorem St.ownForm (p : List HP) {q : List HP} {T sz n : Nat} {v : Value} {cs : List Value} (h : ∀ base cap, v = .slice base n cap → n ≤ cap → St C F l (p ++ ownS T sz v n cs :: q) K) : St C F l (p ++ ownS T sz v n cs :: q) K := fun a w r nw => by
 obtain ⟨_, hv, _⟩ := nw.has (r := ownS T sz v n cs) ⟨p, q, rfl, rfl⟩
 obtain ⟨b, cap, e, hc⟩ := hv.form
 exact h b cap e hc a w r nw
theorem Rd.own {T sz n cap b j : Nat} {cs : List Value} {u : Value} (m : Has rs (ownS T sz (.slice (some ⟨b, 0, none⟩) n cap) n cs) (ownS T sz (.slice (some ⟨b, 0, none⟩) n cap) n cs) rs) (hu : cs[j]? = some u) : Rd C F rs ⟨b, j, none⟩ u := fun w nw => by
 obtain ⟨ad, e, hc⟩ := (Sn.own (C := C) (F := F) m rfl).rw_ w nw j u hu
 rw [Option.some.injEq] at e
 subst e
 rwa [add_zero_off, Nat.zero_add] at hc
end
end Go.Proofs.YtcngmkjdpoiiaaaGreatDoor

/- Plain: the tree over a list: where it is split, its top, its proofs. -/
namespace Go.Proofs.YtcngmkjdpoiiaaaGreatDoor
open Go

theorem isB_u8 (x : Int) : 0 ≤ IntKind.u8.wrap x ∧ IntKind.u8.wrap x ≤ 255 := by
 simp only [IntKind.wrap, IntKind.signed, IntKind.bits, Bool.false_and, Bool.false_eq_true, if_false]; omega
theorem isB_sha (xs : List Int) : IsB (sha xs) := fun x hx => by
 obtain ⟨i, _, rfl⟩ := List.mem_map.1 hx
 exact isB_u8 _
theorem IsB.cons {x : Int} {xs : List Int} (h0 : 0 ≤ x) (h1 : x ≤ 255) (h : IsB xs) : IsB (x :: xs) := fun y hy => by
 rcases List.mem_cons.1 hy with rfl | hy
 ·exact ⟨h0, h1⟩
 ·exact h y hy
theorem IsB.append {xs ys : List Int} (h : IsB xs) (k : IsB ys) : IsB (xs ++ ys) := fun y hy => by
 rcases List.mem_append.1 hy with hy | hy
 ·exact h y hy
 ·exact k y hy
end Go.Proofs.YtcngmkjdpoiiaaaGreatDoor

/- Walks: tops of lists. Printed by gen.py. -/
set_option maxRecDepth 100000
namespace Go.Proofs.YtcngmkjdpoiiaaaGreatDoor
open Go Go.RowKit Go.Proofs
theorem BytesL.take {w : World} {vs : List Value} {xss : List (List Int)} (h : BytesL w vs xss) (n : Nat) : BytesL w (vs.take n) (xss.take n) :=
 ⟨by rw [List.length_take, List.length_take, h.1], fun i v x h1 h2 => by
  rw [List.getElem?_take] at h1 h2
  split at h1
  ·rename_i hi
   rw [if_pos hi] at h2
   exact h.2 i v x h1 h2
  ·cases h1⟩
theorem BytesL.drop {w : World} {vs : List Value} {xss : List (List Int)} (h : BytesL w vs xss) (n : Nat) : BytesL w (vs.drop n) (xss.drop n) :=
 ⟨by rw [List.length_drop, List.length_drop, h.1], fun i v x h1 h2 => by
  rw [List.getElem?_drop] at h1 h2
  exact h.2 _ v x h1 h2⟩
/-- A slice of slices of bytes, as items are. -/
def Items (w : World) (base : Option Addr) (vs : List Value) (xss : List (List Int)) : Prop := Row w base vs ∧ BytesL w vs xss
theorem Items.row {C : Cx} {F : Fx} {rs : List HP} {base : Option Addr} {vs : List Value} {xss : List (List Int)} (h : Items F.w base vs xss) (hf : F.h = Heap.none) : ∀ w, Now C F rs w → Items w base vs xss := fun w n =>
 ⟨(Sn.row h.1 hf).rw_ w n, h.2.1, fun i v x h1 h2 => by
  obtain ⟨b, c, e, hc, hr⟩ := h.2.2 i v x h1 h2
  exact ⟨b, c, e, hc, (Sn.row hr hf).rw_ w n⟩⟩
theorem Items.sliced {w : World} {base : Option Addr} {vs : List Value} {xss : List (List Int)} (h : Items w base vs xss) {p q c : Nat} (hq : q ≤ c) (hqn : q ≤ vs.length) : Items w (if c = p then base else base.map (·.add (p * 1))) ((vs.drop p).take (q - p)) ((xss.drop p).take (q - p)) := by
 refine ⟨?_, (h.2.drop p).take _⟩
 have := Row.sliced (sz := 1) (p := p) (q := q) (c := c) h.1 hq (.inr (by omega))
 simpa using this
end Go.Proofs.YtcngmkjdpoiiaaaGreatDoor

/- The tenth part of the program logic: regions of open order in which what is read stays apart from what is written. -/
namespace Go.Proofs.YtcngmkjdpoiiaaaGreatDoor
open Go Go.RowKit
section
variable {C : Cx} {F : Fx} {l : Env} {rs rs' rq : List HP} {o : Oper} {Q : Exit → Act → World → Prop} {ops : Array Oper} {d i : Nat} {v : Value} {rest : List (Nat × Nat)}
/-- The walk of a region whose order is open; what its quiet operations read lies in rq. -/
def StQ (C : Cx) (F : Fx) (ops : Array Oper) (Q : Exit → Act → World → Prop) (order : List (Nat × Nat)) (l : Env) (rq rs : List HP) : Prop := St C F l rs (wpSch C.P ops Q order (Now C F rq))
theorem R_openQ {id : Nat} {os : List Oper} (order : List (Nat × Nat)) (rq : List HP) (hw : Weak rs rq) (hm : C.P.follows .mixedOrders = true) (hB : schB os.toArray order = true) (hQ : QOk Q) (h : StQ C F os.toArray Q order l rq rs) : St C F l rs ((Code.region id os.toArray true).wp C.P Q) := fun a w r n =>
 wp_region_sch order hm hB hQ ((n.drew _ (Nat.le_succ _)).weak hw) (h a _ r (n.drew _ (Nat.le_succ _)))
theorem O_nilQ (h : St C F l rs (Q .normal)) : StQ C F ops Q [] l rq rs := h
theorem O_pureQ (ho : ops[i]? = some o) (hw : wantedE ops l o = true) (hd : o.dst = some d) (hn : Nat.blt d F.n = true) (hv : OpP C F l o v) (k : StQ C F ops Q rest ((d, v) :: l) rq rs) : StQ C F ops Q ((i, 0) :: rest) l rq rs := fun a w r n =>
 ⟨o, v, ho, fun S' => .inl ⟨wanted_of r hw, fun w' _ => hv a w' r⟩, by rw [hd]; exact k _ _ (r.put hn v) n⟩
theorem O_valQ (ho : ops[i]? = some o) (hw : wantedE ops l o = true) (hd : o.dst = some d) (hn : Nat.blt d F.n = true) (hv : OpV C F l rq o v) (k : StQ C F ops Q rest ((d, v) :: l) rq rs) : StQ C F ops Q ((i, 1) :: rest) l rq rs := fun a w r n =>
 ⟨o, v, ho, .inl ⟨wanted_of r hw, fun w' hw' => hv a w' r hw'⟩, by rw [hd]; exact k _ _ (r.put hn v) n⟩
theorem O_keepQ (ho : ops[i]? = some o) (hw : wantedE ops l o = true) (h : OpW C F l rs o (fun a w => ∃ S' : World → Prop, (∀ x, S' x → Now C F rq x) ∧ S' w ∧ wpSch C.P ops Q rest S' a w) Q) : StQ C F ops Q ((i, 2) :: rest) l rq rs := fun a w r n => by
 show wpOp C.P ops Q i _ a w
 unfold wpOp
 simp only [ho, wanted_of r hw, if_true]
 exact .inl (h a w r n)
theorem O_newQ (ho : ops[i]? = some o) (hw : wantedE ops l o = true) (h : OpW C F l rs o (fun a w => ∃ S' : World → Prop, S' w ∧ wpSch C.P ops Q rest S' a w) Q) : StQ C F ops Q ((i, 3) :: rest) l rq rs := fun a w r n => by
 show wpOp C.P ops Q i _ a w
 unfold wpOp
 simp only [ho, wanted_of r hw, if_true]
 exact .inl (h a w r n)
theorem K_keepQ {l2 : Env} (hw : Weak rs' rq) (k : StQ C F ops Q rest l2 rq rs') : St C F l2 rs' (fun a w => ∃ S' : World → Prop, (∀ x, S' x → Now C F rq x) ∧ S' w ∧ wpSch C.P ops Q rest S' a w) := fun a w r n => ⟨Now C F rq, fun _ h => h, n.weak hw, k a w r n⟩
theorem K_newQ {l2 : Env} (rq' : List HP) (hw : Weak rs' rq') (k : StQ C F ops Q rest l2 rq' rs') : St C F l2 rs' (fun a w => ∃ S' : World → Prop, S' w ∧ wpSch C.P ops Q rest S' a w) := fun a w r n => ⟨Now C F rq', n.weak hw, k a w r n⟩
/-! ### Two loud operations of which either may come first -/
inductive Sch where
 | nil
 | op (i k : Nat) (rest : Sch)
 | two (i j : Nat) (x y : Sch)
def Sch.all : Sch → List (Nat × Nat)
 | .nil => []
 | .op i k r => (i, k) :: r.all
 | .two i j x y => (i, 2) :: (j, 2) :: (x.all ++ y.all)
def Sch.len : Sch → Nat
 | .nil => 0
 | .op _ _ r => r.len + 1
 | .two _ _ x _ => x.len + 1
def goT (ops : Array Oper) (all : List (Nat × Nat)) : Sch → Array Bool → Bool
 | .nil, listed => (Region.ready .any ops listed).isEmpty
 | .op i k rest, listed => (Region.ready .any ops listed).contains i &&
  (bif Nat.ble k 1 then Region.free .any ops listed i && (Nat.beq k 0 || all.all fun jk => !(Nat.beq jk.2 3) || waits ops jk.1 i) else Region.ready .any ops listed == [i]) && goT ops all rest (listed.setIfInBounds i true)
 | .two i j x y, listed => (Region.ready .any ops listed == [i, j] || Region.ready .any ops listed == [j, i]) && Nat.beq x.len y.len && goT ops all x (listed.setIfInBounds i true) && goT ops all y (listed.setIfInBounds j true)
def schT (ops : Array Oper) (t : Sch) : Bool := Region.noSelect ops && Nat.beq t.len ops.size && goT ops t.all t (Array.replicate ops.size false)
def wpT (P : Program) (ops : Array Oper) (Q : Exit → Act → World → Prop) : Sch → (World → Prop) → Act → World → Prop
 | .nil, _, a, w => Q .normal a w
 | .op i 0 rest, S, a, w => ∃ o v, ops[i]? = some o ∧ (∀ S', Holds P ops S' o v a) ∧ wpT P ops Q rest S (a.put o.dst v) w
 | .op i 1 rest, S, a, w => ∃ o v, ops[i]? = some o ∧ Holds P ops S o v a ∧ wpT P ops Q rest S (a.put o.dst v) w
 | .op i 2 rest, S, a, w => wpOp P ops Q i (fun a' w' => ∃ S' : World → Prop, (∀ x, S' x → S x) ∧ S' w' ∧ wpT P ops Q rest S' a' w') a w
 | .op i 3 rest, _, a, w => wpOp P ops Q i (fun a' w' => ∃ S' : World → Prop, S' w' ∧ wpT P ops Q rest S' a' w') a w
 | .op _ _ _, _, _, _ => False
 | .two i j x y, S, a, w => wpOp P ops Q i (fun a' w' => ∃ S' : World → Prop, (∀ z, S' z → S z) ∧ S' w' ∧ wpT P ops Q x S' a' w') a w ∧ wpOp P ops Q j (fun a' w' => ∃ S' : World → Prop, (∀ z, S' z → S z) ∧ S' w' ∧ wpT P ops Q y S' a' w') a w
theorem wpT_sound {P : Program} {ops : Array Oper} {Q : Exit → Act → World → Prop} (hs : Region.noSelect ops = true) (hQ : ∀ d v c a w, Q (.panic c) (a.put d v) w → Q (.panic c) a w) (all : List (Nat × Nat)) :
  ∀ (t : Sch) (S : World → Prop) (listed : Array Bool) (a : Act) (w : World), (∀ x, x ∈ t.all → x ∈ all) → goT ops all t listed = true → Closed ops listed → S w → wpT P ops Q t S a w → wpAnyG P ops Q (newOf all) S t.len listed a w
 | .nil, S, listed, a, w, _, hB, _, _, h => ⟨by simpa [goT] using hB, h⟩
 | .two i j x y, S, listed, a, w, hall, hB, hcl, hS, h => by
  unfold goT at hB
  simp only [Bool.and_eq_true, Bool.or_eq_true] at hB
  obtain ⟨⟨⟨hr, hl⟩, hx⟩, hy⟩ := hB
  have hl := Nat.eq_of_beq_eq_true hl
  have hr' : ∀ m, m ∈ Region.ready .any ops listed → m = i ∨ m = j := fun m hm => by
   rcases hr with hr | hr
   ·rw [show Region.ready .any ops listed = [i, j] by simpa using hr] at hm; simpa using hm
   ·rw [show Region.ready .any ops listed = [j, i] by simpa using hr] at hm; simpa [or_comm] using hm
  have hne : Region.ready .any ops listed ≠ [] := fun e => by rcases hr with hr | hr <;> simp [e] at hr
  have hri : i ∈ Region.ready .any ops listed := by rcases hr with hr | hr <;> (rw [show Region.ready .any ops listed = _ by simpa using hr]; simp)
  have hrj : j ∈ Region.ready .any ops listed := by rcases hr with hr | hr <;> (rw [show Region.ready .any ops listed = _ by simpa using hr]; simp)
  refine ⟨fun h0 => absurd h0 hne, fun m hm => ?_⟩
  have ax : ∀ z, z ∈ x.all → z ∈ all := fun z hz => hall z (by unfold Sch.all; simp [hz])
  have ay : ∀ z, z ∈ y.all → z ∈ all := fun z hz => hall z (by unfold Sch.all; simp [hz])
  rcases hr' m hm with rfl | rfl
  ·exact wpOp_mono (fun a' w' ⟨S', hs', hS', hn⟩ => ⟨S', fun _ => hs', hS', wpT_sound hs hQ all x S' _ _ _ ax hx (hcl.list hri) hS' hn⟩) h.1
  ·exact wpOp_mono (fun a' w' ⟨S', hs', hS', hn⟩ => ⟨S', fun _ => hs', hS', by rw [hl]; exact wpT_sound hs hQ all y S' _ _ _ ay hy (hcl.list hrj) hS' hn⟩) h.2
 | .op i k rest, S, listed, a, w, hall, hB, hcl, hS, h => by
  unfold goT at hB
  simp only [Bool.and_eq_true] at hB
  obtain ⟨⟨hr, hk⟩, hB'⟩ := hB
  have hrest : ∀ z, z ∈ rest.all → z ∈ all := fun z hz => hall z (by unfold Sch.all; exact List.mem_cons_of_mem _ hz)
  have hhead : (i, k) ∈ all := hall _ (by unfold Sch.all; exact List.mem_cons_self)
  have hcl' := hcl.list (j := i) (by simpa using hr)
  match k, hk, h, hhead with
  | 0, hk, h, _ =>
   obtain ⟨o, v, ho, hy, hn⟩ := h
   simp only [Nat.ble, cond_true, Bool.and_eq_true] at hk
   exact wpAnyG_first ho (Region.noSelect_spec hs) (hQ _ _) (G := fun _ a => ∀ S', Holds P ops S' o v a) (fun S a g => g S) (fun S a a' g e1 e2 S' => (g S').of_same e1 e2) (fun _ _ _ g _ => g) (.inr fun _ _ _ g => g)
    rest.len S listed a w (Region.free_spec ho hk.1) hcl (by simpa using hr) hy hS (wpT_sound hs hQ all rest S _ _ _ hrest hB' hcl' hS hn)
  | 1, hk, h, _ =>
   obtain ⟨o, v, ho, hy, hn⟩ := h
   simp only [Nat.ble, cond_true, Bool.and_eq_true] at hk
   have hw : ∀ j, newOf all j = true → waits ops j i = true := fun j hj => by
    unfold newOf at hj
    obtain ⟨jk, hm, he⟩ := List.any_eq_true.1 hj
    simp only [Bool.and_eq_true] at he
    have h2 := hk.2
    simp only [Bool.or_eq_true] at h2
    rcases h2 with h2 | h2
    ·cases h2
    ·have h3 := List.all_eq_true.1 h2 jk hm
     simp only [he.2, Bool.not_true, Bool.false_or] at h3
     rwa [Nat.eq_of_beq_eq_true he.1] at h3
   exact wpAnyG_first ho (Region.noSelect_spec hs) (hQ _ _) (G := fun S a => Holds P ops S o v a) (fun S a g => g) (fun S a a' g e1 e2 => g.of_same e1 e2) (fun _ _ _ g l => g.weak l) (.inl hw)
    rest.len S listed a w (Region.free_spec ho hk.1) hcl (by simpa using hr) hy hS (wpT_sound hs hQ all rest S _ _ _ hrest hB' hcl' hS hn)
  | 2, hk, h, _ =>
   have hk' : Region.ready .any ops listed = [i] := by simpa [Nat.ble] using hk
   refine ⟨fun h0 => (by rw [hk'] at h0; cases h0), fun j hj => ?_⟩
   rw [hk'] at hj
   obtain rfl : j = i := by simpa using hj
   exact wpOp_mono (fun a' w' ⟨S', hs', hS', hn⟩ => ⟨S', fun _ => hs', hS', wpT_sound hs hQ all rest S' _ _ _ hrest hB' hcl' hS' hn⟩) h
  | 3, hk, h, hhead =>
   have hk' : Region.ready .any ops listed = [i] := by simpa [Nat.ble] using hk
   refine ⟨fun h0 => (by rw [hk'] at h0; cases h0), fun j hj => ?_⟩
   rw [hk'] at hj
   obtain rfl : j = i := by simpa using hj
   have hnw : newOf all j = true := by
    unfold newOf
    exact List.any_eq_true.2 ⟨(j, 3), hhead, by simp⟩
   exact wpOp_mono (fun a' w' ⟨S', hS', hn⟩ => ⟨S', fun hf => (by rw [hnw] at hf; cases hf), hS', wpT_sound hs hQ all rest S' _ _ _ hrest hB' hcl' hS' hn⟩) h
  | k + 4, hk, h, _ => exact h.elim
/-- The walk of such a region. -/
def StT (C : Cx) (F : Fx) (ops : Array Oper) (Q : Exit → Act → World → Prop) (t : Sch) (l : Env) (rs : List HP) : Prop := St C F l rs (wpT C.P ops Q t (Now C F rs))
theorem T_open {id : Nat} {os : List Oper} (t : Sch) (hm : C.P.follows .mixedOrders = true) (hB : schT os.toArray t = true) (hQ : QOk Q) (h : StT C F os.toArray Q t l rs) : St C F l rs ((Code.region id os.toArray true).wp C.P Q) := fun a w r n => by
 unfold schT at hB
 simp only [Bool.and_eq_true] at hB
 obtain ⟨⟨h1, h2⟩, h3⟩ := hB
 have h2 := Nat.eq_of_beq_eq_true h2
 refine wp_region_any hm ?_
 have key := wpT_sound h1 hQ t.all t (Now C F rs) (Array.replicate os.toArray.size false) a { w with drawn := w.drawn + 1 } (fun _ h => h) h3 (fun k o _ hk => by rw [getD_none] at hk; cases hk) (n.drew _ (Nat.le_succ _)) (h a _ r (n.drew _ (Nat.le_succ _)))
 rw [h2] at key
 exact wpAny_of_G (new := newOf t.all) _ _ _ _ _ key
theorem T_nil (h : St C F l rs (Q .normal)) : StT C F ops Q .nil l rs := h
variable {tt tx ty : Sch} {j : Nat}
theorem T_pure (ho : ops[i]? = some o) (hw : wantedE ops l o = true) (hd : o.dst = some d) (hn : Nat.blt d F.n = true) (hv : OpP C F l o v) (k : StT C F ops Q tt ((d, v) :: l) rs) : StT C F ops Q (.op i 0 tt) l rs := fun a w r n =>
 ⟨o, v, ho, fun S' => .inl ⟨wanted_of r hw, fun w' _ => hv a w' r⟩, by rw [hd]; exact k _ _ (r.put hn v) n⟩
theorem T_val (ho : ops[i]? = some o) (hw : wantedE ops l o = true) (hd : o.dst = some d) (hn : Nat.blt d F.n = true) (hv : OpV C F l rs o v) (k : StT C F ops Q tt ((d, v) :: l) rs) : StT C F ops Q (.op i 1 tt) l rs := fun a w r n =>
 ⟨o, v, ho, .inl ⟨wanted_of r hw, fun w' hw' => hv a w' r hw'⟩, by rw [hd]; exact k _ _ (r.put hn v) n⟩
theorem T_keep (ho : ops[i]? = some o) (hw : wantedE ops l o = true) (h : OpW C F l rs o (fun a w => ∃ S' : World → Prop, (∀ x, S' x → Now C F rs x) ∧ S' w ∧ wpT C.P ops Q tt S' a w) Q) : StT C F ops Q (.op i 2 tt) l rs := fun a w r n => by
 show wpOp C.P ops Q i _ a w
 unfold wpOp
 simp only [ho, wanted_of r hw, if_true]
 exact .inl (h a w r n)
theorem T_new (ho : ops[i]? = some o) (hw : wantedE ops l o = true) (h : OpW C F l rs o (fun a w => ∃ S' : World → Prop, S' w ∧ wpT C.P ops Q tt S' a w) Q) : StT C F ops Q (.op i 3 tt) l rs := fun a w r n => by
 show wpOp C.P ops Q i _ a w
 unfold wpOp
 simp only [ho, wanted_of r hw, if_true]
 exact .inl (h a w r n)
theorem T_two (h1 : StT C F ops Q (.op i 2 tx) l rs) (h2 : StT C F ops Q (.op j 2 ty) l rs) : StT C F ops Q (.two i j tx ty) l rs := fun a w r n => ⟨h1 a w r n, h2 a w r n⟩
theorem K_keepT {l2 : Env} (hw : Weak rs' rs) (k : StT C F ops Q tt l2 rs') : St C F l2 rs' (fun a w => ∃ S' : World → Prop, (∀ x, S' x → Now C F rs x) ∧ S' w ∧ wpT C.P ops Q tt S' a w) := fun a w r n => ⟨Now C F rs', fun x nx => nx.weak hw, n, k a w r n⟩
theorem K_newT {l2 : Env} (k : StT C F ops Q tt l2 rs') : St C F l2 rs' (fun a w => ∃ S' : World → Prop, S' w ∧ wpT C.P ops Q tt S' a w) := fun a w r n => ⟨Now C F rs', n, k a w r n⟩
theorem Rds.sn {b j k : Nat} {cs us : List Value} (s : Sn C F rs (some ⟨b, j, none⟩) cs) (hu : ∀ (i : Nat) (v : Value), us[i]? = some v → cs[k + i]? = some v) : Rds C F rs ⟨b, j + k, none⟩ us := fun w n i v hv => by
 obtain ⟨ad, e, hc⟩ := s.rw_ w n (k + i) v (hu i v hv)
 rw [Option.some.injEq] at e
 subst e
 rw [add_zero_off] at hc ⊢
 rwa [Nat.add_assoc]
theorem St.openOwnF {K : Act → World → Prop} (p : List HP) {q : List HP} {T sz n : Nat} {v : Value} {cs : List Value} (hn : 0 < n) (h : ∀ b cap junk, n ≤ cap → cap ≤ maxLen → cap * sz ≤ (cs ++ junk).length → v = .slice (some ⟨b, 0, none⟩) n cap → St C F l (p ++ blk b (cs ++ junk) T :: q) K) :
  St C F l (p ++ ownS T sz v n cs :: q) K := by
 refine St.openAt (X := Nat × Nat × List Value) (s := fun x => fun hp => (n ≤ x.2.1 ∧ x.2.1 ≤ maxLen ∧ x.2.1 * sz ≤ (cs ++ x.2.2).length ∧ v = .slice (some ⟨x.1, 0, none⟩) n x.2.1) ∧ blk x.1 (cs ++ x.2.2) T hp) p (fun hp hx => ?_) fun x => ?_
 ·rcases hx.2 with ⟨_, h0, _⟩ | ⟨b, cap, junk, hv, hc, hm, hl, hb⟩
  ·omega
  ·exact ⟨(b, cap, junk), ⟨hc, hm, hl, hv⟩, hb⟩
 ·intro a w hr ⟨hp, hs, hm⟩
  obtain ⟨c, d, hc, ⟨u, v', ⟨⟨h1, h2, h3, h4⟩, hu⟩, hv, d1, rfl⟩, d2, rfl⟩ := Sep.append.1 hs
  exact h x.1 x.2.1 x.2.2 h1 h2 h3 h4 a w hr ⟨_, Sep.append.2 ⟨c, u.join v', hc, ⟨u, v', hu, hv, d1, rfl⟩, d2, rfl⟩, hm⟩
theorem splice_left (cs junk us : List Value) (o : Nat) (h : o + us.length ≤ cs.length) : splice (cs ++ junk) o us = splice cs o us ++ junk := by
 unfold splice
 rw [List.take_append_of_le_length (by omega), List.drop_append_of_le_length (by omega)]
 simp
end
end Go.Proofs.YtcngmkjdpoiiaaaGreatDoor

/- Plain: merging in place: two blocks exchanged, rotations, binary searches, what a merge leaves. -/
namespace Go.Proofs.YtcngmkjdpoiiaaaGreatDoor
open Go Go.Sort
section
variable {α : Type} [Inhabited α]
/-- The first n places of two blocks are exchanged. -/
def swR (d : Array α) (a b : Nat) : Nat → Array α
 | 0 => d
 | n + 1 => swp (swR d a b n) (a + n) (b + n)
def swI (a b n k : Nat) : Nat := if a ≤ k ∧ k < a + n then k - a + b else if b ≤ k ∧ k < b + n then k - b + a else k
theorem swR_size (d : Array α) (a b n : Nat) : (swR d a b n).size = d.size := by
 induction n with
 | zero => rfl
 | succ n ih => rw [swR, swp_size, ih]
theorem swR_get (d : Array α) (a b : Nat) : ∀ (n k : Nat), a + n ≤ b → b + n ≤ d.size → (swR d a b n)[k]! = d[swI a b n k]!
 | 0, k, _, _ => by
  have : swI a b 0 k = k := by unfold swI; split <;> (try omega); split <;> omega
  rw [this]; rfl
 | n + 1, k, h1, h2 => by
  rw [swR, swp_get _ (by rw [swR_size]; omega) (by rw [swR_size]; omega), swR_get d a b n _ (by omega) (by omega), swR_get d a b n _ (by omega) (by omega), swR_get d a b n _ (by omega) (by omega)]
  split
  ·rename_i hk; congr 1; unfold swI; (repeat' split) <;> omega
  ·split
   ·rename_i hk; congr 1; unfold swI; (repeat' split) <;> omega
   ·congr 1; unfold swI; (repeat' split) <;> omega
/-- Where what stands at a place behind a rotation has stood. -/
def rotI (a m b k : Nat) : Nat := if a ≤ k ∧ k < a + (b - m) then k - a + m else if a + (b - m) ≤ k ∧ k < b then k - (b - m) else k
/-- d' is d with the blocks [a, m) and [m, b) in the other order. -/
def Rot (a m b : Nat) (d d' : Array α) : Prop := d'.size = d.size ∧ ∀ k, d'[k]! = d[rotI a m b k]!
theorem Rot.same {i m : Nat} {d : Array α} (him : i ≤ m) (hs : m + i ≤ d.size) : Rot (m - i) m (m + i) d (swR d (m - i) m i) := by
 refine ⟨swR_size _ _ _ _, fun k => ?_⟩
 rw [swR_get _ _ _ _ _ (by omega) (by omega)]
 congr 1; unfold rotI swI; (repeat' split) <;> omega
/-! ### Merging -/
variable {lt : α → α → Bool}
theorem sortEq {a b : Nat} {d d' : Array α} (h : SortedIn lt a b d) (e : ∀ k, a ≤ k → k < b → d'[k]! = d[k]!) : SortedIn lt a b d' := fun i j hi hij hj => by rw [e i hi (by omega), e j (by omega) hj]; exact h i j hi hij hj
theorem sorted_one {a b : Nat} {d : Array α} (h : b ≤ a + 1) : SortedIn lt a b d := fun i j _ _ _ => by omega
theorem swp_toList (d : Array α) (i j : Nat) : (swp d i j).toList = (d.toList.set i d[j]!).set j d[i]! := by simp [swp]
end
end Go.Proofs.YtcngmkjdpoiiaaaGreatDoor

/- The twelfth part of the program logic: loops and joins that keep the rest of the environment as it is; piles of many slices. -/
namespace Go.Proofs.YtcngmkjdpoiiaaaGreatDoor
open Go Go.RowKit
theorem Env.get?_append (a b : Env) (t : Nat) : Env.get? (a ++ b) t = (Env.get? a t).or (Env.get? b t) := by
 induction a with
 | nil => simp [Env.get?]
 | cons x a ih =>
  obtain ⟨k, v⟩ := x
  have e1 : ∀ l, Env.get? ((k, v) :: l) t = bif Nat.beq k t then some v else Env.get? l t := fun _ => rfl
  rw [List.cons_append, e1, e1]
  cases Nat.beq k t
  ·simp only [cond_false]; exact ih
  ·simp
theorem EnvLe.append {l a b : Env} (ha : EnvLe l a) (hb : EnvLe l b) : EnvLe l (a ++ b) := fun t v h => by
 rw [Env.get?_append] at h
 cases e : Env.get? a t with
 | none => rw [e] at h; exact hb t v (by simpa using h)
 | some u => rw [e] at h; exact ha t v (by rw [e]; simpa using h)
theorem EnvLe.consE {l l' : Env} {t : Nat} {v v' : Value} (h : l.get? t = some v) (e : v = v') (hl : EnvLe l l') : EnvLe l ((t, v') :: l') := .cons (e ▸ h) hl
section
variable {C : Cx} {F : Fx} {l l0 : Env} {rs rs' : List HP} {K K' : Act → World → Prop}
theorem R_loopE {Q : Exit → Act → World → Prop} {c : Code} {G : Type} (hl0 : EnvLe l l0) (e : G → Env) (r : G → List HP) (inv : G → Prop) (m : G → Nat) (g : G) (hg : inv g) (he : EnvLe l (e g)) (hr : Weak rs (r g))
  (round : ∀ g, inv g → St C F (e g ++ l0) (r g) (c.wp C.P (Exit.then (fun a w => ∃ g', inv g' ∧ m g' < m g ∧ Rep F.n F.ds (e g' ++ l0) a ∧ Now C F (r g') w) Q))) : St C F l rs ((Code.loop c).wp C.P Q) :=
 R_loop (fun g => e g ++ l0) r inv m g hg (he.append hl0) hr round
theorem R_joinE {Q : Exit → Act → World → Prop} {G : Type} (hl0 : EnvLe l l0) (e : G → Env) (r : G → List HP) (inv : G → Prop) {x y : Code}
  (hx : St C F l rs (x.wp C.P (Exit.then (fun a w => ∃ g, inv g ∧ Rep F.n F.ds (e g ++ l0) a ∧ Now C F (r g) w) Q)))
  (hy : ∀ g, inv g → St C F (e g ++ l0) (r g) (y.wp C.P Q)) : St C F l rs ((Code.seq x y).wp C.P Q) := R_join (fun g => e g ++ l0) r inv hx hy
theorem R_joinE0 {Q : Exit → Act → World → Prop} {G : Type} (hl0 : EnvLe l l0) (e : G → Env) (inv : G → Prop) {x y : Code}
  (hx : St C F l rs (x.wp C.P (Exit.then (fun a w => ∃ g, inv g ∧ Rep F.n F.ds (e g ++ l0) a ∧ Now C F rs w) Q)))
  (hy : ∀ g, inv g → St C F (e g ++ l0) rs (y.wp C.P Q)) : St C F l rs ((Code.seq x y).wp C.P Q) := R_join (fun g => e g ++ l0) (fun _ => rs) inv hx hy
end
section
variable {C : Cx} {F : Fx} {l : Env} {rs rs' rq : List HP} {o : Oper} {Q : Exit → Act → World → Prop} {ops : Array Oper} {d i : Nat} {v : Value} {rest : List (Nat × Nat)} {tt : Sch}
theorem O_noX (ho : ops[i]? = some o) (hw : unwantedE ops l o = true) (hd : o.dst = some d) (hn : Nat.blt d F.n = true) (k : StO C F ops Q rest ((d, undef) :: l) rs) : StO C F ops Q ((i, 1) :: rest) l rs := fun a w r n =>
 ⟨o, undef, ho, .inr ⟨unwanted_of r hw, rfl⟩, by rw [hd]; exact k _ _ (r.put hn undef) n⟩
end
end Go.Proofs.YtcngmkjdpoiiaaaGreatDoor

/- The thirteenth part of the program logic: families of resources; slices that grow while what they grew from is still looked at. -/
namespace Go.Proofs.YtcngmkjdpoiiaaaGreatDoor
open Go Go.RowKit
/-- Separate resources, one for each of a list. -/
def fam {α : Type} (f : α → HP) (xs : List α) : HP := fun h => Sep (xs.map f) h
section
variable {α : Type} {f : α → HP} {rs : List HP}
theorem Weak.famNil : Weak rs (fam f [] :: rs) := fun h s => ⟨Heap.none.join h, ⟨Heap.none, h, rfl, s, Heap.disj_none h, rfl⟩, by rw [Heap.none_join]; exact Heap.Le.refl h⟩
theorem Weak.famJoin {xs ys : List α} : Weak (fam f xs :: fam f ys :: rs) (fam f (xs ++ ys) :: rs) := fun h s => by
 obtain ⟨x, y, hx, ⟨p, q, hp, hq, d1, rfl⟩, d2, rfl⟩ := s
 obtain ⟨d3, d4⟩ := Heap.disj_join.1 d2
 refine ⟨(x.join p).join q, ⟨x.join p, q, ?_, hq, Heap.join_disj.2 ⟨d4, d1⟩, rfl⟩, by rw [Heap.join_assoc]; exact Heap.Le.refl _⟩
 show Sep ((xs ++ ys).map f) _
 rw [List.map_append]
 exact Sep.append.2 ⟨x, p, hx, hp, d3, rfl⟩
theorem Weak.famPart {xs ys : List α} : Weak (fam f (xs ++ ys) :: rs) (fam f xs :: fam f ys :: rs) := fun h s => by
 obtain ⟨a, q, ha, hq, d, rfl⟩ := s
 have ha : Sep ((xs ++ ys).map f) a := ha
 rw [List.map_append] at ha
 obtain ⟨x, y, hx, hy, d1, rfl⟩ := Sep.append.1 ha
 obtain ⟨d3, d4⟩ := Heap.join_disj.1 d
 exact ⟨x.join (y.join q), ⟨x, y.join q, hx, ⟨y, q, hy, hq, d4, rfl⟩, Heap.disj_join.2 ⟨d1, d3⟩, rfl⟩, by rw [Heap.join_assoc]; exact Heap.Le.refl _⟩
theorem Weak.famOne {x : α} : Weak (f x :: rs) (fam f [x] :: rs) := fun h ⟨a, b, ha, hb, d, e⟩ => ⟨h, ⟨a, b, Sep.single.2 ha, hb, d, e⟩, Heap.Le.refl _⟩
theorem Weak.famThe {x : α} : Weak (fam f [x] :: rs) (f x :: rs) := fun h ⟨a, b, ha, hb, d, e⟩ => ⟨h, ⟨a, b, Sep.single.1 ha, hb, d, e⟩, Heap.Le.refl _⟩
theorem Weak.swap {a b : HP} : Weak (a :: b :: rs) (b :: a :: rs) := Weak.pick (p := [a]) (Weak.refl _)
theorem Weak.famAdd {x : α} {xs : List α} : Weak (f x :: fam f xs :: rs) (fam f (xs ++ [x]) :: rs) := Weak.swap.trans ((Weak.keep Weak.famOne).trans Weak.famJoin)
theorem list_split {l : List α} {i : Nat} {x : α} (h : l[i]? = some x) : l = l.take i ++ ([x] ++ l.drop (i + 1)) := by
 have hlt := (List.getElem?_eq_some_iff.1 h).1
 rw [List.getElem?_eq_getElem hlt, Option.some.injEq] at h
 rw [List.singleton_append, ← h, ← List.drop_eq_getElem_cons hlt, List.take_append_drop]
/-- One is taken out .. -/
theorem Weak.famOpen {xs : List α} {i : Nat} {x : α} (h : xs[i]? = some x) : Weak (fam f xs :: rs) (f x :: fam f (xs.take i) :: fam f (xs.drop (i + 1)) :: rs) := by
 have h2 : Weak (fam f xs :: rs) (fam f (xs.take i ++ ([x] ++ xs.drop (i + 1))) :: rs) := by rw [← list_split h]; exact Weak.refl _
 exact h2.trans (Weak.famPart.trans ((Weak.keep (Weak.famPart.trans Weak.famThe)).trans Weak.swap))
/-- .. and put back, changed. -/
theorem Weak.famClose {xs : List α} {i : Nat} {y : α} (h : i < xs.length) : Weak (f y :: fam f (xs.take i) :: fam f (xs.drop (i + 1)) :: rs) (fam f (xs.set i y) :: rs) := by
 have e : xs.set i y = xs.take i ++ ([y] ++ xs.drop (i + 1)) := by rw [List.set_eq_take_append_cons_drop, if_pos h]; rfl
 rw [e]
 exact Weak.swap.trans ((Weak.keep (Weak.famOne.trans Weak.famJoin)).trans Weak.famJoin)
end
section
variable {C : Cx} {F : Fx} {l : Env} {rs rs' : List HP} {K : Act → World → Prop} {o : Oper} {Q : Exit → Act → World → Prop} {d : Nat}
theorem Sn.fam {α : Type} {f : α → HP} {xs : List α} {i : Nat} {x : α} {base : Option Addr} {cs : List Value} (m : Has rs (fam f xs) (fam f xs) rs) (hx : xs[i]? = some x) (s : ∀ rs, Has rs (f x) (f x) rs → Sn C F rs base cs) : Sn C F rs base cs := fun w h hs mv j v hv => by
 obtain ⟨a, c, ha, dj, rfl, _⟩ := Sep.take m hs
 have ha : Sep (xs.map f) a := ha
 rw [list_split hx, List.map_append, List.map_append] at ha
 obtain ⟨a1, a2, h1, h2, d1, rfl⟩ := Sep.append.1 ha
 obtain ⟨a3, a4, h3, h4, d2, rfl⟩ := Sep.append.1 h2
 have h3 := Sep.single.1 h3
 obtain ⟨d3, d4⟩ := Heap.join_disj.1 dj
 obtain ⟨d5, d6⟩ := Heap.join_disj.1 d4
 obtain ⟨d7, d8⟩ := Heap.disj_join.1 d1
 have e : (a1.join (a3.join a4)).join c = a3.join ((a1.join a4).join c) := by
  rw [← Heap.join_assoc, ← Heap.join_assoc a3, ← Heap.join_assoc a3, Heap.join_comm d7]
 have hs2 : Sep [f x, fun k => k = (a1.join a4).join c] ((a1.join (a3.join a4)).join c) := ⟨a3, _, h3, Sep.single.2 rfl, Heap.disj_join.2 ⟨Heap.disj_join.2 ⟨d7.symm, d2⟩, d5⟩, e⟩
 exact s _ Has.h0 w _ hs2 mv j v hv
/-- A cell of an owned slice is written. -/
theorem W_storeOwn1 {t b c j T sz n : Nat} {x y : Operand} {v : Value} {cs : List Value} (ho : o.op = .store t x y) (hd : o.dst = none) (hx : ev l x = some (.pointer (some ⟨b, j, none⟩))) (hy : ev l y = some v) (ht : scB C.P t = true) (h1 : v.oneCell' = true)
  (m : Has rs (ownS T sz (.slice (some ⟨b, 0, none⟩) n c) n cs) (ownS T sz (.slice (some ⟨b, 0, none⟩) n c) n (cs.set j v)) rs') (hj : j < cs.length) (k : St C F l rs' K) : OpW C F l rs o K Q := fun a w r nw => by
 obtain ⟨h, s, mv⟩ := nw
 obtain ⟨xx, c', own, dj, rfl, back⟩ := Sep.take m s
 have hl := own.1
 rcases own.2 with ⟨_, hn0, _⟩ | ⟨b', cap, junk, e, hc, hm, hl2, fr, hf, rfl⟩
 ·rw [hl, hn0, Nat.zero_mul] at hj; omega
 ·simp only [Value.slice.injEq, Option.some.injEq, Addr.mk.injEq] at e
  obtain ⟨⟨rfl, _⟩, _, rfl⟩ := e
  have hblk := mv.sub b _ (Heap.le_join_left _ _ b _ (Heap.one_same _ _))
  obtain ⟨w', hr, p⟩ := run_store_blk (P := C.P) (j := j) hblk hf (by rw [List.length_append]; omega) h1
  have hcells : v.cells = #[v] := by cases v <;> first | rfl | (simp [Value.oneCell'] at h1)
  unfold Oper.wp
  have : (execOp a.eval o).run C.P w = .ok .skip w' := by
   simp [execOp, ho, Instr.storeAt, Instr.sureAddr, r.ev hx, r.ev hy, storeVar, (run_isAgg_sc ht w).2, hcells, storeCells, hr, add_zero_off]
  rw [this]
  show K (a.put o.dst undef) w'
  rw [hd]
  obtain ⟨djn, m3⟩ := mv.put dj p.os p.tape p.output p.drawn p.size p.at_ p.other
  have hsp : (cs ++ junk).set j v = cs.set j v ++ junk := List.set_append_left _ _ hj
  rw [hsp] at m3 djn
  refine k a w' r ⟨_, back _ ⟨by rw [List.length_set]; exact hl, .inr ⟨b, c, junk, rfl, hc, hm, ?_, ⟨fr, ?_, rfl⟩⟩⟩ djn, m3⟩
  ·rw [List.length_append, List.length_set, ← List.length_append]; exact hl2
  ·rw [List.length_append, List.length_set, ← List.length_append]; exact hf
/-- Cells of an owned slice are written, side by side. -/
theorem W_storeOwn {t b c j T sz n k2 : Nat} {x y : Operand} {vs cs : List Value} (ho : o.op = .store t x y) (hd : o.dst = none) (hx : ev l x = some (.pointer (some ⟨b, j, none⟩))) (hy : ev l y = some (.agg vs.toArray)) (ht : agB C.P t k2 = true) (hlv : vs.length = k2)
  (h1 : ∀ v ∈ vs, v.oneCell' = true) (m : Has rs (ownS T sz (.slice (some ⟨b, 0, none⟩) n c) n cs) (ownS T sz (.slice (some ⟨b, 0, none⟩) n c) n (splice cs j vs)) rs') (hj : j + vs.length ≤ cs.length) (k : St C F l rs' K) : OpW C F l rs o K Q := fun a w r nw => by
 obtain ⟨h, s, mv⟩ := nw
 obtain ⟨xx, c', own, dj, rfl, back⟩ := Sep.take m s
 have hl := own.1
 rcases own.2 with ⟨⟨b0, e⟩, hn0, rfl⟩ | ⟨b', cap, junk, e, hc, hm, hl2, fr, hf, rfl⟩
 ·rw [hl, hn0, Nat.zero_mul] at hj
  have hv0 : vs = [] := List.eq_nil_of_length_eq_zero (by omega)
  subst hv0
  have hj0 : j = 0 := by simpa using hj
  subst hj0
  subst hlv
  unfold Oper.wp
  have : (execOp a.eval o).run C.P w = .ok .skip w := by
   simp [execOp, ho, Instr.storeAt, Instr.sureAddr, r.ev hx, r.ev hy, storeVar, (run_isAgg_ag ht w).2, Value.cells, storeCells]
  rw [this]
  show K (a.put o.dst undef) w
  rw [hd]
  exact k a w r ⟨_, back _ ⟨by rw [splice_nil]; exact hl, .inl ⟨⟨b0, e⟩, hn0, rfl⟩⟩ dj, mv⟩
 ·simp only [Value.slice.injEq, Option.some.injEq, Addr.mk.injEq] at e
  obtain ⟨⟨rfl, _⟩, _, rfl⟩ := e
  have hblk := mv.sub b _ (Heap.le_join_left _ _ b _ (Heap.one_same _ _))
  obtain ⟨w', hr, p⟩ := run_storeCells_blk (P := C.P) (o := j) vs 0 (cs ++ junk) w hblk hf (by rw [List.length_append]; omega) h1
  subst hlv
  unfold Oper.wp
  have : (execOp a.eval o).run C.P w = .ok .skip w' := by
   simp [execOp, ho, Instr.storeAt, Instr.sureAddr, r.ev hx, r.ev hy, storeVar, (run_isAgg_ag ht w).2, Value.cells, hr]
  rw [this]
  show K (a.put o.dst undef) w'
  rw [hd]
  obtain ⟨djn, m3⟩ := mv.put dj p.os p.tape p.output p.drawn p.size p.at_ p.other
  have hsp : splice (cs ++ junk) (j + 0) vs = splice cs j vs ++ junk := splice_left cs junk vs j hj
  rw [hsp] at m3 djn
  have hls := length_splice cs j vs hj
  refine k a w' r ⟨_, back _ ⟨by rw [hls]; exact hl, .inr ⟨b, c, junk, rfl, hc, hm, ?_, ⟨fr, ?_, rfl⟩⟩⟩ djn, m3⟩
  ·rw [List.length_append, hls, ← List.length_append]; exact hl2
  ·rw [List.length_append, hls, ← List.length_append]; exact hf
end
theorem Sep.map {α β : Type} {f : α → HP} {g : β → HP} {c : α → β} : ∀ {xs : List α} {h : Heap}, (∀ x ∈ xs, ∀ h, f x h → g (c x) h) → Sep (xs.map f) h → Sep ((xs.map c).map g) h
 | [], _, _, s => s
 | x :: xs, _, hh, ⟨a, b, ha, hb, d, e⟩ => ⟨a, b, hh x (by simp) a ha, Sep.map (xs := xs) (fun y hy => hh y (by simp [hy])) hb, d, e⟩
section
variable {C : Cx} {F : Fx} {l : Env} {rs rs' : List HP} {K : Act → World → Prop}
theorem rd_own1 {T sz n cap b i : Nat} {cs : List Value} {u : Value} (m : Has rs (ownS T sz (.slice (some ⟨b, 0, none⟩) n cap) n cs) (ownS T sz (.slice (some ⟨b, 0, none⟩) n cap) n cs) rs) (hu : cs[i]? = some u) : Rd C F rs ⟨b, 0 + i * 1, none⟩ u := by
 rw [Nat.zero_add, Nat.mul_one]; exact Rd.own m hu
end
/-- .. and put back as it was. -/
theorem Weak.famShut {α : Type} {f : α → HP} {rs : List HP} {xs : List α} {i : Nat} {x : α} (h : xs[i]? = some x) : Weak (f x :: fam f (xs.take i) :: fam f (xs.drop (i + 1)) :: rs) (fam f xs :: rs) := by
 have hlt := (List.getElem?_eq_some_iff.1 h).1
 have e : xs.set i x = xs := by
  rw [List.getElem?_eq_getElem hlt, Option.some.injEq] at h
  rw [← h]; exact List.set_getElem_self hlt
 have := Weak.famClose (f := f) (rs := rs) (y := x) hlt
 rwa [e] at this
end Go.Proofs.YtcngmkjdpoiiaaaGreatDoor

/- How arguments of whatever plain type are read: combinators over the type's make. -/
namespace Go.Proofs.YtcngmkjdpoiiaaaGreatDoor
open Go Go.RowKit Go.ChangeShapes Go.WideShapes

theorem bulk_one {H : Type} (d : DataW H) : 1 ≤ Rows.uptoBulk d := by
 cases d with
 | lit l => cases l <;> simp [Rows.uptoBulk]
 | nil => simp [Rows.uptoBulk]
 | ptr d => simp [Rows.uptoBulk]
 | slice elems spare => simp [Rows.uptoBulk]
 | agg parts => simp [Rows.uptoBulk]
 | iface t d => simp [Rows.uptoBulk]
 | map entries => simp [Rows.uptoBulk]
 | held h => simp [Rows.uptoBulk]
/-- A slice: its base, its room, what its elements are. -/
structure Sl (α : Type) where
 b : Option Addr
 c : Nat
 xs : List α
def Sl.val {α : Type} (s : Sl α) : Value := .slice s.b s.xs.length s.c
/-- Cells of type t are read as an α. -/
def Reads (P : Program) (t : TypeId) {α : Type} (cells : α → List Value) (Hd : World → α → Prop) (bulk : α → Nat) (Small : α → Prop) : Prop :=
 ∀ (H : Type) (enc : TypeId × Value → H) (W : World) (hd : Bool) (fuel : Nat) (cs : List Value) (x : DataW H × List MemPlace), DataW.trod enc P W 0 (fun _ => true) hd fuel t cs = some x →
  ∃ a, cs = cells a ∧ Hd W a ∧ bulk a ≤ Rows.uptoBulk x.1 ∧ ((∀ m ∈ DataW.weights P t x.1, m ≤ reachBytes) → Small a)
theorem fits_of_wf {k : IntKind} {z : Int} (h : (Lit.int k z).wf = true) : fits k z := by
 cases k <;> simp [Lit.wf, IntKind.min, IntKind.max, IntKind.signed, IntKind.bits] at h <;> simp only [fits] <;> omega
section
variable {P : Program}
theorem Reads.int {t : TypeId} {k : IntKind} (ht : P.underlying t = some (.int k)) : Reads P t (fun z : Int => [.int k z]) (fun _ z => fits k z) (fun _ => 1) (fun _ => True) := fun H enc W hd fuel cs x h => by
 obtain ⟨z, e1, e2, e3⟩ := DataW.trod_int ht h
 exact ⟨z, e1, fits_of_wf e3, bulk_one _, fun _ => trivial⟩
theorem Reads.bool {t : TypeId} (ht : P.underlying t = some .bool) : Reads P t (fun z : Bool => [.bool z]) (fun _ z => True) (fun _ => 1) (fun _ => True) := fun H enc W hd fuel cs x h => by
 obtain ⟨z, e1, e2⟩ := DataW.trod_bool ht h
 exact ⟨z, e1, trivial, bulk_one _, fun _ => trivial⟩
theorem str_nums (s : ByteArray) : ∃ xs : List Int, IsB xs ∧ s = strOfNums xs ∧ xs.length = s.size := by
 refine ⟨s.data.toList.map fun c => (c.toNat : Int), fun x hx => ?_, ?_, by rw [List.length_map, Array.length_toList]; rfl⟩
 ·obtain ⟨c, _, rfl⟩ := List.mem_map.1 hx
  have := c.toNat_lt; omega
 ·apply ByteArray.ext
  apply Array.ext'
  rw [strOfNums_data, List.map_map]
  have : (fun n : Int => UInt8.ofNat n.toNat) ∘ (fun c : UInt8 => (c.toNat : Int)) = id := by funext c; simp
  rw [this, List.map_id]
theorem Reads.string {t : TypeId} (ht : P.underlying t = some .string) : Reads P t (fun z : List Int => [.string (strOfNums z)]) (fun _ z => IsB z ∧ z.length ≤ maxLen) (fun z => z.length + 1) (fun z => z.length ≤ reachBytes) := fun H enc W hd fuel cs x h => by
 obtain ⟨s, e1, e2, e3⟩ := DataW.trod_string ht h
 obtain ⟨xs, h1, h2, h3⟩ := str_nums s
 refine ⟨xs, by rw [e1, h2], ⟨h1, by omega⟩, ?_, fun hm => ?_⟩
 ·rw [e2]
  simp only [Rows.uptoBulk]
  have : s.data.toList.length = s.size := by rw [Array.length_toList]; rfl
  omega
 ·have := hm s.data.toList.length (by rw [e2]; simp [DataW.weights])
  have h4 : s.data.toList.length = s.size := by rw [Array.length_toList]; rfl
  omega
theorem list_choice' {α : Type} {Q : Nat → α → Prop} : ∀ n, (∀ i, i < n → ∃ p, Q i p) → ∃ l : List α, l.length = n ∧ ∀ i p, l[i]? = some p → Q i p
 | 0, _ => ⟨[], rfl, fun _ _ h => by cases h⟩
 | n + 1, h => by
  obtain ⟨l, hl, hp⟩ := list_choice' n fun i hi => h i (by omega)
  obtain ⟨p, hpp⟩ := h n (by omega)
  refine ⟨l ++ [p], by simp [hl], fun i q hq => ?_⟩
  by_cases hi : i < n
  ·rw [List.getElem?_append_left (by omega)] at hq; exact hp i q hq
  ·rw [List.getElem?_append_right (by omega)] at hq
   have : i = n := by
    have := (List.getElem?_eq_some_iff.1 hq).1
    simp at this; omega
   subst this
   simp [hl] at hq
   rw [← hq]; exact hpp
/-! ### Rows of things of one size -/
section
variable {α : Type} {g : α → List Value} {n : Nat} {xs : List α} (h : ∀ x ∈ xs, (g x).length = n)
include h
theorem rows_length : (xs.flatMap g).length = xs.length * n := by
 induction xs with
 | nil => simp
 | cons x xs ih => rw [List.flatMap_cons, List.length_append, h x (by simp), ih (fun y hy => h y (by simp [hy])), List.length_cons, Nat.add_mul]; omega
theorem rows_drop (p : Nat) : (xs.flatMap g).drop (p * n) = (xs.drop p).flatMap g := by
 induction xs generalizing p with
 | nil => simp
 | cons x xs ih =>
  cases p with
  | zero => simp
  | succ p =>
   have hx := h x (by simp)
   rw [List.flatMap_cons, Nat.add_mul, Nat.one_mul, Nat.add_comm, ← hx, List.drop_length_add_append, hx, ih (fun y hy => h y (by simp [hy])), List.drop_succ_cons]
theorem rows_take (p : Nat) : (xs.flatMap g).take (p * n) = (xs.take p).flatMap g := by
 induction xs generalizing p with
 | nil => simp
 | cons x xs ih =>
  cases p with
  | zero => simp
  | succ p =>
   have hx := h x (by simp)
   rw [List.flatMap_cons, Nat.add_mul, Nat.one_mul, Nat.add_comm, ← hx, List.take_length_add_append, hx, ih (fun y hy => h y (by simp [hy])), List.take_succ_cons, List.flatMap_cons]
theorem rows_at {i : Nat} {x : α} (hi : xs[i]? = some x) (j : Nat) (v : Value) (hj : (g x)[j]? = some v) : (xs.flatMap g)[i * n + j]? = some v := by
 rw [← List.getElem?_drop, rows_drop h]
 have : xs.drop i = x :: xs.drop (i + 1) := by
  have hlt := (List.getElem?_eq_some_iff.1 hi).1
  rw [List.drop_eq_getElem_cons hlt]
  rw [List.getElem?_eq_getElem hlt, Option.some.injEq] at hi
  rw [hi]
 rw [this, List.flatMap_cons, List.getElem?_append_left (List.getElem?_eq_some_iff.1 hj).1]
 exact hj
theorem rows_splice {i : Nat} {x : α} (hi : i < xs.length) (hx : (g x).length = n) : splice (xs.flatMap g) (i * n) (g x) = (xs.set i x).flatMap g := by
 unfold splice
 rw [hx, rows_take h, show i * n + n = (i + 1) * n by rw [Nat.add_mul, Nat.one_mul], rows_drop h, List.set_eq_take_append_cons_drop, if_pos hi, List.flatMap_append, List.flatMap_cons, List.append_assoc]
theorem rows_set {i j : Nat} {x y : α} {v : Value} (hi : xs[i]? = some x) (hj : j < n) (hy : g y = (g x).set j v) : (xs.flatMap g).set (i * n + j) v = (xs.set i y).flatMap g := by
 have hlt := (List.getElem?_eq_some_iff.1 hi).1
 have hx := h x (List.mem_of_getElem? hi)
 have hgy : (g y).length = n := by rw [hy, List.length_set]; exact hx
 rw [← rows_splice h hlt hgy]
 apply List.ext_getElem?
 intro k
 have hl := rows_length h
 have hmul : (i + 1) * n ≤ xs.length * n := Nat.mul_le_mul_right n hlt
 rw [Nat.add_mul, Nat.one_mul] at hmul
 unfold splice
 rw [List.getElem?_set]
 by_cases hk1 : k < i * n
 ·rw [if_neg (by omega), List.append_assoc, List.getElem?_append_left (by rw [List.length_take]; omega), List.getElem?_take, if_pos hk1]
 ·by_cases hk2 : k < i * n + n
  ·rw [List.append_assoc, List.getElem?_append_right (by rw [List.length_take]; omega), List.length_take, Nat.min_eq_left (by omega), List.getElem?_append_left (by omega), hy, List.getElem?_set]
   by_cases e : i * n + j = k
   ·rw [if_pos e, if_pos (by omega), if_pos (by omega), if_pos (by omega)]
   ·rw [if_neg e, if_neg (by omega)]
    have h2 := rows_at h hi (k - i * n) _ (List.getElem?_eq_getElem (by omega))
    rw [show i * n + (k - i * n) = k by omega] at h2
    rw [h2, List.getElem?_eq_getElem]
  ·rw [if_neg (by omega), List.getElem?_append_right (by rw [List.length_append, List.length_take]; omega), List.length_append, List.length_take, Nat.min_eq_left (by omega), List.getElem?_drop, hgy]
   congr 1; omega
end
theorem rows_one {α : Type} {g : α → List Value} {xs : List α} (h : ∀ x ∈ xs, ∀ v ∈ g x, v.oneCell' = true) : ∀ v ∈ xs.flatMap g, v.oneCell' = true := fun v hv => by
 obtain ⟨x, hx, hv⟩ := List.mem_flatMap.1 hv
 exact h x hx v hv
section
variable {α : Type} {cells : α → List Value} {Hd : World → α → Prop} {bulk : α → Nat} {Small : α → Prop}
theorem bulkAll_le {H : Type} : ∀ (l : List α) (ys : List (DataW H)), ys.length = l.length → (∀ (i : Nat) (a : α) (y : DataW H), l[i]? = some a → ys[i]? = some y → bulk a ≤ Rows.uptoBulk y) → (l.map bulk).sum ≤ Rows.uptoBulkAll ys
 | [], _, _, _ => Nat.zero_le _
 | a :: l, [], h, _ => by cases h
 | a :: l, y :: ys, h, hh => by
  have h1 := hh 0 a y rfl rfl
  have h2 := bulkAll_le l ys (by simpa using h) fun i a y ha hy => hh (i + 1) a y ha hy
  simp only [List.map_cons, List.sum_cons, Rows.uptoBulkAll]; omega
theorem weights_mem_all {H : Type} {e : TypeId} : ∀ {ds : List (DataW H)} {d : DataW H}, d ∈ ds → ∀ m ∈ DataW.weights P e d, m ∈ DataW.weightsAll P e ds
 | d0 :: ds, d, hd, m, hm => by
  simp only [DataW.weightsAll, List.mem_append]
  rcases List.mem_cons.1 hd with rfl | hd
  ·exact .inl hm
  ·exact .inr (weights_mem_all hd m hm)
theorem Reads.slice {t e sz by_ : Nat} (ht : slB P t e sz by_ = true) (hc : P.cellsOf e = sz) (hb : P.bytesOf e = by_) (hsz : ∀ a, (cells a).length = sz ∨ True) (r : Reads P e cells Hd bulk Small) :
  Reads P t (fun s : Sl α => [.slice s.b s.xs.length s.c]) (fun W s => s.xs.length ≤ s.c ∧ s.c ≤ maxLen ∧ Row W s.b (s.xs.flatMap cells) ∧ (∀ x ∈ s.xs, Hd W x ∧ (cells x).length = sz)) (fun s => (s.xs.map bulk).sum + 1) (fun s => s.xs.length * by_ ≤ reachBytes ∧ ∀ x ∈ s.xs, Small x) := fun H enc W hd fuel cs x h => by
 rcases DataW.trod_slice (slB_spec ht).1 h with ⟨e1, e2⟩ | ⟨a, len, cap, elems, rest, n, _, e1, hx, _, hlc, hcm, hlen, hel, _, _⟩
 ·exact ⟨⟨none, 0, []⟩, e1, ⟨Nat.le_refl _, Nat.zero_le _, Row.nil, fun _ h => by cases h⟩, bulk_one _, fun _ => ⟨by simp, fun _ h => by cases h⟩⟩
 ·obtain ⟨l, hl, hp⟩ := list_choice' (Q := fun i (p : α) => ∃ y, elems[i]? = some y ∧ (cells p).length = sz ∧ (∀ (j : Nat) (v : Value), (cells p)[j]? = some v → W.cell? ((a.add (i * sz)).add j) = some v) ∧ Hd W p ∧ bulk p ≤ Rows.uptoBulk y.1 ∧ ((∀ m ∈ DataW.weights P e y.1, m ≤ reachBytes) → Small p)) len fun i hi => by
   have h1 := hel i hi
   rw [hc, List.getElem?_eq_getElem (by omega)] at h1
   obtain ⟨us, hus, htr⟩ := Option.bind_eq_some_iff.1 h1
   obtain ⟨_, hl1, hc1⟩ := World.cells?_some hus
   obtain ⟨p, q1, q2, q3, q4⟩ := r H enc W hd n us _ htr
   refine ⟨p, _, List.getElem?_eq_getElem (by omega), by rw [← q1]; exact hl1, fun j v hv => ?_, q2, q3, q4⟩
   rw [← q1] at hv
   have hj := (List.getElem?_eq_some_iff.1 hv).1
   have := hc1 j (by omega)
   rw [this, ← hv]
  have hx9 := hx
  have hlen2 : ∀ x ∈ l, (cells x).length = sz := fun x hx => by
   obtain ⟨i, hi, e⟩ := List.mem_iff_getElem.1 hx
   obtain ⟨y, _, h2, _⟩ := hp i x (by rw [List.getElem?_eq_getElem hi, e])
   exact h2
  refine ⟨⟨some a, cap, l⟩, by rw [e1]; show _ = [Value.slice (some a) l.length cap]; rw [hl], ⟨by show l.length ≤ cap; omega, hcm, fun j v hv => ⟨a, rfl, ?_⟩, fun x hx => ?_⟩, ?_, fun hm => ⟨?_, fun x hx => ?_⟩⟩
  ·have hj := (List.getElem?_eq_some_iff.1 hv).1
   have hv : (l.flatMap cells)[j]? = some v := hv
   have hj : j < (l.flatMap cells).length := hj
   rw [rows_length hlen2] at hj
   have hs0 : 0 < sz := Nat.pos_of_ne_zero fun e => by subst e; simp at hj
   have hi : j / sz < l.length := by rw [Nat.div_lt_iff_lt_mul hs0]; exact hj
   obtain ⟨y, _, h2, h3, _⟩ := hp (j / sz) _ (List.getElem?_eq_getElem hi)
   have hm2 : j % sz < (cells l[j / sz]).length := by rw [h2]; exact Nat.mod_lt _ hs0
   have h4 := rows_at hlen2 (List.getElem?_eq_getElem hi) (j % sz) _ (List.getElem?_eq_getElem hm2)
   have e : j / sz * sz + j % sz = j := by rw [Nat.mul_comm]; exact Nat.div_add_mod j sz
   rw [e, hv] at h4
   have h5 := h3 (j % sz) _ (List.getElem?_eq_getElem hm2)
   have e5 : (a.add (j / sz * sz)).add (j % sz) = a.add j := by
    have : (a.add (j / sz * sz)).add (j % sz) = a.add (j / sz * sz + j % sz) := by
     unfold Addr.add
     by_cases h1 : j / sz * sz = 0 <;> by_cases h2 : j % sz = 0 <;> simp [h1, h2, Nat.add_assoc]
    rw [this, e]
   rw [e5] at h5
   rw [h5, h4]
  ·obtain ⟨i, hi, e⟩ := List.mem_iff_getElem.1 hx
   obtain ⟨y, _, _, _, h4, _⟩ := hp i x (by rw [List.getElem?_eq_getElem hi, e])
   exact ⟨h4, hlen2 x hx⟩
  ·rw [hx]
   simp only [Rows.uptoBulk]
   have := bulkAll_le (bulk := bulk) l (elems.map (·.1)) (by simp [hlen, hl]) fun i p y hpi hy => by
    obtain ⟨y2, h1, _, _, _, h5, _⟩ := hp i p hpi
    rw [List.getElem?_map, h1] at hy
    obtain rfl := Option.some.inj hy
    exact h5
   show (l.map bulk).sum + 1 ≤ _
   omega
  ·have := hm ((elems.length + rest.length) * by_) (by rw [hx]; simp [DataW.weights, (slB_spec ht).1, hb])
   have h2 : l.length * by_ ≤ (elems.length + rest.length) * by_ := Nat.mul_le_mul_right _ (by omega)
   show l.length * by_ ≤ _
   omega
  ·obtain ⟨i, hi, e⟩ := List.mem_iff_getElem.1 hx
   obtain ⟨y, h1, _, _, _, _, h6⟩ := hp i x (by rw [List.getElem?_eq_getElem hi, e])
   refine h6 fun m hm2 => hm m ?_
   rw [hx9]
   simp only [DataW.weights, (slB_spec ht).1, List.mem_cons, List.mem_append]
   exact .inr (.inl (weights_mem_all (List.mem_map.2 ⟨y, List.mem_of_getElem? h1, rfl⟩) m hm2))
theorem Reads.as {t : TypeId} {β : Type} {cells' : β → List Value} {Hd' : World → β → Prop} {bulk' : β → Nat} {Small' : β → Prop} (f : α → β) (r : Reads P t cells Hd bulk Small) (h1 : ∀ a, cells a = cells' (f a)) (h2 : ∀ W a, Hd W a → Hd' W (f a)) (h3 : ∀ a, bulk' (f a) ≤ bulk a) (h4 : ∀ a, Small a → Small' (f a)) : Reads P t cells' Hd' bulk' Small' := fun H enc W hd fuel cs x h => by
 obtain ⟨a, e1, e2, e3, e4⟩ := r H enc W hd fuel cs x h
 exact ⟨f a, by rw [e1, h1], h2 W a e2, Nat.le_trans (h3 a) e3, fun hm => h4 a (e4 hm)⟩
end
/-! ### Arrays of whole numbers -/
theorem Reads.ints {t e n : Nat} {k : IntKind} (ht : P.underlying t = some (.array n e)) (he : P.underlying e = some (.int k)) (hc : P.cellsOf e = 1) (hct : P.cellsOf t = n) : Reads P t (fun zs : List Int => Go.Proofs.YtcngmkjdpoiiaaaGreatDoor.ints k zs) (fun _ zs => zs.length = n ∧ ∀ z ∈ zs, fits k z) (fun _ => 1) (fun _ => True) := fun H enc W hd fuel cs x h => by
 obtain ⟨zs, e1, e2, e3, e4⟩ := open_intArr ht he hc hct h
 exact ⟨zs, e1, ⟨e2, fun z hz => fits_of_wf (e4 z hz)⟩, bulk_one _, fun _ => trivial⟩
/-! ### Structs -/
/-- A struct's fields: type, place, size. -/
def fsB (P : Program) (t : TypeId) (ds : List (Nat × Nat × Nat)) : Bool := match P.underlying t with
 | some (.struct fs) => fs.toList.map (fun f => (f.type, f.offset, P.cellsOf f.type)) == ds
 | _ => false
def ReadsF (P : Program) (ds : List (Nat × Nat × Nat)) (o tot : Nat) {α : Type} (cells : α → List Value) (Hd : World → α → Prop) (bulk : α → Nat) (Small : α → Prop) : Prop :=
 ∀ (H : Type) (enc : TypeId × Value → H) (W : World) (hd : Bool) (n : Nat) (cs : List Value) (xs : List (DataW H × List MemPlace)), cs.length = tot → xs.length = ds.length →
  (∀ (i : Nat) (d : Nat × Nat × Nat), ds[i]? = some d → DataW.trod enc P W 0 (fun _ => true) hd n d.1 ((cs.drop d.2.1).take d.2.2) = xs[i]?) →
  ∃ a, cs.drop o = cells a ∧ Hd W a ∧ bulk a ≤ Rows.uptoBulkAll (xs.map (·.1)) ∧ ((∀ m ∈ DataW.weightsEach P (ds.map (·.1)) (xs.map (·.1)), m ≤ reachBytes) → Small a)
theorem ReadsF.nil {tot : Nat} : ReadsF P [] tot tot (fun _ : Unit => []) (fun _ _ => True) (fun _ => 0) (fun _ => True) := fun H enc W hd n cs xs h1 h2 h3 =>
 ⟨(), List.drop_eq_nil_of_le (by omega), trivial, Nat.zero_le _, fun _ => trivial⟩
section
variable {α β : Type} {ca : α → List Value} {Ha : World → α → Prop} {ba : α → Nat} {Sa : α → Prop} {cb : β → List Value} {Hb : World → β → Prop} {bb : β → Nat} {Sb : β → Prop}
theorem ReadsF.cons {t o s tot : Nat} {ds : List (Nat × Nat × Nat)} (r : Reads P t ca Ha ba Sa) (rs : ReadsF P ds (o + s) tot cb Hb bb Sb) :
  ReadsF P ((t, o, s) :: ds) o tot (fun x : α × β => ca x.1 ++ cb x.2) (fun W x => (Ha W x.1 ∧ (ca x.1).length ≤ s) ∧ Hb W x.2) (fun x => ba x.1 + bb x.2) (fun x => Sa x.1 ∧ Sb x.2) := fun H enc W hd n cs xs h1 h2 h3 => by
 cases xs with
 | nil => cases h2
 | cons x xs =>
  have h0 := h3 0 _ rfl
  obtain ⟨a, e1, e2, e3, e4⟩ := r H enc W hd n _ x h0
  obtain ⟨b, f1, f2, f3, f4⟩ := rs H enc W hd n cs xs h1 (by simpa using h2) fun i d hd => h3 (i + 1) d hd
  refine ⟨(a, b), ?_, ⟨⟨e2, by rw [← e1, List.length_take]; exact Nat.min_le_left _ _⟩, f2⟩, ?_, fun hm => ⟨e4 fun m hm2 => hm m ?_, f4 fun m hm2 => hm m ?_⟩⟩
  ·show cs.drop o = ca a ++ cb b
   have e1 : (cs.drop o).take s = ca a := e1
   rw [← e1, ← f1, ← List.drop_drop, List.take_append_drop]
  ·simp only [List.map_cons, Rows.uptoBulkAll]; omega
  ·simp only [List.map_cons, DataW.weightsEach, List.mem_append]; exact .inl hm2
  ·simp only [List.map_cons, DataW.weightsEach, List.mem_append]; exact .inr hm2
theorem Reads.struct {t tot : Nat} {ds : List (Nat × Nat × Nat)} (ht : fsB P t ds = true) (hc : P.cellsOf t = tot) (rs : ReadsF P ds 0 tot ca Ha ba Sa) : Reads P t ca (fun W a => Ha W a ∧ (ca a).length = tot) (fun a => ba a + 1) Sa := fun H enc W hd fuel cs x h => by
 unfold fsB at ht
 split at ht
 ·rename_i fs hfs
  have hds : fs.toList.map (fun f => (f.type, f.offset, P.cellsOf f.type)) = ds := by simpa using ht
  obtain ⟨xs, n, _, hx, hl, hxl, hel⟩ := DataW.trod_struct hfs h
  obtain ⟨a, e1, e2, e3, e4⟩ := rs H enc W hd n cs xs (by rw [hl, hc]) (by rw [← hds, List.length_map, hxl]; simp) fun i d hd2 => by
   rw [← hds, List.getElem?_map] at hd2
   obtain ⟨f, hf, rfl⟩ := Option.map_eq_some_iff.1 hd2
   exact hel i f (by simpa using hf)
  rw [List.drop_zero] at e1
  refine ⟨a, e1, ⟨e2, by rw [← e1, hl, hc]⟩, ?_, fun hm => e4 fun m hm2 => hm m ?_⟩
  ·rw [hx]; simp only [Rows.uptoBulk]; omega
  ·rw [hx]
   simp only [DataW.weights, hfs]
   have : fs.toList.map (·.type) = ds.map (·.1) := by rw [← hds, List.map_map]; rfl
   rw [this]; exact hm2
 ·cases ht
end
/-! ### Arguments -/
section
variable {α : Type} {cells : α → List Value} {Hd : World → α → Prop} {bulk : α → Nat} {Small : α → Prop} {H : Type} {enc : TypeId × Value → H} {W : World} {hd : Bool} {base : Nat} {rr : Reach}
theorem Reads.arg {t : TypeId} {v : Value} {d : DataW H} {ps : List MemPlace} (r : Reads P t cells Hd bulk Small) (h : DataW.Trod enc P W 0 (fun _ => true) hd t v d ps) :
  ∃ a, v.cells.toList = cells a ∧ Hd W a ∧ bulk a ≤ Rows.uptoBulk d ∧ ∀ (ts : List TypeId) (ds : List (DataW H)) (j : Nat), (DataW.weightsEach P ts ds).all (· ≤ reachBytes) = true → ts[j]? = some t → ds[j]? = some d → Small a := by
 obtain ⟨fuel, hf⟩ := h
 obtain ⟨a, e1, e2, e3, e4⟩ := r H enc W hd fuel _ _ hf
 exact ⟨a, e1, e2, e3, fun ts ds j hall ht hd' => e4 fun m hm => of_decide_eq_true (List.all_eq_true.1 hall _ (DataW.weights_mem_each ht hd' m hm))⟩
theorem Reads.argStruct {t : TypeId} {fs : Array Field} {v : Value} {d : DataW H} {ps : List MemPlace} (r : Reads P t cells Hd bulk Small) (ht : P.underlying t = some (.struct fs)) (hv : Value.okWide P W rr base t v) (h : DataW.Trod enc P W 0 (fun _ => true) hd t v d ps) :
  ∃ a, v = .agg (cells a).toArray ∧ Hd W a ∧ bulk a ≤ Rows.uptoBulk d ∧ ∀ (ts : List TypeId) (ds : List (DataW H)) (j : Nat), (DataW.weightsEach P ts ds).all (· ≤ reachBytes) = true → ts[j]? = some t → ds[j]? = some d → Small a := by
 obtain ⟨arr, rfl, _⟩ := okWide_struct ht hv
 obtain ⟨a, e1, e2⟩ := r.arg h
 have e1 : arr.toList = cells a := e1
 exact ⟨a, by rw [← e1], e2⟩
end
end
end Go.Proofs.YtcngmkjdpoiiaaaGreatDoor

/- The twentieth part of the program logic: rows of records of whatever make. -/
namespace Go.Proofs.YtcngmkjdpoiiaaaGreatDoor
open Go Go.RowKit
/-- A record that lies in n cells. -/
class Rec (α : Type) where
 cells : α → List Value
 n : Nat
 len : ∀ x, (cells x).length = n
 one : ∀ x, ∀ v ∈ cells x, v.oneCell' = true
/-- The cells of a row of records. -/
def rc {α : Type} [Rec α] (l : List α) : List Value := l.flatMap Rec.cells
section
variable {α : Type} [Rec α]
theorem rc_len (l : List α) : ∀ x ∈ l, (Rec.cells x).length = Rec.n α := fun x _ => Rec.len x
theorem rc_length (l : List α) : (rc l).length = l.length * Rec.n α := rows_length (rc_len l)
theorem rc_append (l k : List α) : rc (l ++ k) = rc l ++ rc k := by simp [rc]
theorem rc_single (x : α) : rc [x] = Rec.cells x := by simp [rc]
theorem rc_one (l : List α) : ∀ v ∈ rc l, v.oneCell' = true := rows_one fun x _ => Rec.one x
theorem rc_at {l : List α} {i j : Nat} {x : α} {v : Value} (h : l[i]? = some x) (hv : (Rec.cells x)[j]? = some v) : (rc l)[i * Rec.n α + j]? = some v := rows_at (rc_len l) h j v hv
theorem rc_drop (l : List α) (p : Nat) : (rc l).drop (p * Rec.n α) = rc (l.drop p) := rows_drop (rc_len l) p
theorem rc_take (l : List α) (p : Nat) : (rc l).take (p * Rec.n α) = rc (l.take p) := rows_take (rc_len l) p
theorem rc_splice {l : List α} {i : Nat} (x : α) (h : i < l.length) : splice (rc l) (i * Rec.n α) (Rec.cells x) = rc (l.set i x) := rows_splice (rc_len l) h (Rec.len x)
theorem rc_set {l : List α} {i j : Nat} {x y : α} {v : Value} (h : l[i]? = some x) (hj : j < Rec.n α) (hy : Rec.cells y = (Rec.cells x).set j v) : (rc l).set (i * Rec.n α + j) v = rc (l.set i y) := rows_set (rc_len l) h hj hy
section
variable {C : Cx} {F : Fx} {rs : List HP}
/-- A record of a row that was there is read. -/
theorem rds_rc {b j i : Nat} {l : List α} {x : α} (h : Rds C F rs ⟨b, j, none⟩ (rc l)) (hx : l[i]? = some x) : Rds C F rs ⟨b, j + i * Rec.n α, none⟩ (Rec.cells x) := h.part (i * Rec.n α) fun m v hv => rc_at hx hv
theorem rd_rc {b j i k : Nat} {l : List α} {x : α} {v : Value} (h : Rds C F rs ⟨b, j, none⟩ (rc l)) (hx : l[i]? = some x) (hv : (Rec.cells x)[k]? = some v) : Rd C F rs ⟨b, j + i * Rec.n α + k, none⟩ v := by
 have := h.at_ (rc_at hx hv)
 rwa [← Nat.add_assoc] at this
theorem rds_own {T sz n c b : Nat} {l : List α} (m : Has rs (ownS T sz (.slice (some ⟨b, 0, none⟩) n c) n (rc l)) (ownS T sz (.slice (some ⟨b, 0, none⟩) n c) n (rc l)) rs) : Rds C F rs ⟨b, 0, none⟩ (rc l) := by
 have h := Rds.sn (C := C) (F := F) (k := 0) (us := rc l) (Sn.own m rfl) fun i v hv => by rw [Nat.zero_add]; exact hv
 exact h
end
end
end Go.Proofs.YtcngmkjdpoiiaaaGreatDoor

/- Go's library's sort by a comparison, over records: the kit's contracts as rules of this logic. -/
namespace Go.Proofs.YtcngmkjdpoiiaaaGreatDoor
open Go Go.RowKit Go.Sort Go.Shelf
section
variable {α : Type} [Rec α] [Inhabited α]
theorem flatK_rc (d : Array α) : flatK Rec.cells (Rec.n α) d = (rc d.toList).toArray := by
 refine ext_get! (by simp [rc_length]) fun t ht => ?_
 have ht' : t < d.size * Rec.n α := by simpa using ht
 have hn : 0 < Rec.n α := by
  rcases Nat.eq_zero_or_pos (Rec.n α) with h | h
  ·rw [h, Nat.mul_zero] at ht'; omega
  ·exact h
 rw [get_flatK _ _ _ t ht']
 have hi : t / Rec.n α < d.size := (Nat.div_lt_iff_lt_mul hn).2 ht'
 have hx : d.toList[t / Rec.n α]? = some d[t / Rec.n α]! := by
  rw [Array.getElem?_toList, Array.getElem?_eq_getElem hi, getElem!_pos d _ hi]
 have hj : t % Rec.n α < (Rec.cells d[t / Rec.n α]!).length := by rw [Rec.len]; exact Nat.mod_lt _ hn
 have := rc_at hx (List.getElem?_eq_getElem hj)
 rw [Nat.div_add_mod'] at this
 have ht2 : t < (rc d.toList).toArray.size := by simp [rc_length]; exact ht'
 rw [getElem!_pos (Rec.cells d[t / Rec.n α]!) (t % Rec.n α) hj, getElem!_pos (rc d.toList).toArray t ht2]
 have h3 := (List.getElem?_eq_some_iff.1 this).2
 simp only [List.getElem_toArray]
 exact h3.symm
theorem rc_size (d : Array α) : (rc d.toList).length = d.size * Rec.n α := by rw [rc_length]; simp
end
section
variable {α : Type} [Rec α] [Inhabited α] {C : Cx}
theorem onCells_of {f : Array Value → Array Value} {c : Array Value} {T : TypeId} {fr : Nat × Nat} : onCells f (.cells c T fr) = .cells (f c) T fr := rfl
theorem putCells_left (F c : Array Value) (junk : List Value) (h : F.size = c.size) : putCells id 0 F (c.toList ++ junk).toArray = (F.toList ++ junk).toArray := by
 refine Array.ext (by simp [putCells]; omega) fun i h1 h2 => ?_
 simp only [putCells, List.size_toArray, List.length_append, Array.length_toList, Array.size_mapIdx] at h1 h2
 simp only [putCells, Array.getElem_mapIdx, List.getElem_toArray]
 by_cases hi : i < F.size
 ·rw [if_pos ⟨Nat.zero_le _, by omega⟩, List.getElem_append_left (by simpa using hi)]
  simp only [Nat.sub_zero, id, Array.getElem_toList]
  exact getElem!_pos F i hi
 ·rw [if_neg (by omega), List.getElem_append_right (by simp; omega), List.getElem_append_right (by simp; omega)]
  simp only [Array.length_toList, h]
theorem heap_sorted {w : World} {b T m : Nat} {d d' : Array α} {junk : List Value} {fr : Nat × Nat} {os : Array Obj} (hg : w.heap[b]? = some (.cells (rc d.toList ++ junk).toArray T fr)) (hs : d'.size = d.size) (i : Nat) (hi : i < w.heap.size) :
  (sortWorldK Rec.cells (Rec.n α) w b 0 m d' os).heap[i]? = if b = i then some (.cells (rc d'.toList ++ junk).toArray T fr) else w.heap[i]? := by
 show ((w.heap.modify b (onCells (putCells id 0 (flatK Rec.cells (Rec.n α) d')))) ++ os)[i]? = _
 rw [Array.getElem?_append_left (by simpa using hi), Array.getElem?_modify]
 split
 ·rename_i e
  subst e
  rw [hg]
  show some (onCells _ _) = _
  rw [onCells_of]
  have := putCells_left (flatK Rec.cells (Rec.n α) d') (rc d.toList).toArray junk (by rw [flatK_rc]; simp [rc_length, hs])
  simp only [List.toList_toArray] at this
  rw [this, flatK_rc]
 ·rfl
/-- A slice of the call's own, whose cells are d, in the words of the kit. -/
theorem own_sorted {w : World} {h : Heap} {T cap b : Nat} {d : Array α} (hs : ownS T (Rec.n α) (.slice (some ⟨b, 0, none⟩) d.size cap) d.size (rc d.toList) h) (hn : 0 < d.size) (sub : Sub C w h) :
  b < w.heap.size ∧ C.ng ≤ b ∧ HoldsK Rec.cells (Rec.n α) w b 0 d ∧ (∀ m (d' : Array α) os, d'.size = d.size → C.ok (sortWorldK Rec.cells (Rec.n α) w b 0 m d' os)) ∧
  ∀ m (d' : Array α) os, d'.size = d.size → ∃ h', ownS T (Rec.n α) (.slice (some ⟨b, 0, none⟩) d.size cap) d.size (rc d'.toList) h' ∧ Move C w h (sortWorldK Rec.cells (Rec.n α) w b 0 m d' os) h' := by
 have hl := hs.1
 rcases hs.2 with ⟨_, h0, _⟩ | ⟨b', cap', junk, e, hc, hm, hl2, fr, hf, rfl⟩
 ·omega
 ·simp only [Value.slice.injEq, Option.some.injEq, Addr.mk.injEq] at e
  obtain ⟨⟨rfl, _⟩, _, rfl⟩ := e
  have hg := sub.sub b _ (Heap.one_same _ _)
  have hlt := lt_of_some hg
  have hng := sub.low b _ (Heap.one_same _ _)
  have hok : ∀ m (d' : Array α) os, d'.size = d.size → C.ok (sortWorldK Rec.cells (Rec.n α) w b 0 m d' os) := fun m d' os hd i hi => by
   rw [heap_sorted hg hd i (by omega), if_neg (by omega)]; exact sub.ok i hi
  refine ⟨hlt, hng, ?_, hok, fun m d' os hd => ?_⟩
  ·intro j hj
   rw [flatK_rc] at hj ⊢
   simp only [List.size_toArray] at hj
   constructor
   ·simp only [World.cell?, hg, Nat.zero_add]
    simp only [getElem!_def, List.getElem?_toArray]
    rw [List.getElem?_append_left hj, List.getElem?_eq_getElem hj]; rfl
   ·simp only [World.frozen?, hg, Nat.zero_add]
    simp only [Bool.and_eq_false_iff, decide_eq_false_iff_not]
    rw [List.length_append] at hf
    omega
  ·have hlen : (rc d'.toList).length = (rc d.toList).length := by rw [rc_size, rc_size, hd]
   refine ⟨Heap.one b (.cells (rc d'.toList ++ junk).toArray T fr), ⟨by rw [hlen]; exact hl, .inr ⟨b, cap, junk, rfl, hc, hm, by rw [List.length_append, hlen, ← List.length_append]; exact hl2, fr, by rw [List.length_append, hlen, ← List.length_append]; exact hf, rfl⟩⟩, ⟨rfl, rfl, rfl, Nat.le_add_right _ _, ?_, ?_, ?_, ?_, ?_, hok m d' os hd⟩⟩
   ·show w.heap.size ≤ (w.heap.modify b _ ++ os).size
    simp
   ·intro i hi h0
    rw [heap_sorted hg hd i hi, if_neg (fun e => by subst e; rw [Heap.one_same] at h0; cases h0)]
   ·intro i o ho
    obtain ⟨rfl, rfl⟩ := Heap.one_some ho
    rw [heap_sorted hg hd i hlt, if_pos rfl]
   ·intro i o ho
    obtain ⟨rfl, rfl⟩ := Heap.one_some ho
    exact hng
   ·intro i o ho hi
    obtain ⟨rfl, rfl⟩ := Heap.one_some ho
    rw [Heap.one_same]; simp
/-- What has grown by a call that keeps all there was. -/
theorem grown_of_move {W W' : World} {h : Heap} (m : Move C W Heap.none W' h) : ∃ q os, W' = grow (W.drewN q) os := by
 refine ⟨W'.drawn - W.drawn, W'.heap.extract W.heap.size W'.heap.size, ?_⟩
 have hh : W'.heap = W.heap ++ W'.heap.extract W.heap.size W'.heap.size := by
  refine Array.ext_getElem? fun i => ?_
  rcases Nat.lt_or_ge i W.heap.size with hi | hi
  ·rw [Array.getElem?_append_left hi]; exact m.keep i hi rfl
  ·rw [Array.getElem?_append_right hi, Array.getElem?_extract]
   split
   ·congr 1; omega
   ·rw [Array.getElem?_eq_none (by omega)]
 have hd := m.drawn
 obtain ⟨heap, tape, drawn, os, output⟩ := W'
 obtain ⟨heap0, tape0, drawn0, os0, output0⟩ := W
 have h1 : tape = tape0 := m.tape
 have h2 : os = os0 := m.os
 have h3 : output = output0 := m.output
 simp only at hd hh
 subst h1 h2 h3
 simp only [grow, World.drewN, World.mk.injEq, and_true, true_and]
 exact ⟨hh, by omega⟩
theorem cmpLays_of {g : Nat} {cf : α → α → Int} (hs : ∀ x y : α, SpecV C g [.agg (Rec.cells x).toArray, .agg (Rec.cells y).toArray] noPre (.int .i64 (cf x y))) {w : World} {b n : Nat}
  (hok : ∀ m (d' : Array α) os, d'.size = n → C.ok (sortWorldK Rec.cells (Rec.n α) w b 0 m d' os)) : CmpLays C.P g #[] Rec.cells (Rec.n α) cf b 0 n w := fun m os dk hdk x y => by
 have h1 := hs x y (sortWorldK Rec.cells (Rec.n α) w b 0 m dk os) Heap.none rfl ⟨(fun i o h => by cases h), (fun i o h => by cases h), hok m dk os hdk⟩ trivial
 refine h1.mono ?_
 rintro e w' ⟨v, rs, h', rfl, ⟨rfl, rfl⟩, _, mv⟩
 exact ⟨rfl, grown_of_move mv⟩
end
section
variable {α : Type} [Rec α] [Inhabited α] {C : Cx} {ρ : Ren} {g : Nat} {cf : α → α → Int}
/-- slices.SortFunc. -/
theorem sortFunc_of (L : SlLaysF0.n6 C.P ρ) (aE : ∀ w, (isAgg (ρ.t 24)).run C.P w = .ok true w) (zE : ∀ w, (Go.sizeOf (ρ.t 24)).run C.P w = .ok (Rec.n α) w) (hg : callable C.P g = true) (hO : SWO (ltOf cf))
  (hs : ∀ x y : α, SpecV C g [.agg (Rec.cells x).toArray, .agg (Rec.cells y).toArray] noPre (.int .i64 (cf x y))) (T : Nat) (base : Option Addr) (cap : Nat) (d : Array α) (hsz : d.size < 4611686018427387904) :
  Spec C (ρ.f 6) [.slice base d.size cap, .func (.func g) #[] #[]] (fun _ _ => True) [ownS T (Rec.n α) (.slice base d.size cap) d.size (rc d.toList)]
   (fun u rs => u = .tuple #[] ∧ ∃ d' : Array α, PermIn 0 d.size d d' ∧ SortedIn (ltOf cf) 0 d.size d' ∧ rs = [ownS T (Rec.n α) (.slice base d.size cap) d.size (rc d'.toList)]) := by
 intro w h hsep sub _
 rcases Nat.eq_zero_or_pos d.size with h0 | hpos
 ·have hc := AnyF.slices_SortFunc_none L base cap (.func (.func g) #[] #[]) w
  rw [h0] at hsep ⊢
  refine hc.mono ?_
  rintro e w' ⟨rfl, rfl⟩
  exact ⟨_, _, h, rfl, ⟨rfl, d, permIn_refl _ _ _, sorted_one (by omega), rfl⟩, hsep, Move.start sub⟩
 ·obtain hown := Sep.single.1 hsep
  obtain ⟨b, rfl⟩ : ∃ b, base = some ⟨b, 0, none⟩ := by
   rcases hown.2 with ⟨_, h0, _⟩ | ⟨b', cap', junk, e, _⟩
   ·omega
   ·simp only [Value.slice.injEq] at e; exact ⟨b', e.1⟩
  obtain ⟨hlt, hng, hH, hok, hmv⟩ := own_sorted hown hpos sub
  have hc := AnyQ.slices_SortFunc L (Rec.n α) aE zE Rec.cells Rec.len Rec.one cf hO g #[] b 0 cap d w (fun args w => run_call hg args w) (cmpLays_of hs hok) hH hlt hsz
  refine hc.mono ?_
  rintro e w' ⟨rfl, d', n, os, hp, hsd, rfl⟩
  obtain ⟨h', ho', hm'⟩ := hmv n d' os hp.1
  exact ⟨_, _, h', rfl, ⟨rfl, d', hp, hsd, rfl⟩, Sep.single.2 ho', hm'⟩
end
end Go.Proofs.YtcngmkjdpoiiaaaGreatDoor

/- The fourteenth part of the program logic: comparisons with nil, of structs, min and max, empty literals. -/
namespace Go.Proofs.YtcngmkjdpoiiaaaGreatDoor
open Go Go.RowKit
section
variable {P : Program} {w : World} {t : Nat}
theorem run_equalIn_slice (d : Nat) {e n c : Nat} {b : Option Addr} (h1 : P.underlying t = some (.slice e)) : (Op.equalIn (d + 1) t (.slice b n c) (.slice none 0 0)).run P w = .ok b.isNone w := by
 simp only [Op.equalIn, Sem.run_bind, run_underlying h1, Result.andThen_ok]
 cases b <;> simp
theorem run_equalIn_bool' (d : Nat) {a b : Bool} (ht : P.underlying t = some .bool) : (Op.equalIn (d + 1) t (.bool a) (.bool b)).run P w = .ok (a == b) w := by
 simp only [Op.equalIn, Sem.run_bind, run_underlying ht, Result.andThen_ok, Sem.run_pure]
end
section
variable {C : Cx} {F : Fx} {l : Env} {rs rs' : List HP} {K : Act → World → Prop} {o : Oper} {Q : Exit → Act → World → Prop} {d : Nat}
theorem P_eql_slice {t t' e sz by_ n c : Nat} {x y : Operand} {b : Option Addr} (ho : o.op = .binOp .eql t x y t') (ht : slB C.P t e sz by_ = true) (hx : ev l x = some (.slice b n c)) (hy : ev l y = some (.slice none 0 0)) : OpP C F l o (.bool b.isNone) := fun a w r => by
 have h1 := (slB_spec ht).1
 have : (Op.equal t (.slice b n c) (.slice none 0 0)).run C.P w = .ok b.isNone w := run_equalIn_slice 9999 h1
 simp [execOp, ho, r.ev hx, r.ev hy, binOp, eqGuard, this]
theorem P_neq_bool {t t' : Nat} {x y : Operand} {a b : Bool} (ho : o.op = .binOp .neq t x y t') (ht : C.P.underlying t = some .bool) (hx : ev l x = some (.bool a)) (hy : ev l y = some (.bool b)) : OpP C F l o (.bool (a != b)) := fun ac w r => by
 have : (Op.equal t (.bool a) (.bool b)).run C.P w = .ok (a == b) w := run_equalIn_bool' 9999 ht
 simp [execOp, ho, r.ev hx, r.ev hy, binOp, eqGuard, this, bne]
theorem P_min2 {ts : Array TypeId} {x y : Operand} {k k' : IntKind} {m n : Int} (ho : o.op = .call { callee := .builtin .min, args := #[x, y], argTypes := ts }) (hx : ev l x = some (.int k m)) (hy : ev l y = some (.int k' n)) : OpP C F l o (.int k (if n < m then n else m)) := fun a w r => by
 simp [execOp, ho, resolve, invoke, builtin, r.ev hx, r.ev hy, run_min_int2]
/-- A literal without elements. -/
theorem W_lit0 {t e sz by_ : Nat} (ho : o.op = .buildSlice t 0 #[]) (hd : o.dst = some d) (hn : Nat.blt d F.n = true) (ht : slB C.P t e sz by_ = true)
  (k : ∀ b, St C F ((d, .slice (some ⟨b, 0, none⟩) 0 0) :: l) (blk b [] e :: rs) K) : OpW C F l rs o K Q := fun a w r n => by
 obtain ⟨h1, ti, h2, h3, _⟩ := slB_spec ht
 unfold Oper.wp
 have : (execOp a.eval o).run C.P w = .ok (.value (.slice (some ⟨w.heap.size, 0, none⟩) 0 0)) (w.alloc (.cells #[] e)) := by
  simp [execOp, ho, Instr.buildSlice, run_underlying h1, sizeOf, typeInfo, h2, Instr.fill, newRow]
  congr 2
  apply Array.ext' 
  simp
 rw [this]
 show K (a.put o.dst _) _
 rw [hd]
 exact k _ _ _ (r.put hn _) (n.alloc [] e)
end
/-! ### Equality of structs of numbers, truth values and texts -/
/-- The type's cells are numbers or truth values, as the fields tell. -/
def seB (P : Program) (t n : Nat) : Bool := match P.underlying t with
 | some (.struct fs) => !P.stoodInHeld t && !P.eqGuardType P.depth t && (fs.toList.map (fun f => (f.offset, f.name != "_", scB P f.type && (match P.underlying f.type with | some (.int _) => true | _ => false))) == (List.range n).map fun i => (i, true, true))
 | _ => false
theorem run_eqFields_ints {P : Program} {w : World} (dp : Nat) : ∀ (fs : List Field) (o : Nat) (xs ys : List Value), xs.length = fs.length → ys.length = fs.length → (∀ (i : Nat) (x y : Value), xs[i]? = some x → ys[i]? = some y → ∃ k a b, x = .int k a ∧ y = .int k b) →
  (∀ (i : Nat) (f : Field), fs[i]? = some f → f.offset = o + i ∧ (f.name != "_") = true ∧ scB P f.type = true ∧ ∃ k, P.underlying f.type = some (.int k)) →
  ∀ (px py : List Value), px.length = o → py.length = o → (Op.eqFields (dp + 1) (px ++ xs).toArray (py ++ ys).toArray fs).run P w = .ok (@decide (xs = ys) (Classical.propDecidable _)) w
 | [], o, xs, ys, hx, hy, _, _, px, py, _, _ => by
  have : xs = [] := List.eq_nil_of_length_eq_zero hx
  have : ys = [] := List.eq_nil_of_length_eq_zero hy
  subst xs; subst ys
  simp [Op.eqFields]
 | f :: fs, o, x :: xs, y :: ys, hx, hy, hk, hf, px, py, hpx, hpy => by
  obtain ⟨h1, h2, h3, k, h4⟩ := hf 0 f rfl
  obtain ⟨k', a, b, rfl, rfl⟩ := hk 0 x y rfl rfl
  have hname : f.name ≠ "_" := by simpa using h2
  have e1 : (part f.type (px ++ Value.int k' a :: xs).toArray f.offset).run P w = .ok (.int k' a) w := by
   simp [part, run_isAgg_sc h3, h1, ← hpx]
  have e2 : (part f.type (py ++ Value.int k' b :: ys).toArray f.offset).run P w = .ok (.int k' b) w := by
   simp [part, run_isAgg_sc h3, h1, ← hpy]
  have e3 := run_equalIn_int (P := P) w dp f.type k' k a b h4
  unfold Op.eqFields
  rw [if_pos hname]
  simp only [Sem.run_bind, e1, e2, e3, Result.andThen_ok]
  by_cases hab : a = b
  ·subst hab
   have ih := run_eqFields_ints (P := P) (w := w) dp fs (o + 1) xs ys (by simpa using hx) (by simpa using hy) (fun i x y hx hy => hk (i + 1) x y hx hy) (fun i f hf' => by
    obtain ⟨g1, g2⟩ := hf (i + 1) f hf'
    exact ⟨by omega, g2⟩) (px ++ [.int k' a]) (py ++ [.int k' a]) (by simp [hpx]) (by simp [hpy])
   simp only [List.append_assoc, List.singleton_append] at ih
   simp only [beq_self_eq_true, Bool.not_true, Bool.false_eq_true, if_false, ih]
   congr 1
   by_cases hxy : xs = ys
   ·subst hxy; simp
   ·have : ¬ (Value.int k' a :: xs = Value.int k' a :: ys) := by simpa using hxy
    simp [hxy, this]
  ·have hb : (a == b) = false := by simpa using hab
   have : ¬ (Value.int k' a :: xs = Value.int k' b :: ys) := by simp [hab]
   simp [hb, this]
section
variable {C : Cx} {F : Fx} {l : Env} {rs rs' : List HP} {K : Act → World → Prop} {o : Oper} {Q : Exit → Act → World → Prop} {d : Nat}
theorem run_eqStruct {P : Program} {w : World} {t n : Nat} {xs ys : List Value} (ht : seB P t n = true) (hx : xs.length = n) (hy : ys.length = n) (hk : ∀ (i : Nat) (x y : Value), xs[i]? = some x → ys[i]? = some y → ∃ k a b, x = .int k a ∧ y = .int k b) :
  (Op.equalIn 10000 t (.agg xs.toArray) (.agg ys.toArray)).run P w = .ok (@decide (xs = ys) (Classical.propDecidable _)) w ∧ P.eqGuardType P.depth t = false := by
 unfold seB at ht
 split at ht
 ·rename_i fs hfs
  simp only [Bool.and_eq_true, Bool.not_eq_true'] at ht
  obtain ⟨⟨hp, hg⟩, hm⟩ := ht
  refine ⟨?_, hg⟩
  have hff : P.fieldsOf t = fs := by unfold Program.fieldsOf; rw [hfs]
  refine (run_equalIn_struct (P := P) w 9999 t xs.toArray ys.toArray (by rw [hff]; exact hfs) hp).trans ?_
  rw [hff]
  have hm2 := eq_of_beq hm
  have hlen : fs.toList.length = n := by have := congrArg List.length hm2; simpa using this
  refine run_eqFields_ints (P := P) (w := w) 9998 fs.toList 0 xs ys (by omega) (by omega) hk (fun i f hf => ?_) [] [] rfl rfl
  have h2 := congrArg (fun l => l[i]?) hm2
  simp only [List.getElem?_map, hf, Option.map_some] at h2
  have hi : i < n := by have := (List.getElem?_eq_some_iff.1 hf).1; omega
  rw [List.getElem?_range hi] at h2
  simp only [Option.map_some, Option.some.injEq, Prod.mk.injEq, Bool.and_eq_true] at h2
  obtain ⟨h3, h4, h5, h6⟩ := h2
  refine ⟨by omega, h4, h5, ?_⟩
  split at h6
  ·rename_i k hk'; exact ⟨k, hk'⟩
  ·cases h6
 ·cases ht
theorem P_neq_struct {t t' n : Nat} {x y : Operand} {xs ys : List Value} {b : Bool} (ho : o.op = .binOp .neq t x y t') (ht : seB C.P t n = true) (hx : ev l x = some (.agg xs.toArray)) (hy : ev l y = some (.agg ys.toArray)) (h1 : xs.length = n) (h2 : ys.length = n)
  (hk : ∀ (i : Nat) (x y : Value), xs[i]? = some x → ys[i]? = some y → ∃ k a b, x = .int k a ∧ y = .int k b) (hb : b = false ↔ xs = ys) : OpP C F l o (.bool b) := fun a w r => by
 obtain ⟨h3, hg⟩ := run_eqStruct (P := C.P) (w := w) ht h1 h2 hk
 have e : @decide (xs = ys) (Classical.propDecidable _) = !b := by
  by_cases h : xs = ys
  ·have := hb.2 h; rw [this]; simp [h]
  ·cases b with
   | false => exact absurd (hb.1 rfl) h
   | true => simp [h]
 rw [e] at h3
 simp only [execOp, ho, r.ev hx, r.ev hy, Sem.run_bind, run_eqGuard_agg w .neq t x y _ _ hg, Result.andThen_ok, run_neq_struct, h3, Sem.run_pure, Bool.not_not]
end
theorem ownS.to2 {T sz n n' : Nat} {v : Value} {cs cs' : List Value} {rs : List HP} (hn : n = n') (hc : cs = cs') : Weak (ownS T sz v n cs :: rs) [ownS T sz v n' cs'] := by subst hn; subst hc; exact Weak.keep (Weak.nil _)
theorem ownS.to1 {T sz n n' : Nat} {v : Value} {cs cs' : List Value} {rs : List HP} (hn : n = n') (hc : cs = cs') : Weak (ownS T sz v n cs :: rs) (ownS T sz v n' cs' :: rs) := by subst hn; subst hc; exact Weak.refl _
theorem Sn.rowAt0 {C : Cx} {F : Fx} {rs : List HP} {b j : Nat} {cs us : List Value} (s : Sn C F rs (some ⟨b, j, none⟩) cs) (hu : ∀ (i : Nat) (v : Value), us[i]? = some v → cs[i]? = some v) : ∀ w, Now C F rs w → RowAt w ⟨b, j, none⟩ us := fun w n i v hv => by
 obtain ⟨ad, e, hc⟩ := s.rw_ w n i v (hu i v hv)
 rw [Option.some.injEq] at e
 subst e; exact hc
end Go.Proofs.YtcngmkjdpoiiaaaGreatDoor

/- The fifteenth part of the program logic: locks (calls that run here and now and write one cell). -/
namespace Go.Proofs.YtcngmkjdpoiiaaaGreatDoor
open Go Go.RowKit
theorem put_setCell {w : World} {g j T : Nat} {cur : List Value} {fr : Nat × Nat} {v : Value} (hg : w.heap[g]? = some (.cells cur.toArray T fr)) : PutRel w g (.cells (cur.set j v).toArray T fr) (w.setCell ⟨g, j, none⟩ v) := by
 refine ⟨rfl, rfl, rfl, rfl, World.size_setCell _ _ _, ?_, fun i hi => heap_setCell_other _ _ _ _ hi⟩
 simp only [World.setCell]
 rw [Array.getElem?_modify, if_pos rfl, hg]
 simp
section
variable {C : Cx} {F : Fx} {l : Env} {rs rs' : List HP} {K : Act → World → Prop} {o : Oper} {Q : Exit → Act → World → Prop} {d : Nat}
/-- A call that writes one cell and answers v, here and now. -/
theorem W_extSet {xs : List Operand} {ts : Array TypeId} {f : FuncId} {vs : List Value} {v u x : Value} {b j T : Nat} {cs : List Value}
  (ho : o.op = .call { callee := .value (.func f), args := xs.toArray, argTypes := ts }) (hd : o.dst = some d) (hn : Nat.blt d F.n = true) (hx : evL l xs = some vs) (hj : cs[j]? = some x)
  (he : ∀ w : World, w.cell? ⟨b, j, none⟩ = some x → w.frozen? ⟨b, j, none⟩ = false → (callFunc f vs.toArray).run C.P w = .ok (.value v) (w.setCell ⟨b, j, none⟩ u))
  (m : Has rs (blk b cs T) (blk b (cs.set j u) T) rs') (k : St C F ((d, v) :: l) rs' K) : OpW C F l rs o K Q := fun a w r n => by
 have m0 : Has rs (blk b cs T) (blk b cs T) rs := by obtain ⟨p, q, e, _⟩ := m; exact ⟨p, q, e, e⟩
 obtain ⟨fr, hg, hf⟩ := n.getBlk m0
 have hlt := (List.getElem?_eq_some_iff.1 hj).1
 have hc : w.cell? ⟨b, j, none⟩ = some x := by simp [World.cell?, hg, hj]
 have hz : w.frozen? ⟨b, j, none⟩ = false := by
  simp only [World.frozen?, hg]
  simp only [Bool.and_eq_false_iff, decide_eq_false_iff_not]
  omega
 unfold Oper.wp
 have : (execOp a.eval o).run C.P w = .ok (.value v) (w.setCell ⟨b, j, none⟩ u) := by
  unfold execOp
  have hg2 : a.eval (.func f) = .func (.func f) #[] #[] := rfl
  simp only [ho, resolve, hg2, Deferred.ofValue, invoke, Sem.run_bind, Sem.run_pure, Result.andThen_ok, List.map_toArray, r.evL hx]
  simpa using he w hc hz
 rw [this]
 show K (a.put o.dst v) _
 rw [hd]
 refine k _ _ (r.put hn v) (n.put m (by simp) fun fr' hg' _ => ?_)
 rw [hg] at hg'
 injection hg' with hg'
 injection hg' with _ _ e
 exact e ▸ put_setCell hg
/-! ### Maps -/
/-- A map of the call's own. -/
def mapH (b : Nat) (es : Array MapEntry) (clock : Nat) : HP := fun h => h = Heap.one b (.map es clock)
theorem Now.getMap {b clock : Nat} {es : Array MapEntry} {w : World} (n : Now C F rs w) (m : Has rs (mapH b es clock) (mapH b es clock) rs) : w.heap[b]? = some (.map es clock) := by
 obtain ⟨a, rfl, h⟩ := n.has m
 exact (h b _ (Heap.one_same _ _)).1
/-- What a lookup yields. -/
def lookV (ok : Bool) (res : Option (Nat × Value)) (z : Value) : Value :=
 let v := match res with | some (_, v) => v | none => z
 if ok then .tuple #[v, .bool res.isSome] else v
theorem put_map {w : World} {b clock : Nat} {es : Array MapEntry} {x : Obj} (hb : w.heap[b]? = some (.map es clock)) : PutRel w b x { w with heap := w.heap.setIfInBounds b x } := by
 have hlt := (Array.getElem?_eq_some_iff.1 hb).1
 exact ⟨rfl, rfl, rfl, rfl, by simp, by simp [Array.getElem?_setIfInBounds, hlt], fun i hi => by simp [Array.getElem?_setIfInBounds, Ne.symm hi]⟩
theorem Now.allocMap {w : World} (n : Now C F rs w) : Now C F (mapH w.heap.size #[] 0 :: rs) (w.alloc (.map #[] 0)) := by
 have hng := n.ng
 obtain ⟨h, s, m⟩ := n
 obtain ⟨dj, m2⟩ := m.alloc hng (.map #[] 0)
 exact ⟨_, ⟨_, h, rfl, s, dj, rfl⟩, m2⟩
theorem W_makeMap {t : Nat} (ho : o.op = .makeMap t none) (hd : o.dst = some d) (hn : Nat.blt d F.n = true) (k : ∀ b, St C F ((d, .map (some b)) :: l) (mapH b #[] 0 :: rs) K) : OpW C F l rs o K Q := fun a w r n => by
 unfold Oper.wp
 have : (execOp a.eval o).run C.P w = .ok (.value (.map (some w.heap.size))) (w.alloc (.map #[] 0)) := by
  simp [execOp, ho, Instr.makeMap]
 rw [this]
 show K (a.put o.dst _) _
 rw [hd]
 exact k _ _ _ (r.put hn _) n.allocMap
end
end Go.Proofs.YtcngmkjdpoiiaaaGreatDoor

/- The sixteenth part of the program logic: deferred calls. -/
namespace Go.Proofs.YtcngmkjdpoiiaaaGreatDoor
open Go Go.RowKit
/-- A function, called when its caller leaves. -/
def SpecD (C : Cx) (f : FuncId) (args : List Value) (pre : World → Heap → Prop) (R0 RS : List HP) : Prop :=
 ∀ w h, Sep R0 h → Sub C w h → pre w h → ∀ u, CallsD C.P f args.toArray u w (fun e u' w' => u' = u ∧ ∃ v h', e = .returned v ∧ Sep RS h' ∧ Move C w h w' h')
theorem SpecD.enter {C : Cx} {f : FuncId} {fn : Func} {c : Code} {args : List Value} {pre : World → Heap → Prop} {R0 RS : List HP} {post : Value → List HP → Prop}
  (hpost : ∀ v rs, post v rs → rs = RS) (hf : C.P.funcs[f]? = some fn) (hb : fn.body = some c) (n : Nat) (hn : fn.ntmps = n) (hle : Nat.ble args.length n = true)
  (h : ∀ w k, Sep R0 k → Sub C w k → pre w k → St C ⟨n, [], w, k⟩ (envOf 0 args) R0 (c.wp C.P (bodyPost C.P fn fun e w' => ∃ v rs h', e = .returned v ∧ post v rs ∧ Sep rs h' ∧ Move C w k w' h'))) : SpecD C f args pre R0 RS := by
 intro w k hs hu hp u
 refine CallsD.mono (callsD_of_wp (u := u) hf hb (h w k hs hu hp _ w ⟨?_, rfl, ?_⟩ ⟨k, hs, Move.start hu⟩)) ?_
 ·have := Nat.le_of_ble_eq_true hle
  simp [hn]; omega
 ·intro t v ht
  obtain ⟨_, h2⟩ := envOf_get args 0 t v ht
  have hlt := (List.getElem?_eq_some_iff.1 h2).1
  simp only [Nat.sub_zero] at h2 hlt
  rw [Array.getElem?_append, if_pos (by simpa using hlt)]
  simpa using h2
 ·rintro e u' w' ⟨h1, v, rs, h', e1, e2, e3, e4⟩
  obtain rfl := hpost v rs e2
  exact ⟨h1, v, h', e1, e3, e4⟩
def dfr (f : FuncId) (vs : List Value) : Deferred := { target := .fn (.func f) #[], args := vs.toArray }
section
variable {C : Cx} {F : Fx} {l : Env} {rs rs' : List HP} {K : Act → World → Prop} {o : Oper} {Q : Exit → Act → World → Prop} {d : Nat}
theorem W_defer {xs : List Operand} {ts : Array TypeId} {f : FuncId} {vs : List Value} (ho : o.op = .defer { callee := .value (.func f), args := xs.toArray, argTypes := ts }) (hd : o.dst = none) (hx : evL l xs = some vs)
  (k : St C ⟨F.n, dfr f vs :: F.ds, F.w, F.h⟩ l rs K) : OpW C F l rs o K Q := fun a w r n => by
 unfold Oper.wp
 have : (execOp a.eval o).run C.P w = .ok (.defer (dfr f vs)) w := by
  unfold execOp
  have hg2 : a.eval (.func f) = .func (.func f) #[] #[] := rfl
  simp [ho, resolve, hg2, Deferred.ofValue, List.map_toArray, r.evL hx, dfr]
 rw [this]
 show K ({ a with defers := dfr f vs :: a.defers }.put o.dst undef) w
 rw [hd]
 exact k _ w ⟨r.size, by show dfr f vs :: a.defers = _; rw [r.defers], r.get⟩ n
/-- A function that defers calls. -/
theorem Spec.enterD {f : FuncId} {fn : Func} {c : Code} {args : List Value} {pre : World → Heap → Prop} {R0 : List HP} {post : Value → List HP → Prop}
  (hf : C.P.funcs[f]? = some fn) (hb : fn.body = some c) (n : Nat) (hn : fn.ntmps = n) (hle : Nat.ble args.length n = true)
  (h : ∀ w k, Sep R0 k → Sub C w k → pre w k → St C ⟨n, [], w, k⟩ (envOf 0 args) R0 (c.wp C.P (bodyPostD C.P fn fun e w' => ∃ v rs h', e = .returned v ∧ post v rs ∧ Sep rs h' ∧ Move C w k w' h'))) : Spec C f args pre R0 post := by
 intro w k hs hu hp
 refine calls_of_wp_defers hf hb (h w k hs hu hp _ w ⟨?_, rfl, ?_⟩ ⟨k, hs, Move.start hu⟩)
 ·have := Nat.le_of_ble_eq_true hle
  simp [hn]; omega
 ·intro t v ht
  obtain ⟨_, h2⟩ := envOf_get args 0 t v ht
  have hlt := (List.getElem?_eq_some_iff.1 h2).1
  simp only [Nat.sub_zero] at h2 hlt
  rw [Array.getElem?_append, if_pos (by simpa using hlt)]
  simpa using h2
/-- The end of such a body: one deferred call is run, then the results are read. -/
theorem R_endD {fn : Func} {xs : List ResultVar} {vs dvs : List Value} {f : FuncId} {pre : World → Heap → Prop} {R0 RS rest rs2 : List HP} {post : Value → List HP → Prop} (hds : F.ds = [dfr f dvs]) (hc : callable C.P f = true) (hs : SpecD C f dvs pre R0 RS) (sp : Split rs R0 rest)
  (hp : ∀ w a b, Sep R0 a → Sep rest b → a.Disj b → Move C F.w F.h w (a.join b) → pre w a) (hf : fn.results = xs.toArray) (h : ResV C F l (RS ++ rest) xs vs) (hpost : post (packV vs) rs2) (hw : Weak (RS ++ rest) rs2) :
  St C F l rs (bodyPostD C.P fn (fun e w' => ∃ v rs h', e = .returned v ∧ post v rs ∧ Sep rs h' ∧ Move C F.w F.h w' h') .ret) := fun a w r n => by
 show Leaves C.P fn a.tmps _ a.defers .returning w
 rw [r.defers.trans hds]
 obtain ⟨hh, s, m⟩ := n
 obtain ⟨h', s', le⟩ := sp hh s
 obtain ⟨c, d, hc', hd, dj, rfl⟩ := Sep.append.1 s'
 have m' := m.le le
 have hinv : (invoke (.fn (.func f) #[]) dvs.toArray).run C.P w = .ok (.enter f dvs.toArray) w := by
  simp only [invoke]
  rw [run_call hc]
  simp
 refine leaves_cons (by simp) hinv (CallsD.mono (hs w c hc' (m'.le (Heap.le_join_left _ _)).subOf (hp w c d hc' hd dj m') .returning) ?_)
 rintro e u' w' ⟨rfl, v, h2, rfl, hs2, mv⟩
 obtain ⟨dj2, mv2⟩ := m'.call dj mv
 show Leaves C.P fn a.tmps _ [] (settle .returning) w'
 refine ⟨_, h.results hf r ⟨_, Sep.append.2 ⟨h2, d, hs2, hd, dj2, rfl⟩, mv2⟩, ?_⟩
 obtain ⟨k', s3, le3⟩ := hw _ (Sep.append.2 ⟨h2, d, hs2, hd, dj2, rfl⟩)
 exact ⟨_, rs2, k', rfl, hpost, s3, mv2.le le3⟩
end
end Go.Proofs.YtcngmkjdpoiiaaaGreatDoor

/- The seventeenth part of the program logic: maps by their keys; bytes of a text; comparisons of maps with nil. -/
namespace Go.Proofs.YtcngmkjdpoiiaaaGreatDoor
open Go Go.RowKit
/-- Where a key stands, and what is held for it. -/
def findK {κ : Type} [DecidableEq κ] (k : κ) : List (κ × Value) → Nat → Option (Nat × Value)
 | [], _ => none
 | x :: L, i => if k = x.1 then some (i, x.2) else findK k L (i + 1)
/-- A value is held for a key. -/
def setK {κ : Type} [DecidableEq κ] (k : κ) (v : Value) (L : List (κ × Value)) : List (κ × Value) := match findK k L 0 with
 | some (i, _) => L.set i (k, v)
 | none => L ++ [(k, v)]
section
variable {κ : Type} [DecidableEq κ]
theorem findK_some {k : κ} : ∀ {L : List (κ × Value)} {i j : Nat} {v : Value}, findK k L i = some (j, v) → i ≤ j ∧ L[j - i]? = some (k, v) ∧ ∀ m, m < j - i → ∀ x, L[m]? = some x → x.1 ≠ k
 | [], _, _, _, h => by cases h
 | x :: L, i, j, v, h => by
  unfold findK at h
  split at h
  ·rename_i e
   simp only [Option.some.injEq, Prod.mk.injEq] at h
   obtain ⟨rfl, rfl⟩ := h
   refine ⟨Nat.le_refl _, by simp [e], fun m hm => by omega⟩
  ·rename_i e
   obtain ⟨h1, h2, h3⟩ := findK_some h
   refine ⟨by omega, ?_, ?_⟩
   ·rw [show j - i = (j - (i + 1)) + 1 by omega]; simpa using h2
   ·intro m hm y hy
    cases m with
    | zero => simp at hy; subst hy; exact fun e' => e e'.symm
    | succ m => exact h3 m (by omega) y (by simpa using hy)
theorem findK_none {k : κ} : ∀ {L : List (κ × Value)} {i : Nat}, findK k L i = none ↔ ∀ x ∈ L, x.1 ≠ k
 | [], _ => by simp [findK]
 | x :: L, i => by
  unfold findK
  split
  ·rename_i e; subst e; simp
  ·rename_i e
   rw [findK_none (L := L)]
   simp [Ne.symm e]
/-- How keys are compared. -/
structure KeyOK (P : Program) (kt : TypeId) (key : κ → Value) (ok : κ → Prop) : Prop where
 check : ∀ (e : Bool) (k : κ) (w : World), (Instr.checkKey e 10000 kt (key k)).run P w = .ok () w
 find : ∀ (k : κ) (L : List (κ × Value)) (es : List MapEntry), ok k → (∀ x ∈ L, ok x.1) → es.map (fun e => (e.key, e.val)) = L.map (fun x => (key x.1, x.2)) → ∀ w : World, (Instr.findKey kt (key k) es).run P w = .ok (findK k L 0) w
 same : ∀ k, Instr.sameBits 10000 (key k) (key k) = true
/-- Each entry has a birth of its own, below the clock. -/
def Born (es : Array MapEntry) (clock : Nat) : Prop := (∀ e ∈ es.toList, e.born < clock) ∧ (es.toList.map (·.born)).Nodup
theorem Born.push {es : Array MapEntry} {clock : Nat} (h : Born es clock) (k v : Value) : Born (es.push { key := k, val := v, born := clock }) (clock + 1) := by
 obtain ⟨h1, h2⟩ := h
 refine ⟨fun e he => ?_, ?_⟩
 ·rw [Array.toList_push, List.mem_append, List.mem_singleton] at he
  rcases he with he | rfl
  ·exact Nat.lt_succ_of_lt (h1 e he)
  ·exact Nat.lt_succ_self _
 ·rw [Array.toList_push, List.map_append, List.map_cons, List.map_nil]
  refine List.nodup_append.2 ⟨h2, by simp, fun a ha b hb => ?_⟩
  rw [List.mem_singleton] at hb
  obtain ⟨e, he, rfl⟩ := List.mem_map.1 ha
  have := h1 e he
  subst hb
  exact Nat.ne_of_lt this
theorem Born.modify {es : Array MapEntry} {clock : Nat} (h : Born es clock) (q : Nat) (k v : Value) : Born (es.modify q fun e => { e with key := k, val := v }) clock := by
 have e : (es.modify q fun e => { e with key := k, val := v }).toList.map (·.born) = es.toList.map (·.born) := by
  apply List.ext_getElem?
  intro i
  simp only [List.getElem?_map, Array.getElem?_toList, Array.getElem?_modify]
  split
  ·rw [Option.map_map]; rfl
  ·rfl
 obtain ⟨h1, h2⟩ := h
 refine ⟨fun x hx => ?_, by rw [e]; exact h2⟩
 have hm : x.born ∈ (es.modify q fun e => { e with key := k, val := v }).toList.map (·.born) := List.mem_map.2 ⟨x, hx, rfl⟩
 rw [e] at hm
 obtain ⟨y, hy, e2⟩ := List.mem_map.1 hm
 rw [← e2]; exact h1 y hy
/-- A map of the call's own. -/
def mapK (key : κ → Value) (b : Nat) (L : List (κ × Value)) : HP := fun h => ∃ es clock, es.toList.map (fun e => (e.key, e.val)) = L.map (fun x => (key x.1, x.2)) ∧ Born es clock ∧ mapH b es clock h
theorem mapK_new {key : κ → Value} {b : Nat} {rs : List HP} : Weak (mapH b #[] 0 :: rs) (mapK key b [] :: rs) := Weak.turn .h0 fun a h => ⟨_, _, rfl, ⟨fun e he => by simp at he, by simp⟩, h⟩
section
variable {C : Cx} {F : Fx} {l : Env} {rs rs' : List HP} {K : Act → World → Prop} {o : Oper} {Q : Exit → Act → World → Prop} {d : Nat} {key : κ → Value} {ok : κ → Prop} {b : Nat} {L L' : List (κ × Value)}
theorem Now.getMapK {w : World} (n : Now C F rs w) (m : Has rs (mapK key b L) (mapK key b L) rs) : ∃ es clock, es.toList.map (fun e => (e.key, e.val)) = L.map (fun x => (key x.1, x.2)) ∧ w.heap[b]? = some (.map es clock) := by
 obtain ⟨a, ⟨es, clock, e, _, rfl⟩, h⟩ := n.has m
 exact ⟨es, clock, e, (h b _ (Heap.one_same _ _)).1⟩
theorem Now.putMapK {w w' : World} (n : Now C F rs w) (m : Has rs (mapK key b L) (mapK key b L') rs')
  (h : ∀ es clock, es.toList.map (fun e => (e.key, e.val)) = L.map (fun x => (key x.1, x.2)) → Born es clock → w.heap[b]? = some (.map es clock) → ∃ es' clock', es'.toList.map (fun e => (e.key, e.val)) = L'.map (fun x => (key x.1, x.2)) ∧ Born es' clock' ∧ PutRel w b (.map es' clock') w') : Now C F rs' w' := by
 obtain ⟨k, s, mv⟩ := n
 obtain ⟨a, c, ⟨es, clock, e, eb, rfl⟩, dj, rfl, back⟩ := Sep.take m s
 have hb := mv.sub b _ (Heap.le_join_left _ _ b _ (Heap.one_same _ _))
 obtain ⟨es', clock', e', eb', p⟩ := h es clock e eb hb
 obtain ⟨dj2, mv2⟩ := mv.put dj p.os p.tape p.output p.drawn p.size p.at_ p.other
 exact ⟨_, back _ ⟨es', clock', e', eb', rfl⟩ dj2, mv2⟩
theorem V_lookupK {t kt e : Nat} {x ix : Operand} {okc : Bool} {k : κ} {zv : Value} (ho : o.op = .lookup t x ix okc) (ht : C.P.underlying t = some (.map kt e)) (hk : KeyOK C.P kt key ok) (hx : ev l x = some (.map (some b))) (hi : ev l ix = some (key k)) (h1 : ok k) (h2 : ∀ x ∈ L, ok x.1)
  (m : Has rs (mapK key b L) (mapK key b L) rs) (hz : ∀ w : World, (zeroValue e).run C.P w = .ok zv w) : OpV C F l rs o (lookV okc (findK k L 0) zv) := fun a w r n => by
 obtain ⟨es, clock, he, hb⟩ := n.getMapK m
 have hf := hk.find k L es.toList h1 h2 he w
 have hc := hk.check es.isEmpty k w
 cases hr : findK k L 0 with
 | none => rw [hr] at hf; cases okc <;> simp [execOp, ho, r.ev hx, r.ev hi, Instr.lookup, run_underlying ht, MapKept.run_getObj_map hb, hc, hf, hz, lookV, Result.andThen]
 | some p => rw [hr] at hf; obtain ⟨q, v⟩ := p; cases okc <;> simp [execOp, ho, r.ev hx, r.ev hi, Instr.lookup, run_underlying ht, MapKept.run_getObj_map hb, hc, hf, hz, lookV, Result.andThen]
theorem V_lenMapK {t kt e : Nat} {x : Operand} (ho : o.op = .call { callee := .builtin .len, args := #[x], argTypes := #[t] }) (ht : C.P.underlying t = some (.map kt e)) (hx : ev l x = some (.map (some b)))
  (m : Has rs (mapK key b L) (mapK key b L) rs) : OpV C F l rs o (.int .i64 (L.length : Int)) := fun a w r n => by
 obtain ⟨es, clock, he, hb⟩ := n.getMapK m
 have hl : es.size = L.length := by have := congrArg List.length he; simpa using this
 simp [execOp, ho, resolve, invoke, builtin, r.ev hx, Builtin.len_, run_underlying ht, MapKept.run_getObj_map hb, goInt, Result.andThen, hl]
theorem run_keyThatStays {P : Program} {w : World} {x : Value} (h : Instr.sameBits 10000 x x = true) : (Instr.keyThatStays x x).run P w = .ok x w := by
 unfold Instr.keyThatStays
 rw [if_pos h]
 rfl
/-- A value is held for a key, new or not. -/
theorem W_mapSet {t kt e : Nat} {x ix y : Operand} {k : κ} {v : Value} (ho : o.op = .mapUpdate t x ix y) (hd : o.dst = none) (ht : C.P.underlying t = some (.map kt e)) (hk : KeyOK C.P kt key ok) (hx : ev l x = some (.map (some b))) (hi : ev l ix = some (key k)) (hy : ev l y = some v) (h1 : ok k) (h2 : ∀ x ∈ L, ok x.1)
  (m0 : Has rs (mapK key b L) (mapK key b L) rs) (m : Has rs (mapK key b L) (mapK key b (setK k v L)) rs') (kk : St C F l rs' K) : OpW C F l rs o K Q := fun a w r n => by
 obtain ⟨es, clock, he, hb⟩ := n.getMapK m0
 have hf := hk.find k L es.toList h1 h2 he w
 have hc := hk.check false k w
 unfold Oper.wp
 cases hr : findK k L 0 with
 | none =>
  rw [hr] at hf
  have : (execOp a.eval o).run C.P w = .ok .skip { w with heap := w.heap.setIfInBounds b (.map (es.push { key := key k, val := v, born := clock }) (clock + 1)) } := by
   simp [execOp, ho, r.ev hx, r.ev hi, r.ev hy, Instr.mapUpdate, run_underlying ht, MapKept.run_getObj_map hb, hc, hf, MapKept.run_setObj_map _ hb, Result.andThen]
  rw [this]
  show K (a.put o.dst undef) _
  rw [hd]
  refine kk a _ r (n.putMapK m fun es2 clock2 he2 hbo hb2 => ?_)
  rw [hb] at hb2
  simp only [Option.some.injEq, Obj.map.injEq] at hb2
  obtain ⟨rfl, rfl⟩ := hb2
  refine ⟨_, _, ?_, hbo.push _ _, put_map hb⟩
  unfold setK
  rw [hr]
  simp [he]
 | some p =>
  obtain ⟨q, u⟩ := p
  rw [hr] at hf
  obtain ⟨_, hq, _⟩ := findK_some hr
  rw [Nat.sub_zero] at hq
  have hql := (List.getElem?_eq_some_iff.1 hq).1
  have hlen : es.size = L.length := by have := congrArg List.length he; simpa using this
  have heq : (es.toList[q]?).map (fun e => (e.key, e.val)) = some (key k, u) := by
   have := congrArg (fun l => l[q]?) he
   simp only [List.getElem?_map, hq, Option.map_some] at this
   exact this
  have hkey : ((es[q]?).map (·.key)).getD (key k) = key k := by
   rw [← Array.getElem?_toList]
   cases hh : es.toList[q]? with
   | none => rw [hh] at heq; cases heq
   | some en => rw [hh] at heq; simp only [Option.map_some, Option.some.injEq, Prod.mk.injEq] at heq; simp [heq.1]
  have hst := run_keyThatStays (P := C.P) (w := w) (hk.same k)
  have : (execOp a.eval o).run C.P w = .ok .skip { w with heap := w.heap.setIfInBounds b (.map (es.modify q fun e => { e with key := key k, val := v }) clock) } := by
   simp [execOp, ho, r.ev hx, r.ev hi, r.ev hy, Instr.mapUpdate, run_underlying ht, MapKept.run_getObj_map hb, hc, hf, hkey, hst, MapKept.run_setObj_map _ hb, Result.andThen]
  rw [this]
  show K (a.put o.dst undef) _
  rw [hd]
  refine kk a _ r (n.putMapK m fun es2 clock2 he2 hbo hb2 => ?_)
  rw [hb] at hb2
  simp only [Option.some.injEq, Obj.map.injEq] at hb2
  obtain ⟨rfl, rfl⟩ := hb2
  refine ⟨_, _, ?_, hbo.modify _ _ _, put_map hb⟩
  unfold setK
  rw [hr]
  apply List.ext_getElem?
  intro i
  have hi := congrArg (fun l => l[i]?) he
  simp only [List.getElem?_map] at hi
  simp only [List.getElem?_map, Array.getElem?_toList, Array.getElem?_modify, List.getElem?_set]
  by_cases hqi : q = i
  ·subst hqi
   simp only [if_true, hql]
   have : q < es.size := by omega
   simp [this]
  ·rw [if_neg hqi, if_neg hqi]
   rw [← Array.getElem?_toList]
   exact hi
theorem W_makeMapK {t : Nat} (key : κ → Value) (ho : o.op = .makeMap t none) (hd : o.dst = some d) (hn : Nat.blt d F.n = true) (k : ∀ b, St C F ((d, .map (some b)) :: l) (mapK key b [] :: rs) K) : OpW C F l rs o K Q :=
 W_makeMap ho hd hn fun b => St.res mapK_new (k b)
/-- A map against nil. -/
theorem P_eqlMap {t t' kt e : Nat} {x y : Operand} {p : Option Nat} (ho : o.op = .binOp .eql t x y t') (ht : C.P.underlying t = some (.map kt e)) (hx : ev l x = some (.map p)) (hy : ev l y = some (.map none)) : OpP C F l o (.bool p.isNone) := fun a w r => by
 have : (Op.equal t (.map p) (.map none)).run C.P w = .ok p.isNone w := by
  have : ∀ n, (Op.equalIn (n + 1) t (.map p) (.map none)).run C.P w = .ok p.isNone w := fun n => by
   simp only [Op.equalIn, Sem.run_bind, run_underlying ht, Result.andThen_ok]
   cases p <;> simp
  exact this 9999
 simp [execOp, ho, r.ev hx, r.ev hy, binOp, eqGuard, this]
end
end
theorem keyU64 {P : Program} {kt : TypeId} (h : P.underlying kt = some (.int .u64)) : KeyOK P kt (fun k : Int => .int .u64 k) (fun _ => True) where
  check e k w := by
    have : ∀ n, (Instr.checkKey e (n + 1) kt (.int .u64 k)).run P w = .ok () w := fun n => by simp [Instr.checkKey, run_underlying h]
    exact this 9999
  find k L es _ _ he w := by
    have key : ∀ (L : List (Int × Value)) (es : List MapEntry) (i : Nat), es.map (fun e => (e.key, e.val)) = L.map (fun x => (Value.int .u64 x.1, x.2)) → Instr.findNow (.int .u64) (.int .u64 k) es i = some (findK k L i) := by
      intro L
      induction L with
      | nil => intro es i he; have : es = [] := by simpa using he
               subst this; rfl
      | cons x L ih =>
        intro es i he
        cases es with
        | nil => simp at he
        | cons e es =>
          simp only [List.map_cons, List.cons.injEq, Prod.mk.injEq] at he
          obtain ⟨⟨h1, h2⟩, h3⟩ := he
          by_cases hk : k = x.1
          · have hs : Instr.sameNow (.int .u64) (.int .u64 k) e.key = some true := by rw [h1]; simp [Instr.sameNow, hk]
            unfold findK
            rw [if_pos hk]
            simp [Instr.findNow, hs, h2]
          · have hs : Instr.sameNow (.int .u64) (.int .u64 k) e.key = some false := by rw [h1]; simp [Instr.sameNow, hk]
            unfold findK
            rw [if_neg hk]
            simp [Instr.findNow, hs, ih es (i + 1) h3]
    unfold Instr.findKey
    simp only [Sem.run_bind, run_underlying h, Result.andThen_ok, key L es 0 he, Sem.run_pure]
  same k := by
    have : ∀ n, Instr.sameBits n (.int .u64 k) (.int .u64 k) = true := fun n => by cases n <;> simp [Instr.sameBits]
    exact this 10000
/-- A record of a number and a text. -/
def recB (P : Program) (t : Nat) : Bool := match P.underlying t with
 | some (.struct fs) => !P.stoodInHeld t && (match fs.toList with
  | [f, g] => f.offset == 0 && g.offset == 1 && f.name != "_" && g.name != "_" && scB P f.type && scB P g.type && (match P.underlying f.type with | some (.int .u64) => true | _ => false) && (match P.underlying g.type with | some .string => true | _ => false)
  | _ => false)
 | _ => false
theorem recB_spec {P : Program} {t : Nat} (h : recB P t = true) : ∃ f g : Field, P.underlying t = some (.struct #[f, g]) ∧ P.stoodInHeld t = false ∧ f.offset = 0 ∧ g.offset = 1 ∧ f.name ≠ "_" ∧ g.name ≠ "_" ∧ scB P f.type = true ∧ scB P g.type = true ∧ P.underlying f.type = some (.int .u64) ∧ P.underlying g.type = some .string := by
 unfold recB at h
 split at h
 ·rename_i fs hfs
  obtain ⟨fs⟩ := fs
  simp only [Bool.and_eq_true, Bool.not_eq_true'] at h
  obtain ⟨h0, h⟩ := h
  split at h
  ·rename_i f g
   simp only [Bool.and_eq_true, beq_iff_eq, bne_iff_ne] at h
   obtain ⟨⟨⟨⟨⟨⟨⟨h1, h2⟩, h3⟩, h4⟩, h5⟩, h6⟩, h7⟩, h8⟩ := h
   refine ⟨f, g, hfs, h0, h1, h2, h3, h4, h5, h6, ?_, ?_⟩
   ·split at h7
    ·assumption
    ·cases h7
   ·split at h8
    ·assumption
    ·cases h8
  ·cases h
 ·cases h
/-- The key of an address and a message. -/
def recK (x : Int × List Int) : Value := .agg #[.int .u64 x.1, .string (strOfNums x.2)]
theorem run_equal_rec {P : Program} {t : Nat} (h : recB P t = true) {x y : Int × List Int} (hx : IsB x.2) (hy : IsB y.2) (w : World) : (Op.equal t (recK x) (recK y)).run P w = .ok (decide (x = y)) w := by
 obtain ⟨f, g, h1, h2, h3, h4, h5, h6, h7, h8, h9, h10⟩ := recB_spec h
 have hff : P.fieldsOf t = #[f, g] := by unfold Program.fieldsOf; rw [h1]
 have e1 : ∀ (a : Int) (s : ByteArray), (part f.type #[.int .u64 a, .string s] f.offset).run P w = .ok (.int .u64 a) w := fun a s => by simp [part, run_isAgg_sc h7, h3]
 have e2 : ∀ (a : Int) (s : ByteArray), (part g.type #[.int .u64 a, .string s] g.offset).run P w = .ok (.string s) w := fun a s => by simp [part, run_isAgg_sc h8, h4]
 have e3 : ∀ n, (Op.equalIn (n + 1) f.type (.int .u64 x.1) (.int .u64 y.1)).run P w = .ok (x.1 == y.1) w := fun n => run_equalIn_int (P := P) w n f.type .u64 .u64 x.1 y.1 h9
 have e4 : ∀ n, (Op.equalIn (n + 1) g.type (.string (strOfNums x.2)) (.string (strOfNums y.2))).run P w = .ok (decide (x.2 = y.2)) w := fun n => by
  have e5 : ((strOfNums x.2).toList == (strOfNums y.2).toList) = decide (x.2 = y.2) := by
   by_cases h : x.2 = y.2
   ·rw [h]; simp
   ·have := mt (strOfNums_inj hx hy).1 h; simp [h, this]
  rw [← e5]; exact run_equalIn_string (P := P) w n g.type _ _ h10
 have main : ∀ n, (Op.eqFields (n + 1) #[.int .u64 x.1, .string (strOfNums x.2)] #[.int .u64 y.1, .string (strOfNums y.2)] [f, g]).run P w = .ok (decide (x = y)) w := fun n => by
  unfold Op.eqFields
  rw [if_pos h5]
  simp only [Sem.run_bind, e1, e3, Result.andThen_ok]
  by_cases ha : x.1 = y.1
  ·have hb1 : (x.1 == y.1) = true := by simpa using ha
   simp only [hb1, Bool.not_true, Bool.false_eq_true, if_false]
   unfold Op.eqFields
   rw [if_pos h6]
   simp only [Sem.run_bind, e2, e4, Result.andThen_ok]
   by_cases hb : x.2 = y.2
   ·have h11 : x = y := Prod.ext ha hb
    simp [hb, h11, Op.eqFields]
   ·have h11 : ¬ x = y := fun h => hb (by rw [h])
    simp [hb, h11]
  ·have h11 : ¬ x = y := fun h => ha (by rw [h])
   have hb : (x.1 == y.1) = false := by simpa using ha
   simp [hb, h11]
 refine (run_equalIn_struct (P := P) w 9999 t _ _ (by rw [hff]; exact h1) h2).trans ?_
 rw [hff]
 exact main 9998
theorem keyRec {P : Program} {kt : TypeId} (h : recB P kt = true) : KeyOK P kt recK (fun x => IsB x.2) where
  check e k w := by
    obtain ⟨f, g, h1, h2, h3, h4, h5, h6, h7, h8, h9, h10⟩ := recB_spec h
    have e1 : (part f.type #[.int .u64 k.1, .string (strOfNums k.2)] f.offset).run P w = .ok (.int .u64 k.1) w := by simp [part, run_isAgg_sc h7, h3]
    have e2 : (part g.type #[.int .u64 k.1, .string (strOfNums k.2)] g.offset).run P w = .ok (.string (strOfNums k.2)) w := by simp [part, run_isAgg_sc h8, h4]
    have c1 : ∀ n, (Instr.checkKey e (n + 1) f.type (.int .u64 k.1)).run P w = .ok () w := fun n => by simp [Instr.checkKey, run_underlying h9]
    have c2 : ∀ n, (Instr.checkKey e (n + 1) g.type (.string (strOfNums k.2))).run P w = .ok () w := fun n => by simp [Instr.checkKey, run_underlying h10]
    have c3 : ∀ n, (Instr.checkKey e (n + 1 + 1) kt (recK k)).run P w = .ok () w := fun n => by
      unfold recK
      rw [Instr.checkKey]
      simp only [Sem.run_bind, run_underlying h1, Result.andThen_ok]
      simp only [← Array.forIn_toList, List.forIn_cons, List.forIn_nil]
      simp [h5, h6, e1, e2, c1, c2]
    exact c3 9998
  find k L es hk hL he w := by
    obtain ⟨f, g, h1, _⟩ := recB_spec h
    have ask : ∀ (L : List ((Int × List Int) × Value)) (es : List MapEntry) (i : Nat), (∀ x ∈ L, IsB x.1.2) → es.map (fun e => (e.key, e.val)) = L.map (fun x => (recK x.1, x.2)) → (Instr.findAsking kt (recK k) es i).run P w = .ok (findK k L i) w := by
      intro L
      induction L with
      | nil => intro es i _ he; have : es = [] := by simpa using he
               subst this; rfl
      | cons x L ih =>
        intro es i hL he
        cases es with
        | nil => simp at he
        | cons e es =>
          simp only [List.map_cons, List.cons.injEq, Prod.mk.injEq] at he
          obtain ⟨⟨h2, h3⟩, h4⟩ := he
          have hq := run_equal_rec h hk (hL x (by simp)) w
          unfold Instr.findAsking findK
          simp only [Sem.run_bind, h2, hq, Result.andThen_ok]
          by_cases hk' : k = x.1
          · simp [hk', h3]
          · simp [hk', ih es (i + 1) (fun y hy => hL y (by simp [hy])) h4]
    unfold Instr.findKey
    simp only [Sem.run_bind, run_underlying h1, Result.andThen_ok]
    cases L with
    | nil =>
      have : es = [] := by simpa using he
      subst this; rfl
    | cons x L =>
      cases es with
      | nil => simp at he
      | cons e es =>
        have hk0 : e.key = recK x.1 := by simp only [List.map_cons, List.cons.injEq, Prod.mk.injEq] at he; exact he.1.1
        have : Instr.findNow (.struct #[f, g]) (recK k) (e :: es) 0 = none := by simp [Instr.findNow, Instr.sameNow]
        rw [this]
        exact ask _ _ 0 hL he
  same k := by
    have s1 : ∀ n, Instr.sameBits n (.int .u64 k.1) (.int .u64 k.1) = true := fun n => by cases n <;> simp [Instr.sameBits]
    have s2 : ∀ n, Instr.sameBits n (.string (strOfNums k.2)) (.string (strOfNums k.2)) = true := fun n => by cases n <;> simp [Instr.sameBits, beq_toListBytes]
    have s3 : ∀ n, Instr.sameBits (n + 1) (recK k) (recK k) = true := fun n => by
      unfold recK
      rw [Instr.sameBits]
      simp [s1, s2]
    exact s3 9999
section
variable {C : Cx} {F : Fx} {l : Env} {rs rs' : List HP} {K : Act → World → Prop} {o : Oper} {Q : Exit → Act → World → Prop} {d : Nat}
theorem ints_strOfNums {xs : List Int} (hb : IsB xs) : (strOfNums xs).data.toList.map (fun b => Value.int .u8 (b.toNat : Int)) = ints .u8 xs := by
 rw [strOfNums_data, List.map_map]
 unfold ints
 refine List.map_congr_left fun x hx => ?_
 have := hb x hx
 simp only [Function.comp_apply, UInt8.toNat_ofNat']
 congr 1
 omega
end
end Go.Proofs.YtcngmkjdpoiiaaaGreatDoor

/- The eighteenth part of the program logic: bodies that defer calls, with regions of open order; bundles of resources. -/
namespace Go.Proofs.YtcngmkjdpoiiaaaGreatDoor
open Go Go.RowKit
/-- What is asked of a body that defers calls: it returns, and then its deferred calls are run. -/
def bodyPostX (P : Program) (fn : Func) (R : Ending → World → Prop) : Exit → Act → World → Prop
 | .normal, a, w | .ret, a, w => Leaves P fn a.tmps R a.defers .returning w
 | _, _, _ => False
theorem QOk.bodyX {P : Program} {fn : Func} {R : Ending → World → Prop} : QOk (bodyPostX P fn R) := fun d v c a w h => h
section
variable {C : Cx} {F : Fx} {l : Env} {rs rs' : List HP} {K : Act → World → Prop} {o : Oper} {Q : Exit → Act → World → Prop} {d : Nat}
theorem Spec.enterX {f : FuncId} {fn : Func} {c : Code} {args : List Value} {pre : World → Heap → Prop} {R0 : List HP} {post : Value → List HP → Prop}
  (hf : C.P.funcs[f]? = some fn) (hb : fn.body = some c) (n : Nat) (hn : fn.ntmps = n) (hle : Nat.ble args.length n = true)
  (h : ∀ w k, Sep R0 k → Sub C w k → pre w k → St C ⟨n, [], w, k⟩ (envOf 0 args) R0 (c.wp C.P (bodyPostX C.P fn fun e w' => ∃ v rs h', e = .returned v ∧ post v rs ∧ Sep rs h' ∧ Move C w k w' h'))) : Spec C f args pre R0 post :=
 Spec.enterD hf hb n hn hle fun w k hs hu hp => (h w k hs hu hp).mono fun a w' hw => wp_mono hw fun e a' w'' q => by
  cases e <;> first | exact q | exact q.elim
/-- The end of such a body where nothing is deferred yet. -/
theorem R_endN {fn : Func} {xs : List ResultVar} {vs : List Value} {post : Value → List HP → Prop} {rs2 : List HP} (hds : F.ds = []) (hf : fn.results = xs.toArray) (h : ResV C F l rs xs vs) (hp : post (packV vs) rs2) (hw : Weak rs rs2) :
  St C F l rs (bodyPostX C.P fn (fun e w' => ∃ v rs h', e = .returned v ∧ post v rs ∧ Sep rs h' ∧ Move C F.w F.h w' h') .ret) := fun a w r n => by
 show Leaves C.P fn a.tmps _ a.defers .returning w
 rw [r.defers.trans hds]
 refine ⟨_, h.results hf r n, ?_⟩
 obtain ⟨k, s, m⟩ := n
 obtain ⟨k', s', le⟩ := hw k s
 exact ⟨_, rs2, k', rfl, hp, s', m.le le⟩
/-- .. and where one call is deferred: it is run, then the results are read. -/
theorem R_endX {fn : Func} {xs : List ResultVar} {vs dvs : List Value} {f : FuncId} {pre : World → Heap → Prop} {R0 RS rest rs2 : List HP} {post : Value → List HP → Prop} (hds : F.ds = [dfr f dvs]) (hc : callable C.P f = true) (hs : SpecD C f dvs pre R0 RS) (sp : Split rs R0 rest)
  (hp : ∀ w a b, Sep R0 a → Sep rest b → a.Disj b → Move C F.w F.h w (a.join b) → pre w a) (hf : fn.results = xs.toArray) (h : ResV C F l (RS ++ rest) xs vs) (hpost : post (packV vs) rs2) (hw : Weak (RS ++ rest) rs2) :
  St C F l rs (bodyPostX C.P fn (fun e w' => ∃ v rs h', e = .returned v ∧ post v rs ∧ Sep rs h' ∧ Move C F.w F.h w' h') .ret) := R_endD (fn := fn) (post := post) hds hc hs sp hp hf h hpost hw
end
theorem run_zeroValue_of {P : Program} {t : Nat} {v : Value} (h : (P.info? t).bind (·.zero) = some v) (w : World) : (zeroValue t).run P w = .ok v w := by
 obtain ⟨i, hi, hz⟩ := Option.bind_eq_some_iff.1 h
 simp [zeroValue, typeInfo, hi, hz]
section
variable {C : Cx} {F : Fx} {l : Env} {rs : List HP} {o : Oper}
theorem P_ext {xs : List Operand} {ts : Array TypeId} {f : FuncId} {vs : List Value} {v : Value} (ho : o.op = .call { callee := .value (.func f), args := xs.toArray, argTypes := ts }) (hx : evL l xs = some vs) (he : ∀ w, (callFunc f vs.toArray).run C.P w = .ok (.value v) w) : OpP C F l o v := fun a w r => by
 unfold execOp
 have hg : a.eval (.func f) = .func (.func f) #[] #[] := rfl
 simp only [ho, resolve, hg, Deferred.ofValue, invoke, Sem.run_bind, Sem.run_pure, Result.andThen_ok, List.map_toArray, r.evL hx]
 simpa using he w
/-- unsafe.Pointer(p). -/
theorem V_toUnsafe {src dst t b j T : Nat} {x : Operand} {cs : List Value} {v : Value} (ho : o.op = .convert src dst x) (hs : C.P.underlying src = some (.pointer t)) (hd : C.P.underlying dst = some .unsafePointer) (hsz : (C.P.info? t).map (fun i => decide (i.size = 0)) = some false) (hx : ev l x = some (.pointer (some ⟨b, j, none⟩)))
  (m : Has rs (blk b cs T) (blk b cs T) rs) (hj : cs[j]? = some v) : OpV C F l rs o (.pointer (some ⟨b, j, none⟩)) := fun a w r n => by
 obtain ⟨fr, hg, hf⟩ := n.getBlk m
 have hc : w.cell? ⟨b, j, none⟩ = some v := by simp [World.cell?, hg, hj]
 have := run_convert_to_unsafe (P := C.P) hs hd hsz hc
 simp [execOp, ho, r.ev hx, this]
end
section
variable {C : Cx} {F : Fx} {l : Env} {rs rs' : List HP} {K : Act → World → Prop} {o : Oper} {Q : Exit → Act → World → Prop} {d : Nat}
/-- make([]T, 0, n). -/
theorem W_make0 {t e sz bytes n : Nat} {x y : Operand} {k1 k2 : IntKind} {z : List Value} (ho : o.op = .makeSlice t x y) (hd : o.dst = some d) (hn : Nat.blt d F.n = true) (ht : slB C.P t e sz bytes = true) (hz : zeB C.P e z) (hx : ev l x = some (.int k1 0)) (hy : ev l y = some (.int k2 (n : Int)))
  (hb : bytes * n ≤ 281474976710656) (hm : n ≤ maxLen) (k : ∀ v, St C F ((d, v) :: l) (ownS e sz v 0 [] :: rs) K) : OpW C F l rs o K Q := fun a w r nw => by
 obtain ⟨h1, ti, h2, h3, h3b⟩ := slB_spec ht
 unfold zeB at hz
 obtain ⟨zv, hz1, hz2⟩ := Option.map_eq_some_iff.1 hz
 obtain ⟨i, hi1, hiz⟩ := Option.bind_eq_some_iff.1 hz1
 rw [h2, Option.some.injEq] at hi1
 subst hi1
 have hzc : zv.cells = z.toArray := by rw [← hz2]
 have hb' : (ti.bytes : Int) * (n : Int) ≤ 281474976710656 := by
  have h : ((ti.bytes * n : Nat) : Int) ≤ 281474976710656 := by rw [h3b]; omega
  rwa [Int.natCast_mul] at h
 have hm' : n ≤ 9223372036854775807 := by simp only [maxLen] at hm; omega
 have hr := run_make (P := C.P) w t e ti zv h1 h2 hiz k1 k2 0 (n : Int) (by omega) (by omega) hb' (by omega)
 simp only [Int.toNat_natCast, h3, hzc] at hr
 unfold Oper.wp
 have : (execOp a.eval o).run C.P w = .ok (.value (.slice (some ⟨w.heap.size, 0, none⟩) 0 n)) (w.alloc (.cells (madeCells z.toArray (n * sz)) e)) := by
  simp only [execOp, ho, r.ev hx, r.ev hy, Sem.run_bind, hr, Result.andThen_ok, Sem.run_pure]
  rfl
 rw [this]
 show K (a.put o.dst _) _
 rw [hd]
 have h5 := nw.alloc (madeL z (n * sz)) e
 refine k _ _ _ (r.put hn _) (h5.weak (Weak.turn .h0 fun hh hb => ⟨by simp, .inr ⟨_, n, madeL z (n * sz), rfl, Nat.zero_le _, hm, (by rw [List.nil_append, madeL_length]; exact Nat.le_refl _), hb⟩⟩))
end
/-- Separate resources as one. -/
def bundle (L : List HP) : HP := fun h => Sep L h
theorem Weak.unbundle {L rs : List HP} : Weak (bundle L :: rs) (L ++ rs) := fun h ⟨a, b, ha, hb, d, e⟩ => ⟨h, Sep.append.2 ⟨a, b, ha, hb, d, e⟩, Heap.Le.refl _⟩
theorem Weak.bundle {L rs : List HP} : Weak (L ++ rs) (bundle L :: rs) := fun h s => by
 obtain ⟨a, b, ha, hb, d, e⟩ := Sep.append.1 s
 exact ⟨h, ⟨a, b, ha, hb, d, e⟩, Heap.Le.refl _⟩
theorem Weak.toEx {X : Type} {p : X → Prop} {s : X → HP} {rs : List HP} (x : X) (hp : p x) : Weak (s x :: rs) (ExP p s :: rs) := Weak.turn .h0 fun a ha => ⟨x, hp, ha⟩
theorem Weak.mid {p q q' : List HP} (w : Weak q q') : Weak (p ++ q) (p ++ q') := by
 induction p with
 | nil => exact w
 | cons a p ih => exact ih.keep
section
variable {C : Cx} {F : Fx} {l : Env} {rs : List HP} {K : Act → World → Prop}
/-- A bundle is opened at its place. -/
theorem St.unbundle (p : List HP) {L q : List HP} (h : St C F l (p ++ (L ++ q)) K) : St C F l (p ++ Go.Proofs.YtcngmkjdpoiiaaaGreatDoor.bundle L :: q) K := St.res (Weak.mid Weak.unbundle) h
end
end Go.Proofs.YtcngmkjdpoiiaaaGreatDoor

/- Plain: accounts and releases: what is sound, searches by halves, sums. -/
namespace Go.Proofs.YtcngmkjdpoiiaaaGreatDoor
open Go Go.RowKit
/-- An account. -/
structure Acc where
 a : Int
 bal : Int
 bond : Int
 non : Int
 jail : Bool
def Acc.cells (x : Acc) : List Value := [.int .u64 x.a, .int .u64 x.bal, .int .u64 x.bond, .int .u64 x.non, .bool x.jail]
instance : Rec Acc := ⟨Acc.cells, 5, fun _ => rfl, fun x v hv => by
 simp only [Acc.cells, List.mem_cons, List.not_mem_nil, or_false] at hv
 rcases hv with rfl | rfl | rfl | rfl | rfl <;> rfl⟩
def acc0 : Acc := ⟨0, 0, 0, 0, false⟩
instance : Inhabited Acc := ⟨acc0⟩
theorem Acc.inj {x y : Acc} (h : x.cells = y.cells) : x = y := by
 obtain ⟨a, b, c, d, e⟩ := x; obtain ⟨a', b', c', d', e'⟩ := y
 simp only [Acc.cells, List.cons.injEq, Value.int.injEq, Value.bool.injEq, and_true, true_and] at h
 obtain ⟨rfl, rfl, rfl, rfl, rfl⟩ := h; rfl
/-- A row of bond that was let go. -/
structure Rel where
 h : Int
 a : Int
 born : Int
 amt : Int
def Rel.cells (x : Rel) : List Value := [.int .u64 x.h, .int .u64 x.a, .int .u64 x.born, .int .u64 x.amt]
instance : Rec Rel := ⟨Rel.cells, 4, fun _ => rfl, fun x v hv => by
 simp only [Rel.cells, List.mem_cons, List.not_mem_nil, or_false] at hv
 rcases hv with rfl | rfl | rfl | rfl <;> rfl⟩
def rel0 : Rel := ⟨0, 0, 0, 0⟩
instance : Inhabited Rel := ⟨rel0⟩
theorem Rel.inj {x y : Rel} (h : x.cells = y.cells) : x = y := by
 obtain ⟨a, b, c, d⟩ := x; obtain ⟨a', b', c', d'⟩ := y
 simp only [Rel.cells, List.cons.injEq, Value.int.injEq, and_true, true_and] at h
 obtain ⟨rfl, rfl, rfl, rfl⟩ := h; rfl
def u64 (x : Int) : Prop := 0 ≤ x ∧ x ≤ 18446744073709551615
def Acc.ok (x : Acc) : Prop := u64 x.a ∧ u64 x.bal ∧ u64 x.bond ∧ u64 x.non
def Rel.ok (x : Rel) : Prop := u64 x.h ∧ u64 x.a ∧ u64 x.born ∧ u64 x.amt
theorem acc0_ok : acc0.ok := ⟨⟨by decide, by decide⟩, ⟨by decide, by decide⟩, ⟨by decide, by decide⟩, ⟨by decide, by decide⟩⟩
/-- A ledger: its lists, what was burnt, how much there was. -/
structure Led where
 acc : List Acc
 rel : List Rel
 burnt : Int
 sup : Int
def led0 : Led := ⟨[], [], 0, 0⟩
def Led.ok (l : Led) : Prop := (∀ x ∈ l.acc, x.ok) ∧ (∀ x ∈ l.rel, x.ok) ∧ u64 l.burnt ∧ u64 l.sup
/-! ### The first of many errors -/
def firstE (f : Nat → Int) : Nat → Int
 | 0 => 0
 | k + 1 => if firstE f k = 0 then f k else firstE f k
theorem firstE_next {f : Nat → Int} {i : Nat} (h0 : firstE f i = 0) (hb : f i = 0) : firstE f (i + 1) = 0 := by rw [firstE, if_pos h0, hb]
theorem firstE_stay {f : Nat → Int} {k : Nat} (h : firstE f k ≠ 0) : ∀ n, firstE f (k + n) = firstE f k
 | 0 => rfl
 | n + 1 => by
  have ih := firstE_stay h n
  show firstE f (k + n + 1) = _
  rw [firstE, if_neg (by rw [ih]; exact h), ih]
theorem firstE_hit {f : Nat → Int} {i n : Nat} {e : Int} (h0 : firstE f i = 0) (hb : f i = e) (he : e ≠ 0) (hi : i < n) : firstE f n = e := by
 have h1 : firstE f (i + 1) = e := by rw [firstE, if_pos h0, hb]
 have := firstE_stay (f := f) (k := i + 1) (by rw [h1]; exact he) (n - (i + 1))
 rwa [show i + 1 + (n - (i + 1)) = n by omega, h1] at this
theorem firstE_down {f : Nat → Int} {n : Nat} (h : firstE f n = 0) : ∀ k, k ≤ n → firstE f k = 0 := fun k hk => by
 cases Classical.em (firstE f k = 0) with
 | inl h0 => exact h0
 | inr h0 =>
  have := firstE_stay h0 (n - k)
  rw [show k + (n - k) = n by omega, h] at this
  exact absurd this.symm h0
theorem firstE_at {f : Nat → Int} {n : Nat} (h : firstE f n = 0) {k : Nat} (hk : k < n) : f k = 0 := by
 have h1 := firstE_down h k (by omega)
 have h2 := firstE_down h (k + 1) (by omega)
 rwa [firstE, if_pos h1] at h2
/-! ### Accounts -/
def MS : Int := 1152921504606846975
def accAt (l : List Acc) (i : Nat) : Acc := l.getD i acc0
def relAt (l : List Rel) (i : Nat) : Rel := l.getD i rel0
theorem accAt_of {l : List Acc} {i : Nat} {x : Acc} (h : l[i]? = some x) : accAt l i = x := by unfold accAt; rw [List.getD_eq_getElem?_getD, h]; rfl
theorem relAt_of {l : List Rel} {i : Nat} {x : Rel} (h : l[i]? = some x) : relAt l i = x := by unfold relAt; rw [List.getD_eq_getElem?_getD, h]; rfl
theorem accAt_get {l : List Acc} {i : Nat} (h : i < l.length) : l[i]? = some (accAt l i) := by unfold accAt; rw [List.getD_eq_getElem?_getD, List.getElem?_eq_getElem h]; rfl
theorem relAt_get {l : List Rel} {i : Nat} (h : i < l.length) : l[i]? = some (relAt l i) := by unfold relAt; rw [List.getD_eq_getElem?_getD, List.getElem?_eq_getElem h]; rfl
theorem accAt_mem {l : List Acc} {i : Nat} (h : i < l.length) : accAt l i ∈ l := List.mem_of_getElem? (accAt_get h)
theorem relAt_mem {l : List Rel} {i : Nat} (h : i < l.length) : relAt l i ∈ l := List.mem_of_getElem? (relAt_get h)
def accBad (l : List Acc) (i : Nat) : Int := if (accAt l i).a = 0 then 85 else if 0 < i ∧ (accAt l i).a ≤ (accAt l (i - 1)).a then 42 else if MS < (accAt l i).bal ∨ MS < (accAt l i).bond then 87 else 0
def accE (l : List Acc) : Int := firstE (accBad l) l.length
def sumA (l : List Acc) : Int := (l.map fun x => x.bal + x.bond).sum
def sumR (l : List Rel) : Int := (l.map Rel.amt).sum
theorem sumA_snoc {l : List Acc} {i : Nat} {x : Acc} (h : l[i]? = some x) : sumA (l.take (i + 1)) = sumA (l.take i) + (x.bal + x.bond) := by
 rw [List.take_add_one, h]; simp [sumA]
theorem sumR_snoc {l : List Rel} {i : Nat} {x : Rel} (h : l[i]? = some x) : sumR (l.take (i + 1)) = sumR (l.take i) + x.amt := by
 rw [List.take_add_one, h]; simp [sumR]
theorem sumA_cons (x : Acc) (l : List Acc) : sumA (x :: l) = x.bal + x.bond + sumA l := by simp [sumA]
theorem sumR_cons (x : Rel) (l : List Rel) : sumR (x :: l) = x.amt + sumR l := by simp [sumR]
theorem sumA_nn {l : List Acc} (h : ∀ x ∈ l, x.ok) : 0 ≤ sumA l := by
 induction l with
 | nil => decide
 | cons x l ih =>
  rw [sumA_cons]
  have h1 := ih fun y hy => h y (by simp [hy])
  obtain ⟨_, ⟨h2, _⟩, ⟨h3, _⟩, _⟩ := h x (by simp)
  omega
theorem sumR_nn {l : List Rel} (h : ∀ x ∈ l, x.ok) : 0 ≤ sumR l := by
 induction l with
 | nil => decide
 | cons x l ih =>
  rw [sumR_cons]
  have h1 := ih fun y hy => h y (by simp [hy])
  obtain ⟨_, _, _, ⟨h3, _⟩⟩ := h x (by simp)
  omega
/-- So far each account has passed: the sum is not great. -/
theorem sumA_le {l : List Acc} : ∀ i, i ≤ l.length → firstE (accBad l) i = 0 → sumA (l.take i) ≤ 2 * MS * i
 | 0, _, _ => by simp [sumA]
 | i + 1, h, h0 => by
  have h1 := firstE_down h0 i (by omega)
  have h2 := firstE_at h0 (show i < i + 1 by omega)
  rw [sumA_snoc (accAt_get (by omega))]
  have h3 := sumA_le i (by omega) h1
  unfold accBad at h2
  split at h2
  ·omega
  ·split at h2
   ·omega
   ·split at h2
    ·omega
    ·have : (accAt l i).bal ≤ MS ∧ (accAt l i).bond ≤ MS := by omega
     push_cast
     rw [Int.mul_add]
     omega
structure AccFine (l : List Acc) : Prop where
 no0 : ∀ i, i < l.length → (accAt l i).a ≠ 0
 up : ∀ i, 0 < i → i < l.length → (accAt l (i - 1)).a < (accAt l i).a
 le : ∀ i, i < l.length → (accAt l i).bal ≤ MS ∧ (accAt l i).bond ≤ MS
theorem accFine_of {l : List Acc} (h : accE l = 0) : AccFine l := by
 have key : ∀ i, i < l.length → (accAt l i).a ≠ 0 ∧ (0 < i → (accAt l (i - 1)).a < (accAt l i).a) ∧ (accAt l i).bal ≤ MS ∧ (accAt l i).bond ≤ MS := fun i hi => by
  have h2 := firstE_at h hi
  unfold accBad at h2
  split at h2
  ·omega
  ·split at h2
   ·omega
   ·split at h2
    ·omega
    ·refine ⟨by assumption, fun hp => ?_, by omega, by omega⟩
     rename_i h4 _
     exact Int.not_le.1 fun h5 => h4 ⟨hp, h5⟩
 exact ⟨fun i hi => (key i hi).1, fun i h0 hi => (key i hi).2.1 h0, fun i hi => (key i hi).2.2⟩
theorem AccFine.mono {l : List Acc} (h : AccFine l) : ∀ i j, i < j → j < l.length → (accAt l i).a < (accAt l j).a := fun i j hij hj => by
 induction j with
 | zero => omega
 | succ j ih =>
  have h1 := h.up (j + 1) (by omega) hj
  rcases Nat.lt_or_ge i j with h2 | h2
  ·exact Int.lt_trans (ih h2 (by omega)) h1
  ·obtain rfl : i = j := by omega
   exact h1
/-- What New answers. -/
def newE (l : List Acc) : Int := if 65536 < l.length then 86 else if accE l ≠ 0 then accE l else if MS < sumA l then 87 else 0
theorem newE_zero {l : List Acc} (h : newE l = 0) : l.length ≤ 65536 ∧ accE l = 0 ∧ sumA l ≤ MS := by
 unfold newE at h
 split at h
 ·omega
 ·split at h
  ·exact absurd h (by assumption)
  ·split at h
   ·omega
   ·exact ⟨by omega, Classical.not_not.1 (by assumption), by omega⟩
/-! ### Sums that stop -/
/-! ### Searches by halves -/
def bsI (p : Nat → Bool) : Nat → Nat → Nat → Nat
 | 0, lo, _ => lo
 | f + 1, lo, hi => if lo < hi then (if p ((lo + hi) / 2) = true then bsI p f ((lo + hi) / 2 + 1) hi else bsI p f lo ((lo + hi) / 2)) else lo
theorem bsI_fuel (p : Nat → Bool) : ∀ (f g lo hi : Nat), hi - lo ≤ f → hi - lo ≤ g → bsI p f lo hi = bsI p g lo hi
 | 0, 0, _, _, _, _ => rfl
 | 0, g + 1, lo, hi, h, _ => by rw [bsI, bsI, if_neg (by omega)]
 | f + 1, 0, lo, hi, _, h => by rw [bsI, bsI, if_neg (by omega)]
 | f + 1, g + 1, lo, hi, h1, h2 => by
  rw [bsI, bsI]
  split
  ·split
   ·exact bsI_fuel p f g _ _ (by omega) (by omega)
   ·exact bsI_fuel p f g _ _ (by omega) (by omega)
  ·rfl
def bsN (p : Nat → Bool) (lo hi : Nat) : Nat := bsI p (hi - lo) lo hi
theorem bsN_end {p : Nat → Bool} {lo hi : Nat} (h : ¬ lo < hi) : bsN p lo hi = lo := by
 unfold bsN; rw [show hi - lo = 0 by omega]; rfl
theorem bsN_up {p : Nat → Bool} {lo hi : Nat} (h : lo < hi) (hp : p ((lo + hi) / 2) = true) : bsN p lo hi = bsN p ((lo + hi) / 2 + 1) hi := by
 unfold bsN
 obtain ⟨f, hf⟩ : ∃ f, hi - lo = f + 1 := ⟨hi - lo - 1, by omega⟩
 rw [hf, bsI, if_pos h, if_pos hp]
 exact bsI_fuel p _ _ _ _ (by omega) (by omega)
theorem bsN_down {p : Nat → Bool} {lo hi : Nat} (h : lo < hi) (hp : p ((lo + hi) / 2) = false) : bsN p lo hi = bsN p lo ((lo + hi) / 2) := by
 unfold bsN
 obtain ⟨f, hf⟩ : ∃ f, hi - lo = f + 1 := ⟨hi - lo - 1, by omega⟩
 rw [hf, bsI, if_pos h, if_neg (by rw [hp]; decide)]
 exact bsI_fuel p _ _ _ _ (by omega) (by omega)
theorem bsN_bound (p : Nat → Bool) : ∀ (f lo hi : Nat), hi - lo ≤ f → lo ≤ hi → lo ≤ bsN p lo hi ∧ bsN p lo hi ≤ hi
 | 0, lo, hi, h, h2 => by rw [bsN_end (by omega)]; omega
 | f + 1, lo, hi, h, h2 => by
  rcases Nat.lt_or_ge lo hi with hl | hl
  ·cases hp : p ((lo + hi) / 2) with
   | true => rw [bsN_up hl hp]; have := bsN_bound p f ((lo + hi) / 2 + 1) hi (by omega) (by omega); omega
   | false => rw [bsN_down hl hp]; have := bsN_bound p f lo ((lo + hi) / 2) (by omega) (by omega); omega
  ·rw [bsN_end (by omega)]; omega
/-- Where what is asked is true ahead of a place and false from there on, that place is found. -/
theorem bsN_spec {p : Nat → Bool} : ∀ (f lo hi : Nat), hi - lo ≤ f → lo ≤ hi → (∀ i j, lo ≤ i → i < j → j < hi → p j = true → p i = true) → (∀ i, lo ≤ i → i < bsN p lo hi → p i = true) ∧ (∀ i, bsN p lo hi ≤ i → i < hi → p i = false)
 | 0, lo, hi, h, h2, _ => by rw [bsN_end (by omega)]; exact ⟨fun i _ _ => by omega, fun i _ _ => by omega⟩
 | f + 1, lo, hi, h, h2, hm => by
  rcases Nat.lt_or_ge lo hi with hl | hl
  ·cases hp : p ((lo + hi) / 2) with
   | true =>
    rw [bsN_up hl hp]
    obtain ⟨h3, h4⟩ := bsN_spec f ((lo + hi) / 2 + 1) hi (by omega) (by omega) fun i j hi' => hm i j (by omega)
    refine ⟨fun i h5 h6 => ?_, h4⟩
    rcases Nat.lt_trichotomy i ((lo + hi) / 2) with h7 | h7 | h7
    ·exact hm i _ h5 h7 (by omega) hp
    ·rw [h7]; exact hp
    ·exact h3 i (by omega) h6
   | false =>
    rw [bsN_down hl hp]
    obtain ⟨h3, h4⟩ := bsN_spec f lo ((lo + hi) / 2) (by omega) (by omega) fun i j h1 h2' h3' => hm i j h1 h2' (by omega)
    refine ⟨h3, fun i h5 h6 => ?_⟩
    rcases Nat.lt_trichotomy i ((lo + hi) / 2) with h7 | h7 | h7
    ·exact h4 i h5 h7
    ·rw [h7]; exact hp
    ·cases hq : p i with
     | false => rfl
     | true => rw [hm ((lo + hi) / 2) i (by omega) h7 h6 hq] at hp; cases hp
  ·rw [bsN_end (by omega)]; exact ⟨fun i _ _ => by omega, fun i _ _ => by omega⟩
/-- Where an account stands, or would stand. -/
def spotI (l : List Acc) (a : Int) : Nat := bsN (fun i => decide ((accAt l i).a < a)) 0 l.length
def spotB (l : List Acc) (a : Int) : Bool := decide (spotI l a < l.length) && decide ((accAt l (spotI l a)).a = a)
def placeI (l : List Acc) (a : Int) : Int := if spotB l a = true then (spotI l a : Int) else -1
theorem spotI_le (l : List Acc) (a : Int) : spotI l a ≤ l.length := (bsN_bound _ _ 0 l.length (Nat.le_refl _) (Nat.zero_le _)).2
/-! ### Releases -/
def laterB (x y : Rel) : Bool := decide (y.h < x.h) || (decide (x.h = y.h) && decide (y.a < x.a))
def relBad (l : List Acc) (r : List Rel) (i : Nat) : Int :=
 if spotB l (relAt r i).a = false then 85 else if 1099511627776 < (relAt r i).born ∨ (relAt r i).h < (relAt r i).born ∨ 1103806595072 < (relAt r i).h then 2
 else if 0 < i ∧ laterB (relAt r i) (relAt r (i - 1)) = false then 42 else if (relAt r i).amt = 0 ∨ MS < (relAt r i).amt then 87 else 0
def relE (l : List Acc) (r : List Rel) : Int := firstE (relBad l r) r.length
def lsoundE (l : Led) : Int := if 65536 < l.acc.length ∨ 65536 < l.rel.length then 86 else if accE l.acc ≠ 0 then accE l.acc else if relE l.acc l.rel ≠ 0 then relE l.acc l.rel
 else if MS < l.sup ∨ l.burnt + sumA l.acc + sumR l.rel ≠ l.sup then 87 else 0
theorem sumR_le {a : List Acc} {l : List Rel} : ∀ i, i ≤ l.length → firstE (relBad a l) i = 0 → sumR (l.take i) ≤ MS * i
 | 0, _, _ => by simp [sumR]
 | i + 1, h, h0 => by
  have h1 := firstE_down h0 i (by omega)
  have h2 := firstE_at h0 (show i < i + 1 by omega)
  rw [sumR_snoc (relAt_get (by omega))]
  have h3 := sumR_le i (by omega) h1
  have : (relAt l i).amt ≤ MS := by
   unfold relBad at h2
   split at h2
   ·omega
   ·split at h2
    ·omega
    ·split at h2
     ·omega
     ·split at h2 <;> omega
  push_cast
  rw [Int.mul_add]
  omega
structure LedFine (l : Led) : Prop where
 few : l.acc.length ≤ 65536
 few' : l.rel.length ≤ 65536
 acc : accE l.acc = 0
 rel : relE l.acc l.rel = 0
 sup : l.sup ≤ MS
 sum : l.burnt + sumA l.acc + sumR l.rel = l.sup
theorem ledFine_of {l : Led} (h : lsoundE l = 0) : LedFine l := by
 unfold lsoundE at h
 split at h
 ·omega
 ·split at h
  ·exact absurd h (by assumption)
  ·split at h
   ·exact absurd h (by assumption)
   ·split at h
    ·omega
    ·rename_i h1 h2 h3 h4
     exact ⟨by omega, by omega, Classical.not_not.1 h2, Classical.not_not.1 h3, by omega, Classical.not_not.1 fun h5 => h4 (.inr h5)⟩
theorem LedFine.zero {l : Led} (h : LedFine l) : lsoundE l = 0 := by
 unfold lsoundE
 rw [if_neg (by have := h.few; have := h.few'; omega), if_neg (by rw [h.acc]; simp), if_neg (by rw [h.rel]; simp), if_neg (by rw [h.sum]; have := h.sup; omega)]
end Go.Proofs.YtcngmkjdpoiiaaaGreatDoor

/- Plain: turns by priorities: the highest is chosen and pays the total; how far apart the priorities can come. -/
namespace Go.Proofs.YtcngmkjdpoiiaaaGreatDoor

/-! ### Sums of the first n -/
def sumI : Nat → (Nat → Int) → Int
 | 0, _ => 0
 | k + 1, f => sumI k f + f k
theorem sumI_congr {n : Nat} {f g : Nat → Int} (h : ∀ i, i < n → f i = g i) : sumI n f = sumI n g := by
 induction n with
 | zero => rfl
 | succ n ih => simp only [sumI]; rw [ih fun i hi => h i (by omega), h n (by omega)]
theorem sumI_le {n : Nat} {f g : Nat → Int} (h : ∀ i, i < n → f i ≤ g i) : sumI n f ≤ sumI n g := by
 induction n with
 | zero => exact Int.le_refl _
 | succ n ih => simp only [sumI]; have := ih fun i hi => h i (by omega); have := h n (by omega); omega
theorem sumI_add (n : Nat) (f g : Nat → Int) : sumI n (fun i => f i + g i) = sumI n f + sumI n g := by
 induction n with
 | zero => rfl
 | succ n ih => simp only [sumI]; rw [ih]; omega
theorem sumI_zero (n : Nat) : sumI n (fun _ => 0) = 0 := by
 induction n with
 | zero => rfl
 | succ n ih => simp only [sumI]; rw [ih]; rfl
theorem sumI_nonneg {n : Nat} {f : Nat → Int} (h : ∀ i, i < n → 0 ≤ f i) : 0 ≤ sumI n f := by
 have := sumI_le (f := fun _ => 0) h; rwa [sumI_zero] at this
theorem sumI_const (n : Nat) (c : Int) : sumI n (fun _ => c) = n * c := by
 induction n with
 | zero => simp [sumI]
 | succ n ih => simp only [sumI]; rw [ih, Int.natCast_add, Int.add_mul]; simp
theorem sumI_mul (n : Nat) (c : Int) (f : Nat → Int) : sumI n (fun i => c * f i) = c * sumI n f := by
 induction n with
 | zero => simp [sumI]
 | succ n ih => simp only [sumI]; rw [ih, Int.mul_add]
theorem sumI_one {n c : Nat} (h : c < n) (d : Int) : sumI n (fun i => if i = c then d else 0) = d := by
 induction n with
 | zero => omega
 | succ n ih =>
  simp only [sumI]
  by_cases e : n = c
  ·subst e
   rw [if_pos rfl, sumI_congr (g := fun _ => 0) (fun i hi => by rw [if_neg (by omega)]), sumI_zero]; omega
  ·rw [ih (by omega), if_neg e]; omega
/-- The sum over a set. -/
def sumS (n : Nat) (S : Nat → Bool) (f : Nat → Int) : Int := sumI n fun i => if S i then f i else 0
theorem sumS_add (n : Nat) (S : Nat → Bool) (f g : Nat → Int) : sumS n S (fun i => f i + g i) = sumS n S f + sumS n S g := by
 unfold sumS; rw [← sumI_add]; exact sumI_congr fun i _ => by split <;> simp
theorem sumS_le {n : Nat} {S : Nat → Bool} {f g : Nat → Int} (h : ∀ i, i < n → S i = true → f i ≤ g i) : sumS n S f ≤ sumS n S g :=
 sumI_le fun i hi => by split; exact h i hi ‹_›; exact Int.le_refl _
theorem sumS_sub {n : Nat} {S : Nat → Bool} {f : Nat → Int} (h : ∀ i, i < n → 0 ≤ f i) : sumS n S f ≤ sumI n f :=
 sumI_le fun i hi => by split; exact Int.le_refl _; exact h i hi
theorem sumS_const (n : Nat) (S : Nat → Bool) (c : Int) : sumS n S (fun _ => c) = c * sumS n S (fun _ => 1) := by
 unfold sumS; rw [← sumI_mul]; exact sumI_congr fun i _ => by split <;> simp
theorem sumS_with {n c : Nat} {S : Nat → Bool} (hc : c < n) (hS : S c = false) (f : Nat → Int) : sumS n (fun i => S i || i == c) f = sumS n S f + f c := by
 unfold sumS
 rw [← sumI_one hc (f c), ← sumI_add]
 refine sumI_congr fun i _ => ?_
 by_cases e : i = c
 ·subst e; simp [hS]
 ·simp [e]
theorem card_le (n : Nat) (S : Nat → Bool) : sumS n S (fun _ => 1) ≤ n := by
 have := sumS_sub (n := n) (S := S) (f := fun _ => 1) (fun _ _ => by show (0 : Int) ≤ 1; omega)
 rw [sumI_const] at this; omega
/-! ### One turn -/
/-- The next priorities: each takes its weight, c pays the total. -/
def nextQ (w q : Nat → Int) (c : Nat) (T : Int) : Nat → Int := fun i => q i + w i - (if i = c then T else 0)
/-- c is one of the highest. -/
def Best (n : Nat) (w q : Nat → Int) (c : Nat) : Prop := c < n ∧ ∀ j, j < n → q j + w j ≤ q c + w c
/-- The least multiple of all numbers up to 64. -/
def dK : Int := 1182266884102822267511361600
def dQ (j : Nat) : Int := dK / ((j : Int) + 1)
theorem dQ_all : ((List.range 64).all fun j => decide (((j : Int) + 1) * dQ j = dK) && decide (0 ≤ dQ j)) = true := by decide +kernel
theorem dQ_mul {j : Nat} (h : j < 64) : ((j : Int) + 1) * dQ j = dK := by
 have := List.all_eq_true.1 dQ_all j (by simpa using h)
 simp only [Bool.and_eq_true, decide_eq_true_eq] at this; exact this.1
theorem dQ_nn {j : Nat} (h : j < 64) : 0 ≤ dQ j := by
 have := List.all_eq_true.1 dQ_all j (by simpa using h)
 simp only [Bool.and_eq_true, decide_eq_true_eq] at this; exact this.2
/-- dK (1/(k+1) + .. + 1/n) -/
def hN (n k : Nat) : Int := sumI n fun j => if k ≤ j then dQ j else 0
theorem hN_step {n k : Nat} (h : k < n) : hN n k = hN n (k + 1) + dQ k := by
 unfold hN
 rw [← sumI_one h (dQ k), ← sumI_add]
 refine sumI_congr fun j _ => ?_
 by_cases e : j = k
 ·subst e; rw [if_pos (Nat.le_refl _), if_neg (by omega), if_pos rfl]; omega
 ·rw [if_neg e]
  by_cases h2 : k ≤ j
  ·rw [if_pos h2, if_pos (by omega)]; omega
  ·rw [if_neg h2, if_neg (by omega)]; rfl
theorem hN_nn {n k : Nat} (h : n ≤ 64) : 0 ≤ hN n k := sumI_nonneg fun j hj => by split; exact dQ_nn (by omega); exact Int.le_refl _
/-- Every k of them are together at most k (C + T (1/(k+1) + .. + 1/n)). -/
def Cup (n : Nat) (C T : Int) (q : Nat → Int) : Prop := ∀ (S : Nat → Bool) (k : Nat), sumS n S (fun _ => 1) = k → 1 ≤ k → dK * sumS n S q ≤ k * (C * dK + T * hN n k)
theorem Cup.start {n : Nat} {C T : Int} {q : Nat → Int} (hn : n ≤ 64) (hT : 0 ≤ T) (h : ∀ i, i < n → q i ≤ C) : Cup n C T q := fun S k hk h1 => by
 have h2 : sumS n S q ≤ C * k := by
  have := sumS_le (n := n) (S := S) (f := q) (g := fun _ => C) (fun i hi _ => h i hi)
  rwa [sumS_const, hk] at this
 have h3 : 0 ≤ (k : Int) * (T * hN n k) := Int.mul_nonneg (by omega) (Int.mul_nonneg hT (hN_nn hn))
 have h4 : dK * sumS n S q ≤ dK * (C * k) := Int.mul_le_mul_of_nonneg_left h2 (by decide)
 have h5 : dK * (C * k) = (k : Int) * (C * dK) := by rw [Int.mul_comm dK, Int.mul_comm C, Int.mul_assoc]
 rw [Int.mul_add]; omega
theorem Cup.step {n c : Nat} {C T : Int} {w q : Nat → Int} (hn : n ≤ 64) (hw : sumI n w = T) (hw0 : ∀ i, i < n → 0 ≤ w i) (hb : Best n w q c) (h : Cup n C T q) : Cup n C T (nextQ w q c T) := fun S k hk h1 => by
 have hT : 0 ≤ T := by rw [← hw]; exact sumI_nonneg hw0
 have e0 : sumS n S (nextQ w q c T) = sumS n S q + sumS n S w - (if S c then T else 0) := by
  have e : sumS n S (nextQ w q c T) = sumI n (fun i => ((if S i then q i else 0) + (if S i then w i else 0)) + (if i = c then (if S c then -T else 0) else 0)) := by
   unfold sumS
   refine sumI_congr fun i _ => ?_
   unfold nextQ
   by_cases ei : i = c
   ·subst ei
    cases S i <;> simp; omega
   ·rw [if_neg ei, if_neg ei]
    cases S i <;> simp
  rw [e, sumI_add, sumI_add, sumI_one hb.1]
  show sumS n S q + sumS n S w + _ = _
  cases S c <;> simp; omega
 have hwS : sumS n S w ≤ T := by rw [← hw]; exact sumS_sub hw0
 cases hS : S c with
 | true =>
  rw [hS] at e0
  simp only [if_true] at e0
  have h2 := h S k hk h1
  have h3 : dK * sumS n S (nextQ w q c T) ≤ dK * sumS n S q := Int.mul_le_mul_of_nonneg_left (by omega) (by decide)
  omega
 | false =>
  rw [hS] at e0
  simp only [Bool.false_eq_true, if_false, Int.sub_zero] at e0
  have hk2 : sumS n (fun i => S i || i == c) (fun _ => 1) = ((k + 1 : Nat) : Int) := by rw [sumS_with hb.1 hS, hk]; omega
  have hkn : k < n := by have := card_le n (fun i => S i || i == c); rw [hk2] at this; omega
  have h2 := h (fun i => S i || i == c) (k + 1) hk2 (by omega)
  rw [sumS_with hb.1 hS] at h2
  have hwS2 : sumS n S w + w c ≤ T := by
   have : sumS n (fun i => S i || i == c) w ≤ sumI n w := sumS_sub hw0
   rw [sumS_with hb.1 hS, hw] at this; exact this
  have hI : sumS n S q + sumS n S w ≤ k * (q c + w c) := by
   have := sumS_le (n := n) (S := S) (f := fun i => q i + w i) (g := fun _ => q c + w c) (fun i hi _ => hb.2 i hi)
   rw [sumS_add, sumS_const, hk, Int.mul_comm] at this; exact this
  rw [e0]
  -- names for the products
  have hq := dQ_mul (j := k) (by omega)
  rw [hN_step hkn]
  generalize hN n (k + 1) = hh at *
  generalize dQ k = dq at *
  have hd : (0 : Int) < dK := by decide
  generalize dK = D at *
  generalize sumS n S q = A at *
  generalize sumS n S w = B at *
  generalize q c = x at *
  generalize w c = y at *
  obtain ⟨K, hK⟩ : ∃ K : Int, K = (k : Int) := ⟨_, rfl⟩
  have hK0 : 0 ≤ K := by omega
  rw [← hK] at hq hI ⊢
  have hK1 : ((k + 1 : Nat) : Int) = K + 1 := by omega
  rw [hK1] at h2
  -- (K+1)(A+B) ≤ K (A + B + x + y) ≤ K (A + x + T)
  have s1 : (K + 1) * (A + B) ≤ K * (A + x + T) := by
   have a1 : (K + 1) * (A + B) = K * (A + B) + (A + B) := by rw [Int.add_mul, Int.one_mul]
   have a2 : K * (A + B) + K * (x + y) = K * (A + x + (B + y)) := by rw [← Int.mul_add]; congr 1; omega
   have a3 : K * (A + x + (B + y)) ≤ K * (A + x + T) := Int.mul_le_mul_of_nonneg_left (by omega) hK0
   omega
  have s2 : D * ((K + 1) * (A + B)) ≤ D * (K * (A + x + T)) := Int.mul_le_mul_of_nonneg_left s1 (by omega)
  have s3 : D * (K * (A + x + T)) = K * (D * (A + x)) + K * (D * T) := by rw [← Int.mul_add, ← Int.mul_add]; rw [← Int.mul_assoc, Int.mul_comm D K, Int.mul_assoc]
  have s4 : K * (D * (A + x)) ≤ K * ((K + 1) * (C * D + T * hh)) := Int.mul_le_mul_of_nonneg_left h2 hK0
  have s5 : K * (D * T) = K * ((K + 1) * (T * dq)) := by
   congr 1
   rw [← hq, Int.mul_assoc, Int.mul_comm dq T]
  have s6 : D * ((K + 1) * (A + B)) = (K + 1) * (D * (A + B)) := by rw [← Int.mul_assoc, Int.mul_comm D, Int.mul_assoc]
  have s7 : K * ((K + 1) * (C * D + T * hh)) + K * ((K + 1) * (T * dq)) = (K + 1) * (K * (C * D + T * (hh + dq))) := by
   rw [← Int.mul_add, ← Int.mul_add, ← Int.mul_assoc, Int.mul_comm K, Int.mul_assoc]
   congr 2
   rw [Int.mul_add T]; omega
  refine Int.le_of_mul_le_mul_left ?_ (show 0 < K + 1 by omega)
  rw [← s6, ← s7]
  omega
end Go.Proofs.YtcngmkjdpoiiaaaGreatDoor

/- Plain: what is sound, who is chosen: the council's reckonings. -/
namespace Go.Proofs.YtcngmkjdpoiiaaaGreatDoor
open Go Go.RowKit
/-- A member: address, power, priority. -/
structure Mem where
 a : Int
 p : Int
 q : Int
def Mem.cells (m : Mem) : List Value := [.int .u64 m.a, .int .u64 m.p, .int .i64 m.q]
theorem Mem.cells_one (m : Mem) : ∀ v ∈ m.cells, v.oneCell' = true := fun v hv => by
 simp only [Mem.cells, List.mem_cons, List.not_mem_nil, or_false] at hv
 rcases hv with rfl | rfl | rfl <;> rfl
def Mem.ok (m : Mem) : Prop := (0 ≤ m.a ∧ m.a ≤ 18446744073709551615) ∧ (0 ≤ m.p ∧ m.p ≤ 18446744073709551615) ∧ (-9223372036854775808 ≤ m.q ∧ m.q ≤ 9223372036854775807)
/-! ### What is sound -/
def msK : Int := 1152921504606846975
def sumP (l : List Mem) : Int := (l.map Mem.p).sum
def mAt (l : List Mem) (i : Nat) : Mem := l.getD i ⟨0, 0, 0⟩
theorem mAt_of {l : List Mem} {i : Nat} {m : Mem} (h : l[i]? = some m) : mAt l i = m := by simp [mAt, List.getD, h]
def badAt (l : List Mem) (i : Nat) : Int := if (mAt l i).a = 0 then 85 else if 0 < i ∧ (mAt l i).a ≤ (mAt l (i - 1)).a then 52 else if (mAt l i).p = 0 ∨ msK < (mAt l i).p then 50 else 0
def bads (l : List Mem) : Nat → Int
 | 0 => 0
 | k + 1 => if bads l k = 0 then badAt l k else bads l k
theorem bads_stay {l : List Mem} {k : Nat} (h : bads l k ≠ 0) : ∀ n, bads l (k + n) = bads l k
 | 0 => rfl
 | n + 1 => by
  have ih := bads_stay h n
  show (if bads l (k + n) = 0 then badAt l (k + n) else bads l (k + n)) = _
  rw [ih, if_neg h]
structure Fine (l : List Mem) : Prop where
 pos : 0 < l.length
 few : l.length ≤ 64
 no : bads l l.length = 0
 tot : sumP l ≤ msK
theorem bads_down {l : List Mem} {n : Nat} (h : bads l n = 0) : ∀ k, k ≤ n → bads l k = 0 := fun k hk => by
 by_cases h0 : bads l k = 0
 ·exact h0
 ·have := bads_stay h0 (n - k)
  rw [show k + (n - k) = n by omega, h] at this
  exact this.symm
theorem Fine.badAt {l : List Mem} (h : Fine l) {i : Nat} (hi : i < l.length) : Go.Proofs.YtcngmkjdpoiiaaaGreatDoor.badAt l i = 0 := by
 have h1 := bads_down h.no i (by omega)
 have h2 := bads_down h.no (i + 1) (by omega)
 have h3 : (if bads l i = 0 then Go.Proofs.YtcngmkjdpoiiaaaGreatDoor.badAt l i else bads l i) = 0 := h2
 rwa [if_pos h1] at h3
theorem Fine.at_ {l : List Mem} (h : Fine l) {i : Nat} {m : Mem} (hm : l[i]? = some m) : m.a ≠ 0 ∧ m.p ≠ 0 ∧ m.p ≤ msK ∧ ∀ m', 0 < i → l[i - 1]? = some m' → m'.a < m.a := by
 have hb := h.badAt (List.getElem?_eq_some_iff.1 hm).1
 unfold Go.Proofs.YtcngmkjdpoiiaaaGreatDoor.badAt at hb
 rw [mAt_of hm] at hb
 split at hb
 ·cases hb
 ·rename_i h1
  split at hb
  ·cases hb
  ·rename_i h2
   split at hb
   ·cases hb
   ·rename_i h3
    refine ⟨h1, by omega, by omega, fun m' hi hm' => ?_⟩
    rw [mAt_of hm'] at h2
    omega
/-! ### Searches -/
theorem drop_at {α : Type} {l : List α} {i : Nat} {x : α} (h : l[i]? = some x) : l.drop i = x :: l.drop (i + 1) := by
 have hlt := (List.getElem?_eq_some_iff.1 h).1
 rw [List.drop_eq_getElem_cons hlt]
 rw [List.getElem?_eq_getElem hlt, Option.some.injEq] at h
 rw [h]
end Go.Proofs.YtcngmkjdpoiiaaaGreatDoor

/- Plain: who sits in a council. -/
namespace Go.Proofs.YtcngmkjdpoiiaaaGreatDoor
open Go Go.RowKit Go.Sort
instance : Rec Mem := ⟨Mem.cells, 3, fun _ => rfl, Mem.cells_one⟩
instance : Inhabited Mem := ⟨⟨0, 0, 0⟩⟩
/-- May an account sit? -/
def sits (mb : Int) (x : Acc) : Bool := !x.jail && (decide (mb ≤ x.bond) && decide (1 ≤ x.bond))
def memA (x : Acc) : Mem := ⟨x.a, x.bond, 0⟩
/-- All who may sit. -/
def candM (mb : Int) (l : List Acc) : List Mem := (l.filter (sits mb)).map memA
/-- Who comes first: more power, then the lesser address. -/
def bt (x y : Mem) : Bool := decide (y.p < x.p) || (decide (x.p = y.p) && decide (x.a < y.a))
theorem bt_iff {x y : Mem} : bt x y = true ↔ y.p < x.p ∨ (x.p = y.p ∧ x.a < y.a) := by
 unfold bt; rw [Bool.or_eq_true, Bool.and_eq_true, decide_eq_true_eq, decide_eq_true_eq, decide_eq_true_eq]
theorem bt_asymm {x y : Mem} (h : bt x y = true) : ¬ bt y x = true := by rw [bt_iff] at h ⊢; omega
def mostN (seats : Int) (n : Nat) : Nat := min (min seats.toNat 64) n
/-- R are those who sit. -/
structure SeatsOf (mb seats : Int) (l : List Acc) (R : List Mem) : Prop where
 up : R.Pairwise fun x y => x.a < y.a
 mem : ∀ x ∈ R, x ∈ candM mb l
 len : R.length = mostN seats (candM mb l).length
 best : ∀ x ∈ R, ∀ y ∈ candM mb l, y ∉ R → bt x y = true
theorem nodup_up {R : List Mem} (h : R.Pairwise fun x y => x.a < y.a) : R.Nodup := h.imp fun {x y} h e => by subst e; omega
theorem SeatsOf.sub {mb seats : Int} {l : List Acc} {R R' : List Mem} (h : SeatsOf mb seats l R) (h' : SeatsOf mb seats l R') : ∀ x ∈ R, x ∈ R' := fun x hx => by
 refine Classical.byContradiction fun hn => ?_
 have : ¬ R' ⊆ R := fun hs => by
  have hnd : (x :: R').Nodup := List.nodup_cons.2 ⟨hn, nodup_up h'.up⟩
  have := hnd.length_le_of_subset (l₂ := R) fun y hy => by
   rcases List.mem_cons.1 hy with rfl | hy
   ·exact hx
   ·exact hs hy
  rw [List.length_cons, h.len, h'.len] at this
  omega
 have : ∃ y, y ∈ R' ∧ y ∉ R := Classical.byContradiction fun hh => this fun y hy => Classical.byContradiction fun hq => hh ⟨y, hy, hq⟩
 obtain ⟨y, hy, hy'⟩ := this
 exact bt_asymm (h.best x hx y (h'.mem y hy) hy') (h'.best y hy x (h.mem x hx) hn)
/-! ### The document's choice -/
end Go.Proofs.YtcngmkjdpoiiaaaGreatDoor

/- Plain: turns of a council. -/
namespace Go.Proofs.YtcngmkjdpoiiaaaGreatDoor
open Go Go.RowKit
def cmpI (x y : Int) : Int := if x < y then -1 else if y < x then 1 else 0
def orI (x y : Int) : Int := if x ≠ 0 then x else y
end Go.Proofs.YtcngmkjdpoiiaaaGreatDoor

/- Walks: sums of two words, comparisons. Printed by gen.py. -/
set_option maxRecDepth 100000
namespace Go.Proofs.YtcngmkjdpoiiaaaGreatDoor
open Go Go.RowKit Go.Proofs
theorem cmpu_nan {gl : Nat → Obj} (x : Int) : SpecV (cx gl) 168 [.int .u64 x] noPre (.bool false) := by
 refine Spec.enter (C := cx gl) Tryz.func168 rfl 6 rfl rfl fun w0 h0 hsep hsub hpre => ?_
 obtain rfl : h0 = Heap.none := hsep
 show St (cx gl) _ [(0, .int .u64 x)] _ _
 refine rT (lA (k:=?_))
 refine L_nil (qT (rT (lMv (k:=lMv (k:=lP pNe (k:=?_))))))
 refine E_as (t := 5) (v' := .bool false) rfl (by rw [decide_eq_false (fun h => h rfl)]) (lA (k:=?_))
 refine lQ (cE 2 rfl .nil) (R_ret ?_)
 exact R_endV rfl rfl (.tmp rfl .nil) (rfl)
theorem cmpu_ok {gl : Nat → Obj} (x y : Int) : SpecV (cx gl) 94 [.int .u64 x, .int .u64 y] noPre (.int .i64 (cmpI x y)) := by
 refine Spec.enter (C := cx gl) Tryz.func94 rfl 20 rfl rfl fun w0 h0 hsep hsub hpre => ?_
 obtain rfl : h0 = Heap.none := hsep
 show St (cx gl) _ [(0, .int .u64 x), (1, .int .u64 y)] _ _
 refine rT (lA (k:=?_))
 refine L_nil (qT (rT (lMv (k:=?_))))
 refine lO (W_callV rfl rfl rfl rfl fn_ca_168 (cmpu_nan x) (fun _ _ => trivial) (lA (k:=?_)))
 refine E_false (t := 5) rfl (rfl) ?_
 refine lQ (cE 0 rfl (cE 1 rfl (cE 4 rfl (cE 5 rfl .nil)))) (rT (lMv (k:=?_)))
 refine lO (W_callV rfl rfl rfl rfl fn_ca_168 (cmpu_nan y) (fun _ _ => trivial) (lA (k:=?_)))
 refine E_false (t := 6) rfl (rfl) ?_
 refine lQ (cE 0 rfl (cE 1 rfl (cE 4 rfl (cE 5 rfl (cE 6 rfl .nil))))) (rS (rT (lMv (k:=?_))))
 refine E_false (t := 11) rfl (rfl) ?_
 refine lQ (cE 0 rfl (cE 1 rfl (cE 4 rfl (cE 6 rfl (cE 11 rfl .nil))))) (kF (k:=R_skip (qT (rS (rT (lMv (k:=?_)))))))
 refine E_false (t := 13) rfl (rfl) ?_
 refine lQ (cE 0 rfl (cE 1 rfl (cE 4 rfl (cE 13 rfl .nil)))) (kF (k:=R_skip (qT (rS (rT (lMv (k:=lMv (k:=lP pLt (k:=?_)))))))))
 refine lQ (cE 0 rfl (cE 1 rfl (cE 4 rfl (cE 16 rfl .nil)))) ?_
 refine R_condP rfl (fun h1 => ?_) (fun h1 => ?_)
 ·skip
  refine rT (lA (k:=?_))
  refine lQ (cE 0 rfl (cE 1 rfl (cE 4 rfl .nil))) (R_ret (Q_then_ret ?_))
  exact R_endV rfl rfl (.tmp rfl .nil) (by unfold cmpI; rw [if_pos h1]; rfl)
 ·skip
  refine R_skip (qT (rS (rT (lMv (k:=lMv (k:=lP pGt (k:=?_)))))))
  refine lQ (cE 4 rfl (cE 19 rfl .nil)) ?_
  refine R_condP rfl (fun h2 => ?_) (fun h2 => ?_)
  ·skip
   refine rT (lA (k:=?_))
   refine lQ (cE 4 rfl .nil) (R_ret (Q_then_ret ?_))
   exact R_endV rfl rfl (.tmp rfl .nil) (by unfold cmpI; rw [if_neg h1, if_pos h2]; rfl)
  ·skip
   refine R_skip (qT (rT (lA (k:=?_))))
   refine lQ (cE 4 rfl .nil) (R_ret ?_)
   exact R_endV rfl rfl (.tmp rfl .nil) (by unfold cmpI; rw [if_neg h1, if_neg h2]; rfl)
theorem cmpa_nan {gl : Nat → Obj} (x : Int) : SpecV (cx gl) 169 [.int .u64 x] noPre (.bool false) := by
 refine Spec.enter (C := cx gl) Tryz.func169 rfl 6 rfl rfl fun w0 h0 hsep hsub hpre => ?_
 obtain rfl : h0 = Heap.none := hsep
 show St (cx gl) _ [(0, .int .u64 x)] _ _
 refine rT (lA (k:=?_))
 refine L_nil (qT (rT (lMv (k:=lMv (k:=lP pNe (k:=?_))))))
 refine E_as (t := 5) (v' := .bool false) rfl (by rw [decide_eq_false (fun h => h rfl)]) (lA (k:=?_))
 refine lQ (cE 2 rfl .nil) (R_ret ?_)
 exact R_endV rfl rfl (.tmp rfl .nil) (rfl)
theorem cmpa_ok {gl : Nat → Obj} (x y : Int) : SpecV (cx gl) 95 [.int .u64 x, .int .u64 y] noPre (.int .i64 (cmpI x y)) := by
 refine Spec.enter (C := cx gl) Tryz.func95 rfl 20 rfl rfl fun w0 h0 hsep hsub hpre => ?_
 obtain rfl : h0 = Heap.none := hsep
 show St (cx gl) _ [(0, .int .u64 x), (1, .int .u64 y)] _ _
 refine rT (lA (k:=?_))
 refine L_nil (qT (rT (lMv (k:=?_))))
 refine lO (W_callV rfl rfl rfl rfl fn_ca_169 (cmpa_nan x) (fun _ _ => trivial) (lA (k:=?_)))
 refine E_false (t := 5) rfl (rfl) ?_
 refine lQ (cE 0 rfl (cE 1 rfl (cE 4 rfl (cE 5 rfl .nil)))) (rT (lMv (k:=?_)))
 refine lO (W_callV rfl rfl rfl rfl fn_ca_169 (cmpa_nan y) (fun _ _ => trivial) (lA (k:=?_)))
 refine E_false (t := 6) rfl (rfl) ?_
 refine lQ (cE 0 rfl (cE 1 rfl (cE 4 rfl (cE 5 rfl (cE 6 rfl .nil))))) (rS (rT (lMv (k:=?_))))
 refine E_false (t := 11) rfl (rfl) ?_
 refine lQ (cE 0 rfl (cE 1 rfl (cE 4 rfl (cE 6 rfl (cE 11 rfl .nil))))) (kF (k:=R_skip (qT (rS (rT (lMv (k:=?_)))))))
 refine E_false (t := 13) rfl (rfl) ?_
 refine lQ (cE 0 rfl (cE 1 rfl (cE 4 rfl (cE 13 rfl .nil)))) (kF (k:=R_skip (qT (rS (rT (lMv (k:=lMv (k:=lP pLt (k:=?_)))))))))
 refine lQ (cE 0 rfl (cE 1 rfl (cE 4 rfl (cE 16 rfl .nil)))) ?_
 refine R_condP rfl (fun h1 => ?_) (fun h1 => ?_)
 ·skip
  refine rT (lA (k:=?_))
  refine lQ (cE 0 rfl (cE 1 rfl (cE 4 rfl .nil))) (R_ret (Q_then_ret ?_))
  exact R_endV rfl rfl (.tmp rfl .nil) (by unfold cmpI; rw [if_pos h1]; rfl)
 ·skip
  refine R_skip (qT (rS (rT (lMv (k:=lMv (k:=lP pGt (k:=?_)))))))
  refine lQ (cE 4 rfl (cE 19 rfl .nil)) ?_
  refine R_condP rfl (fun h2 => ?_) (fun h2 => ?_)
  ·skip
   refine rT (lA (k:=?_))
   refine lQ (cE 4 rfl .nil) (R_ret (Q_then_ret ?_))
   exact R_endV rfl rfl (.tmp rfl .nil) (by unfold cmpI; rw [if_neg h1, if_pos h2]; rfl)
  ·skip
   refine R_skip (qT (rT (lA (k:=?_))))
   refine lQ (cE 4 rfl .nil) (R_ret ?_)
   exact R_endV rfl rfl (.tmp rfl .nil) (by unfold cmpI; rw [if_neg h1, if_neg h2]; rfl)
def orL : List Int → Int
 | [] => 0
 | x :: l => if x ≠ 0 then x else orL l
theorem orL_drop {l : List Int} {i : Nat} {x : Int} (h : l[i]? = some x) : orL (l.drop i) = if x ≠ 0 then x else orL (l.drop (i + 1)) := by rw [drop_at h]; rfl
theorem or_ok {gl : Nat → Obj} (b c : Nat) (l : List Int) (hl : l.length ≤ c) (hm : l.length ≤ 1000) : SpecV (cx gl) 93 [.slice (some ⟨b, 0, none⟩) l.length c] (fun w => RowAt w ⟨b, 0, none⟩ (ints .i64 l)) (.int .i64 (orL l)) := by
 refine Spec.enter (C := cx gl) Tryz.func93 rfl 18 rfl rfl fun w0 h0 hsep hsub hpre => ?_
 obtain rfl : h0 = Heap.none := hsep
 show St (cx gl) _ [(0, .slice (some ⟨b, 0, none⟩) l.length c)] _ _
 refine rT (lA (k:=?_))
 refine L_nil (qT (rT (lA (k:=?_))))
 refine L_nil (qT (rS (rT (lMv (k:=lP (pL ty_sl_200) (k:=lMv (k:=?_)))))))
 refine lQ (cE 2 rfl (cE 3 rfl (cE 6 rfl (cE 7 rfl (cE 8 rfl .nil))))) (R_block ?_)
 refine R_loopE (G := Nat) (cE 2 rfl (cE 3 rfl (cE 6 rfl (cE 7 rfl .nil)))) (fun g => [(8, .int .i64 (g : Int))]) (fun _ => _) (fun g => g ≤ l.length ∧ orL l = orL (l.drop g)) (fun g => l.length - g) (0) (by show (0) ≤ l.length ∧ orL l = orL (l.drop (0)); exact ⟨Nat.zero_le _, rfl⟩) (by repeat (first | exact .nil | refine .cons rfl ?_ | refine .consE rfl (by first | rfl | (congr 1; omega) | (congr 1; push_cast; omega)) ?_)) (Weak.refl _) ?_
 intro i hinv
 replace hinv : i ≤ l.length ∧ orL l = orL (l.drop i) := hinv
 show St (cx gl) _ ((8, .int .i64 (i : Int)) :: _) _ _
 obtain ⟨hi, ho⟩ := hinv
 refine rT (lP pLt (k:=?_))
 refine L_nil (qT (rS ?_))
 refine R_condP rfl (fun hlt => ?_) (fun hlt => ?_)
 ·skip
  obtain ⟨x, hx⟩ : ∃ x, l[i]? = some x := ⟨_, List.getElem?_eq_getElem (by omega)⟩
  refine R_skip (qT (rS (R_block (rT ?_))))
  refine lP (P_ixs (i) rfl ty_sl_200 rfl rfl (by first | rfl | omega) (by omega)) (k:=?_)
  refine lV (V_load rfl rfl ty_sc_3 (Rd.row hpre rfl (show (ints .i64 l)[i]? = some (.int .i64 x) by simp [ints, hx]))) (k:=lA (k:=?_))
  refine L_nil (qT (rT (lMv (k:=lMv (k:=lP pNe (k:=?_))))))
  refine L_nil (qT ?_)
  refine R_condP rfl (fun hz => ?_) (fun hz => ?_)
  ·skip
   refine rT (lMv (k:=lA (k:=?_)))
   refine L_nil (qT (R_ret (Q_block_ret (Q_then_ret (Q_then_ret (Q_block_ret (Q_then_ret ?_)))))))
   exact R_endV rfl rfl (.tmp rfl .nil) (by rw [ho, orL_drop hx, if_pos hz]; rfl)
  ·skip
   refine R_skip (Q_block (qT (rR ?_)))
   first | (refine L_val rfl rfl rfl (OpP.v (P_addN rfl rfl rfl (by simp only [fits]; omega))) ?_) | (refine L_val rfl rfl rfl (OpP.v (P_add rfl rfl rfl)) ?_)
   refine lMv (k:=?_)
   refine L_nil ?_
   exact Q_round (i + 1) (by show (i + 1) ≤ l.length ∧ orL l = orL (l.drop (i + 1)); exact ⟨by omega, by rw [ho, orL_drop hx, if_neg hz]⟩) (by show l.length - (i + 1) < l.length - i; omega) (by repeat (first | exact .nil | refine .cons rfl ?_ | refine .consE rfl (by first | rfl | (congr 1; omega) | (congr 1; push_cast; omega)) ?_)) (Weak.refl _)
 ·skip
  refine R_exit (Q_then_exit (Q_then_exit (Q_block_eq ?_)))
  refine St.env (cE 2 rfl (cE 3 rfl .nil)) (qT (rT (lMv (k:=lA (k:=?_)))))
  refine lQ (cE 2 rfl .nil) (R_ret ?_)
  exact R_endV rfl rfl (.tmp rfl .nil) (by rw [ho, List.drop_eq_nil_of_le (by omega)]; rfl)
theorem orL2 (x y : Int) : orL [x, y] = orI x y := by
 show (if x ≠ 0 then x else if y ≠ 0 then y else 0) = if x ≠ 0 then x else y
 split
 ·rfl
 ·split
  ·rfl
  ·omega
def laterI (x y : Rel) : Int := orI (cmpI x.h y.h) (cmpI x.a y.a)
theorem later_ok {gl : Nat → Obj} (x y : Rel) : SpecV (cx gl) 156 [.agg x.cells.toArray, .agg y.cells.toArray] noPre (.int .i64 (laterI x y)) := by
 refine Spec.enter (C := cx gl) Tryz.func156 rfl 17 rfl rfl fun w0 h0 hsep hsub hpre => ?_
 obtain rfl : h0 = Heap.none := hsep
 show St (cx gl) _ [(0, .agg x.cells.toArray), (1, .agg y.cells.toArray)] _ _
 refine rT ?_
 refine lO (W_box (x.cells) rfl rfl rfl rfl rfl fun b2 => ?_)
 refine lO (W_box (y.cells) rfl rfl rfl rfl rfl fun b3 => lA (k:=?_))
 refine lQ (cE 2 rfl (cE 3 rfl (cE 4 rfl .nil))) (rS ?_)
 refine R_open [(0, 0), (1, 1), (2, 0), (3, 1), (5, 0), (6, 1), (7, 0), (8, 1), (4, 2), (9, 2), (10, 2), (11, 2), (12, 0)] mixed (by kernel_rfl) (QOk.then QOk.body) (oP rfl (pF ty_fl_175_0) (k:=oV rfl (vB ty_sc_23 .h1) (k:=oP rfl (pF ty_fl_175_0) (k:=oV rfl (vB ty_sc_23 .h0) (k:=oP rfl (pF ty_fl_175_1) (k:=oV rfl (vB ty_sc_26 .h1) (k:=oP rfl (pF ty_fl_175_1) (k:=oV rfl (vB ty_sc_26 .h0) (k:=?_)))))))))
 refine O_keep rfl rfl (W_callV rfl rfl rfl rfl fn_ca_94 (cmpu_ok _ _) (fun _ _ => trivial) (K_keep (Weak.refl _) ?_))
 refine O_keep rfl rfl (W_callV rfl rfl rfl rfl fn_ca_95 (cmpa_ok _ _) (fun _ _ => trivial) (K_keep (Weak.refl _) ?_))
 refine O_keep rfl rfl (W_lit (z := .nilIface) (ints .i64 [cmpI x.h y.h, cmpI x.a y.a]) rfl rfl rfl ty_sl_200 ty_lz_200 rfl rfl rfl (by decide) (by decide) (by simp [Value.cells]) (rfl) fun b15 => (K_keep (Weak.drop (Weak.refl _)) ?_))
 refine O_keep rfl rfl (W_callV rfl rfl rfl rfl fn_ca_93 (or_ok b15 2 [cmpI x.h y.h, cmpI x.a y.a] (Nat.le_refl 2) (show 2 ≤ 1000 by decide)) (fun w nw => (Sn.ofBlk .h0).rowAt0 (fun _ _ h => h) w nw) (K_keep (Weak.refl _) (oP rfl pA (k:=O_nil ?_))))
 refine St.env (cE 4 rfl .nil) (qT (R_ret ?_))
 exact R_endV rfl rfl (.tmp rfl .nil) (congrArg (Value.int .i64) (orL2 _ _))
end Go.Proofs.YtcngmkjdpoiiaaaGreatDoor

/- Go's sorts of members. Printed by gen.py. -/
set_option maxRecDepth 100000
namespace Go.Proofs.YtcngmkjdpoiiaaaGreatDoor
open Go Go.RowKit Go.Proofs Go.Sort Go.Shelf
theorem cmpI_neg (x y : Int) : cmpI x y < 0 ↔ x < y := by
 unfold cmpI; split
 ·exact ⟨fun _ => by assumption, fun _ => by decide⟩
 ·split
  ·exact ⟨fun h => absurd h (by decide), fun h => by omega⟩
  ·exact ⟨fun h => absurd h (by decide), fun h => by omega⟩
theorem cmpI_zero (x y : Int) : cmpI x y = 0 ↔ x = y := by
 unfold cmpI; split
 ·exact ⟨fun h => absurd h (by decide), fun h => by omega⟩
 ·split
  ·exact ⟨fun h => absurd h (by decide), fun h => by omega⟩
  ·exact ⟨fun _ => by omega, fun _ => rfl⟩
theorem half_nat (n : Nat) : shrI .u64 (n : Int) 1 = ((n / 2 : Nat) : Int) := by
 show (n : Int).fdiv (2 ^ 1) = _
 rw [Int.fdiv_eq_ediv_of_nonneg _ (by decide)]; omega
end Go.Proofs.YtcngmkjdpoiiaaaGreatDoor

/- Go's stable sort of members. Printed by gen.py. -/
set_option maxRecDepth 100000
namespace Go.Proofs.YtcngmkjdpoiiaaaGreatDoor
open Go Go.RowKit Go.Proofs Go.Sort
theorem blk_keep {a b x y : Nat} {d d' : Array Mem} (h : SortedIn bt x y d) (hp : PermIn a b d d') (hd : y ≤ a ∨ b ≤ x) : SortedIn bt x y d' := sortEq h fun k h1 h2 => hp.2.1 k (by omega)
theorem dvd_apart {sz x a : Nat} (h1 : sz ∣ x) (h2 : sz ∣ a) (h : x < a) : x + sz ≤ a := by
 obtain ⟨p, rfl⟩ := h1
 obtain ⟨q, rfl⟩ := h2
 have hpq : p < q := Nat.lt_of_mul_lt_mul_left h
 calc sz * p + sz = sz * (p + 1) := (Nat.mul_succ sz p).symm
  _ ≤ sz * q := Nat.mul_le_mul_left sz hpq
theorem dvd_apart' {sz x a : Nat} (h1 : sz ∣ x) (h2 : sz ∣ a) (h : x ≠ a) : x + sz ≤ a ∨ a + sz ≤ x := by
 rcases Nat.lt_or_gt_of_ne h with h | h
 ·exact .inl (dvd_apart h1 h2 h)
 ·exact .inr (dvd_apart h2 h1 h)
/-- All blocks of that size are in order. -/
def Blk (sz n : Nat) (d : Array Mem) : Prop := ∀ x, sz ∣ x → SortedIn bt x (min (x + sz) n) d
structure Half (sz n a : Nat) (e : Array Mem) : Prop where
 dv : 2 * sz ∣ a
 le : a ≤ n
 done : ∀ x, 2 * sz ∣ x → x + 2 * sz ≤ a → SortedIn bt x (x + 2 * sz) e
 todo : ∀ x, sz ∣ x → a ≤ x → SortedIn bt x (min (x + sz) n) e
theorem Half.start {sz n : Nat} {d : Array Mem} (h : Blk sz n d) (hp : 0 < sz) : Half sz n 0 d := ⟨⟨0, rfl⟩, Nat.zero_le _, fun x _ hx => by omega, fun x hx _ => h x hx⟩
theorem Half.next {sz n a : Nat} {e e' : Array Mem} (h : Half sz n a e) (hp : 0 < sz) (hn : a + 2 * sz ≤ n) (hpm : PermIn a (a + 2 * sz) e e') (hs : SortedIn bt a (a + 2 * sz) e') : Half sz n (a + 2 * sz) e' := by
 refine ⟨Nat.dvd_add h.dv (Nat.dvd_refl _), hn, fun x hx hx2 => ?_, fun x hx hx2 => ?_⟩
 ·by_cases he : x = a
  ·subst he; exact hs
  ·rcases dvd_apart' hx h.dv he with h1 | h1
   ·exact blk_keep (h.done x hx h1) hpm (.inl h1)
   ·omega
 ·exact blk_keep (h.todo x hx (by omega)) hpm (.inr hx2)
theorem Half.full {sz n a : Nat} {e : Array Mem} (h : Half sz n a e) (hp : 0 < sz) (hn : n < a + 2 * sz) (hs : SortedIn bt a n e) : Blk (2 * sz) n e := fun x hx => by
 by_cases he : x = a
 ·subst he; rw [Nat.min_eq_right (by omega)]; exact hs
 ·rcases dvd_apart' hx h.dv he with h1 | h1
  ·have := h.le; rw [Nat.min_eq_left (by omega)]; exact h.done x hx h1
  ·exact sorted_one (by omega)
theorem Half.keep {sz n a : Nat} {e e' : Array Mem} (h : Half sz n a e) (hp : PermIn a n e e') (hs : SortedIn bt a n e') (hz : 0 < sz) (hn : n < a + 2 * sz) : Blk (2 * sz) n e' := fun x hx => by
 by_cases he : x = a
 ·subst he; rw [Nat.min_eq_right (by omega)]; exact hs
 ·rcases dvd_apart' hx h.dv he with h1 | h1
  ·have := h.le; rw [Nat.min_eq_left (by omega)]; exact blk_keep (h.done x hx h1) hp (.inl h1)
  ·exact sorted_one (by omega)
end Go.Proofs.YtcngmkjdpoiiaaaGreatDoor

/- Walks: sums of two words, soundAccounts, fresh, New, Find. Printed by gen.py. -/
set_option maxRecDepth 100000
namespace Go.Proofs.YtcngmkjdpoiiaaaGreatDoor
open Go Go.RowKit Go.Proofs
/-- A sum as two words. -/
def sumC (S : Int) : List Value := [.int .u64 (S / 18446744073709551616), .int .u64 (S % 18446744073709551616)]
theorem sumC_one (S : Int) : ∀ v ∈ sumC S, v.oneCell' = true := by
 intro v hv; simp only [sumC, List.mem_cons, List.not_mem_nil, or_false] at hv; rcases hv with rfl | rfl <;> rfl
theorem sumC_zero (l : List Acc) : sumC (sumA (l.take 0)) = [.int .u64 0, .int .u64 0] := by simp [sumA, sumC]
def soundV (l : List Acc) : Value := .tuple #[.agg (sumC (if accE l = 0 then sumA l else 0)).toArray, .int .i64 (accE l)]
theorem soundV_bad {l : List Acc} {e : Int} (h : accE l = e) (he : e ≠ 0) : soundV l = .tuple #[.agg #[.int .u64 0, .int .u64 0], .int .i64 e] := by
 unfold soundV; rw [if_neg (by rw [h]; exact he), h]; rfl
theorem soundV_fine {l : List Acc} (h : accE l = 0) : soundV l = .tuple #[.agg (sumC (sumA l)).toArray, .int .i64 0] := by
 unfold soundV; rw [if_pos h, h]
/-- A ledger's cells. -/
def ledV (u r : Value) (b s : Int) : List Value := [u, r, .int .u64 b, .int .u64 s]
/-- The first place of what is asked for. -/
def idxG {α : Type} (p : α → Bool) (l : List α) : Int := match l.findIdx? p with | some i => i | none => -1
theorem idxG_hit {α : Type} {p : α → Bool} {l : List α} {i : Nat} {m : α} (h0 : ∀ j m', j < i → l[j]? = some m' → p m' = false) (hm : l[i]? = some m) (hp : p m = true) : idxG p l = i := by
 have : l.findIdx? p = some i := by
  rw [List.findIdx?_eq_some_iff_getElem]
  obtain ⟨hi, he⟩ := List.getElem?_eq_some_iff.1 hm
  exact ⟨hi, by rw [he]; exact hp, fun j hj => by have := h0 j _ hj (List.getElem?_eq_getElem (by omega)); simp [this]⟩
 unfold idxG; rw [this]
theorem idxG_none {α : Type} {p : α → Bool} {l : List α} (h0 : ∀ j m', j < l.length → l[j]? = some m' → p m' = false) : idxG p l = -1 := by
 have : l.findIdx? p = none := by
  rw [List.findIdx?_eq_none_iff]
  intro x hx
  obtain ⟨j, hj, rfl⟩ := List.getElem_of_mem hx
  exact h0 j _ hj (List.getElem?_eq_getElem hj)
 unfold idxG; rw [this]
theorem idxG_cases {α : Type} (p : α → Bool) (l : List α) : idxG p l = -1 ∨ ∃ i : Nat, i < l.length ∧ idxG p l = i := by
 unfold idxG
 cases h : l.findIdx? p with
 | none => exact .inl rfl
 | some i =>
  obtain ⟨hi, _⟩ := List.findIdx?_eq_some_iff_getElem.1 h
  exact .inr ⟨i, hi, rfl⟩
theorem idxG_pos {α : Type} {p : α → Bool} {l : List α} (h : ¬ idxG p l < 0) : ∃ i : Nat, i < l.length ∧ idxG p l = i := by
 rcases idxG_cases p l with h1 | h1
 ·omega
 ·exact h1
theorem no_next {α : Type} {p : α → Bool} {l : List α} {i : Nat} {x : α} (h0 : ∀ j m', j < i → l[j]? = some m' → p m' = false) (hx : l[i]? = some x) (hp : p x = false) : ∀ j m', j < i + 1 → l[j]? = some m' → p m' = false := fun j m' hj hm => by
 rcases Nat.lt_or_ge j i with h | h
 ·exact h0 j m' h hm
 ·obtain rfl : j = i := by omega
  rw [hx, Option.some.injEq] at hm; rw [← hm]; exact hp
def isAc (a : Int) (x : Acc) : Bool := decide (x.a = a)
def findE (l : List Acc) (a : Int) : Int := if idxG (isAc a) l < 0 ∨ a = 0 then 85 else 0
def findX (l : List Acc) (a : Int) : Acc := if idxG (isAc a) l < 0 ∨ a = 0 then acc0 else accAt l (idxG (isAc a) l).toNat
def findV (l : List Acc) (a : Int) : Value := .tuple #[.agg (findX l a).cells.toArray, .int .i64 (findE l a)]
theorem findV_no {l : List Acc} {a : Int} (h : idxG (isAc a) l < 0 ∨ a = 0) : findV l a = .tuple #[.agg acc0.cells.toArray, .int .i64 85] := by unfold findV findX findE; rw [if_pos h, if_pos h]
theorem findV_yes {l : List Acc} {a : Int} (h : ¬ (idxG (isAc a) l < 0 ∨ a = 0)) : findV l a = .tuple #[.agg (accAt l (idxG (isAc a) l).toNat).cells.toArray, .int .i64 0] := by unfold findV findX findE; rw [if_neg h, if_neg h]
theorem add64_run (x y c : Int) (hx : 0 ≤ x) (hy : 0 ≤ y) (hc0 : 0 ≤ c) (hc : c ≤ 1) (w : World) : (callFunc 219 #[.int .u64 x, .int .u64 y, .int .u64 c]).run Tryz.prog w = .ok (.value (.tuple #[.int .u64 ((x + y + c) % 18446744073709551616), .int .u64 ((x + y + c) / 18446744073709551616)])) w := by
 rw [run_callFunc_extern (fn := Tryz.f219) Tryz.func219 (by kernel_rfl) (by kernel_rfl) (by kernel_rfl) (e := add64Entry) (by kernel_rfl), run_add64 x y c hx hy hc0 hc]; rfl
theorem plus_ok {gl : Nat → Obj} (S n : Int) (h0 : 0 ≤ S) (h1 : S ≤ 1267650600228229401496703205376) (hn : u64 n) : SpecV (cx gl) 157 [.agg (sumC S).toArray, .int .u64 n] noPre (.agg (sumC (S + n)).toArray) := by
 refine Spec.enter (C := cx gl) Tryz.func157 rfl 20 rfl rfl fun w0 h0 hsep hsub hpre => ?_
 obtain rfl : h0 = Heap.none := hsep
 show St (cx gl) _ [(0, .agg (sumC (S)).toArray), (1, .int .u64 n)] _ _
 obtain ⟨hn0, hn1⟩ := hn
 refine rT ?_
 refine lO (W_box (sumC S) rfl rfl rfl rfl rfl fun b2 => ?_)
 refine lO (W_alloc rfl rfl rfl ty_ze_169 fun b4 => ?_)
 refine lQ (cE 1 rfl (cE 2 rfl (cE 4 rfl .nil))) (rT (lP (pF ty_fl_169_1) (k:=lV (vB ty_sc_23 .h1) (k:=lMv (k:=?_)))))
 refine lP (P_ext rfl rfl (fun w => add64_run (S % 18446744073709551616) n 0 (by omega) (by omega) (by omega) (by omega) w)) (k:=lMv (k:=lP pX (k:=lP pX (k:=lA (k:=lA (k:=?_))))))
 refine lQ (cE 2 rfl (cE 4 rfl (cE 5 rfl (cE 6 rfl .nil)))) (rT (lP (pF ty_fl_169_0) (k:=lV (vB ty_sc_23 .h1) (k:=lMv (k:=?_)))))
 refine lP (P_addN rfl rfl rfl (by simp only [fits]; omega)) (k:=lMv (k:=?_))
 refine lP (P_buildStruct rfl ty_pl_169 ty_ze_169 rfl rfl (rfl)) (k:=?_)
 refine E_as (t := 19) (v' := .agg (sumC (S + n)).toArray) rfl (by show Value.agg #[_, _] = Value.agg #[_, _]; rw [show S / 18446744073709551616 + (S % 18446744073709551616 + n + 0) / 18446744073709551616 = (S + n) / 18446744073709551616 by omega, show (S % 18446744073709551616 + n + 0) % 18446744073709551616 = (S + n) % 18446744073709551616 by omega]) ?_
 refine lO (W_storeAll rfl rfl rfl rfl ty_ag_169 (rfl) (sumC_one _) .h0 (rfl) ?_)
 refine lQ (cE 4 rfl .nil) (R_ret ?_)
 exact R_endV rfl rfl (.cell rfl (Rds.loadVar ty_ag_169 (Rds.blk .h0) rfl) .nil) (rfl)
theorem soundAcc_ok {gl : Nat → Obj} (base : Option Addr) (c : Nat) (l : List Acc) (hc : l.length ≤ c) (hm : l.length ≤ 65536)(hok : ∀ x ∈ l, x.ok) : SpecV (cx gl) 78 [.slice base l.length c] (fun w => Row w base (rc l)) (soundV l) := by
 refine Spec.enter (C := cx gl) Tryz.func78 rfl 53 rfl rfl fun w0 h0 hsep hsub hpre => ?_
 obtain rfl : h0 = Heap.none := hsep
 show St (cx gl) _ [(0, .slice base l.length c)] _ _
 have hms : MS = 1152921504606846975 := rfl
 refine rT ?_
 refine lO (W_alloc rfl rfl rfl ty_ze_169 fun b2 => lA (k:=?_))
 refine L_nil (qT (rT ?_))
 refine lO (W_alloc rfl rfl rfl ty_ze_169 fun b4 => ?_)
 refine L_nil (qT (rS (rT (lMv (k:=lP (pL ty_sl_22) (k:=lMv (k:=?_)))))))
 refine L_nil (qT (R_block ?_))
 refine R_loopE (G := Nat) (cE 0 rfl (cE 2 rfl (cE 3 rfl (cE 4 rfl (cE 7 rfl (cE 8 rfl .nil)))))) (fun g => [(9, .int .i64 (g : Int))]) (fun g => [blk b4 (sumC (sumA (l.take g))) 169, blk b2 [.int .u64 0, .int .u64 0] 169]) (fun g => g ≤ l.length ∧ firstE (accBad l) g = 0) (fun g => l.length - g) (0) (by show (0) ≤ l.length ∧ firstE (accBad l) (0) = 0; exact ⟨Nat.zero_le _, rfl⟩) (by repeat (first | exact .nil | refine .cons rfl ?_ | refine .consE rfl (by first | rfl | (congr 1; omega) | (congr 1; push_cast; omega)) ?_)) (by rw [sumC_zero]; exact Weak.refl _) ?_
 intro i hinv
 replace hinv : i ≤ l.length ∧ firstE (accBad l) i = 0 := hinv
 show St (cx gl) _ ((9, .int .i64 (i : Int)) :: _) [blk b4 (sumC (sumA (l.take i))) 169, blk b2 [.int .u64 0, .int .u64 0] 169] _
 obtain ⟨hi, h0⟩ := hinv
 refine rT (lP pLt (k:=?_))
 refine L_nil (qT (rS ?_))
 refine R_condP rfl (fun hlt => ?_) (fun hlt => ?_)
 ·skip
  have hx0 := accAt_get (l := l) (i := i) (by omega)
  obtain ⟨x, ex⟩ : ∃ x, x = accAt l i := ⟨_, rfl⟩
  have hx : l[i]? = some x := by rw [ex]; exact hx0
  obtain ⟨pb, pj, rfl, hrow⟩ := hpre.some_ (by rw [rc_length]; show 0 < _ * 5; omega)
  obtain ⟨⟨ha1, ha2⟩, hb1, hb2, hb3⟩ := hok x (List.mem_of_getElem? hx)
  have hS := sumA_le i hi h0
  rw [hms] at hS
  have hSn : 0 ≤ sumA (l.take i) := sumA_nn fun y hy => hok y (List.mem_of_mem_take hy)
  refine R_skip (qT (rS (R_block (rT (lMv (k:=?_))))))
  refine lP (P_ixs (i) rfl ty_sl_22 rfl rfl (by first | rfl | omega) (by omega)) (k:=?_)
  refine lV (V_loadAgg rfl rfl ty_ag_50 (rds_rc (Rds.row hrow rfl) hx) (rfl)) (k:=?_)
  refine lO (W_alloc rfl rfl rfl ty_ze_50 fun b6 => lA (k:=?_))
  refine lO (W_storeAll rfl rfl rfl rfl ty_ag_50 (rfl) (Rec.one x) .h0 (rfl) ?_)
  refine L_nil (qT (rS (R_block (rT (lP (pF ty_fl_50_0) (k:=lV (vB ty_sc_26 .h0) (k:=lP pEq (k:=lA (k:=?_)))))))))
  refine L_nil (qT ?_)
  refine R_condP rfl (fun ha => ?_) (fun ha => ?_)
  ·skip
   refine rT ?_
   refine lP (P_buildStruct rfl ty_pl_169 ty_ze_169 rfl rfl (rfl)) (k:=?_)
   refine E_as (t := 18) (v' := .agg [.int .u64 0, .int .u64 0].toArray) rfl (rfl) ?_
   refine lO (W_storeAll rfl rfl rfl rfl ty_ag_169 (rfl) (sumC_one 0) .h2 (rfl) (lA (k:=?_)))
   refine L_nil (qT (R_ret (Q_block_ret (Q_then_ret (Q_block_ret (Q_then_ret (Q_then_ret (Q_block_ret (Q_then_ret ?_)))))))))
   exact R_endV rfl rfl (.cell rfl (Rds.loadVar ty_ag_169 (Rds.blk .h2) rfl) (.tmp rfl .nil)) (by have h9 : accE l = 85 := firstE_hit h0 (show accBad l i = 85 by unfold accBad; rw [← ex]; rw [if_pos ha]) (by decide) (by omega); rw [soundV_bad h9 (by decide)]; rfl)
  ·skip
   refine rS ?_
   refine R_open [(0, 0), (1, 0), (2, 0), (3, 0), (4, 1), (5, 0), (6, 0), (7, 0), (8, 0), (9, 0), (10, 1), (11, 0), (12, 0), (13, 0)] mixed (by kernel_rfl) (QOk.then (QOk.block (QOk.then (QOk.block (QOk.then (QOk.then (QOk.block (QOk.then QOk.body)))))))) (oP rfl pM (k:=oP rfl pGt (k:=?_)))
   refine E_bool (t := 21) rfl (fun hi0 => ?_) (fun hi0 => ?_)
   ·skip
    have hi0 := of_decide_eq_true hi0
    obtain ⟨y, ey⟩ : ∃ y, y = accAt l (i - 1) := ⟨_, rfl⟩
    have hy : l[i - 1]? = some y := by rw [ey]; exact accAt_get (by omega)
    refine oP rfl pM (k:=oP rfl (pF ty_fl_50_0) (k:=oV rfl (vB ty_sc_26 .h0) (k:=oP rfl pM (k:=oP rfl pM (k:=?_)))))
    first | (refine O_pure rfl rfl rfl rfl (P_subN rfl rfl rfl (by simp only [fits]; omega)) ?_) | (refine O_pure rfl rfl rfl rfl (P_sub rfl rfl rfl) ?_)
    refine oP rfl (P_ixs (i - 1) rfl ty_sl_22 rfl rfl (by first | rfl | omega) (by omega)) (k:=oP rfl (pG ty_fl_50_0) (k:=?_))
    refine oV rfl (V_load rfl rfl ty_sc_26 (rd_rc (Rds.row hrow rfl) hy rfl)) (k:=oP rfl pLe (k:=oP rfl pK (k:=oP rfl pA (k:=O_nil (qT ?_)))))
    refine R_condP rfl (fun hle => ?_) (fun hle => ?_)
    ·skip
     refine rT ?_
     refine lP (P_buildStruct rfl ty_pl_169 ty_ze_169 rfl rfl (rfl)) (k:=?_)
     refine E_as (t := 33) (v' := .agg [.int .u64 0, .int .u64 0].toArray) rfl (rfl) ?_
     refine lO (W_storeAll rfl rfl rfl rfl ty_ag_169 (rfl) (sumC_one 0) .h2 (rfl) (lA (k:=?_)))
     refine L_nil (qT (R_ret (Q_block_ret (Q_then_ret (Q_block_ret (Q_then_ret (Q_then_ret (Q_block_ret (Q_then_ret ?_)))))))))
     exact R_endV rfl rfl (.cell rfl (Rds.loadVar ty_ag_169 (Rds.blk .h2) rfl) (.tmp rfl .nil)) (by have h9 : accE l = 42 := firstE_hit h0 (show accBad l i = 42 by unfold accBad; rw [← ex]; rw [if_neg ha, if_pos ⟨by omega, by rw [← ey]; exact hle⟩]) (by decide) (by omega); rw [soundV_bad h9 (by decide)]; rfl)
    ·skip
     have hn42 : ¬ (0 < i ∧ x.a ≤ (accAt l (i - 1)).a) := by rw [← ey]; omega
     refine rT (lP (pF ty_fl_50_1) (k:=lV (vB ty_sc_23 .h0) (k:=lP pGt (k:=?_))))
     refine E_bool (t := 37) rfl (fun hb => ?_) (fun hb => ?_)
     ·skip
      have hb := of_decide_eq_true hb
      refine lMv (k:=lN (k:=lN (k:=lN (k:=lP pK (k:=lA (k:=?_))))))
      refine L_nil (qT (kT (k:=rT ?_)))
      refine lP (P_buildStruct rfl ty_pl_169 ty_ze_169 rfl rfl (rfl)) (k:=?_)
      refine E_as (t := 43) (v' := .agg [.int .u64 0, .int .u64 0].toArray) rfl (rfl) ?_
      refine lO (W_storeAll rfl rfl rfl rfl ty_ag_169 (rfl) (sumC_one 0) .h2 (rfl) (lA (k:=?_)))
      refine L_nil (qT (R_ret (Q_block_ret (Q_then_ret (Q_block_ret (Q_then_ret (Q_then_ret (Q_block_ret (Q_then_ret ?_)))))))))
      exact R_endV rfl rfl (.cell rfl (Rds.loadVar ty_ag_169 (Rds.blk .h2) rfl) (.tmp rfl .nil)) (by have h9 : accE l = 87 := firstE_hit h0 (show accBad l i = 87 by unfold accBad; rw [← ex]; rw [if_neg ha, if_neg hn42, if_pos (by omega)]) (by decide) (by omega); rw [soundV_bad h9 (by decide)]; rfl)
     ·skip
      have hb := of_decide_eq_false hb
      refine lMv (k:=lP (pF ty_fl_50_2) (k:=lV (vB ty_sc_23 .h0) (k:=lP pGt (k:=lP pK (k:=lA (k:=?_))))))
      refine L_nil (qT ?_)
      refine R_condP rfl (fun hd => ?_) (fun hd => ?_)
      ·skip
       refine rT ?_
       refine lP (P_buildStruct rfl ty_pl_169 ty_ze_169 rfl rfl (rfl)) (k:=?_)
       refine E_as (t := 43) (v' := .agg [.int .u64 0, .int .u64 0].toArray) rfl (rfl) ?_
       refine lO (W_storeAll rfl rfl rfl rfl ty_ag_169 (rfl) (sumC_one 0) .h2 (rfl) (lA (k:=?_)))
       refine L_nil (qT (R_ret (Q_block_ret (Q_then_ret (Q_block_ret (Q_then_ret (Q_then_ret (Q_block_ret (Q_then_ret ?_)))))))))
       exact R_endV rfl rfl (.cell rfl (Rds.loadVar ty_ag_169 (Rds.blk .h2) rfl) (.tmp rfl .nil)) (by have h9 : accE l = 87 := firstE_hit h0 (show accBad l i = 87 by unfold accBad; rw [← ex]; rw [if_neg ha, if_neg hn42, if_pos (by omega)]) (by decide) (by omega); rw [soundV_bad h9 (by decide)]; rfl)
      ·skip
       refine R_skip (Q_block (qT ?_))
       refine R_open [(0, 1), (1, 0), (2, 1), (4, 0), (5, 1), (3, 2), (6, 2), (7, 3)] mixed (by kernel_rfl) (QOk.block (QOk.then (QOk.then (QOk.block (QOk.then QOk.body))))) (oV rfl (vG ty_ag_169 .h1) (k:=oP rfl (pF ty_fl_50_1) (k:=oV rfl (vB ty_sc_23 .h0) (k:=oP rfl (pF ty_fl_50_2) (k:=oV rfl (vB ty_sc_23 .h0) (k:=?_))))))
       refine O_keep rfl rfl (W_callV rfl rfl rfl rfl fn_ca_157 (plus_ok (sumA (l.take i)) x.bal hSn (by omega) hb1) (fun _ _ => trivial) (K_keep (Weak.refl _) ?_))
       refine O_keep rfl rfl (W_callV rfl rfl rfl rfl fn_ca_157 (plus_ok (sumA (l.take i) + x.bal) x.bond (by have := hb1.1; omega) (by have := hb1.2; omega) hb2) (fun _ _ => trivial) (K_keep (Weak.refl _) ?_))
       refine O_new rfl rfl (W_storeAll rfl rfl rfl rfl ty_ag_169 (rfl) (sumC_one _) .h1 (rfl) (K_new (O_nil (Q_block (qT (rR ?_))))))
       first | (refine L_val rfl rfl rfl (OpP.v (P_addN rfl rfl rfl (by simp only [fits]; omega))) ?_) | (refine L_val rfl rfl rfl (OpP.v (P_add rfl rfl rfl)) ?_)
       refine lMv (k:=?_)
       refine L_nil ?_
       exact Q_round (i + 1) (by show (i + 1) ≤ l.length ∧ firstE (accBad l) (i + 1) = 0; exact ⟨by omega, firstE_next h0 (by unfold accBad; rw [← ex, if_neg ha, if_neg hn42, if_neg (by omega)])⟩) (by show l.length - (i + 1) < l.length - i; omega) (by repeat (first | exact .nil | refine .cons rfl ?_ | refine .consE rfl (by first | rfl | (congr 1; omega) | (congr 1; push_cast; omega)) ?_)) (by rw [sumA_snoc hx, ← Int.add_assoc]; exact Weak.drop (Weak.refl _))
   ·skip
    have hi0 := of_decide_eq_false hi0
    have hn42 : ¬ (0 < i ∧ x.a ≤ (accAt l (i - 1)).a) := by omega
    refine oP rfl pM (k:=?_)
    refine O_no rfl rfl rfl rfl ?_
    refine O_noX rfl rfl rfl rfl ?_
    refine O_no rfl rfl rfl rfl ?_
    refine O_no rfl rfl rfl rfl ?_
    refine O_no rfl rfl rfl rfl ?_
    refine O_no rfl rfl rfl rfl ?_
    refine O_no rfl rfl rfl rfl ?_
    refine O_noX rfl rfl rfl rfl ?_
    refine O_no rfl rfl rfl rfl (oP rfl pK (k:=oP rfl pA (k:=O_nil (qT (kF (k:=rT (lP (pF ty_fl_50_1) (k:=lV (vB ty_sc_23 .h0) (k:=lP pGt (k:=?_))))))))))
    refine E_bool (t := 37) rfl (fun hb => ?_) (fun hb => ?_)
    ·skip
     have hb := of_decide_eq_true hb
     refine lMv (k:=lN (k:=lN (k:=lN (k:=lP pK (k:=lA (k:=?_))))))
     refine L_nil (qT (kT (k:=rT ?_)))
     refine lP (P_buildStruct rfl ty_pl_169 ty_ze_169 rfl rfl (rfl)) (k:=?_)
     refine E_as (t := 43) (v' := .agg [.int .u64 0, .int .u64 0].toArray) rfl (rfl) ?_
     refine lO (W_storeAll rfl rfl rfl rfl ty_ag_169 (rfl) (sumC_one 0) .h2 (rfl) (lA (k:=?_)))
     refine L_nil (qT (R_ret (Q_block_ret (Q_then_ret (Q_block_ret (Q_then_ret (Q_then_ret (Q_block_ret (Q_then_ret ?_)))))))))
     exact R_endV rfl rfl (.cell rfl (Rds.loadVar ty_ag_169 (Rds.blk .h2) rfl) (.tmp rfl .nil)) (by have h9 : accE l = 87 := firstE_hit h0 (show accBad l i = 87 by unfold accBad; rw [← ex]; rw [if_neg ha, if_neg hn42, if_pos (by omega)]) (by decide) (by omega); rw [soundV_bad h9 (by decide)]; rfl)
    ·skip
     have hb := of_decide_eq_false hb
     refine lMv (k:=lP (pF ty_fl_50_2) (k:=lV (vB ty_sc_23 .h0) (k:=lP pGt (k:=lP pK (k:=lA (k:=?_))))))
     refine L_nil (qT ?_)
     refine R_condP rfl (fun hd => ?_) (fun hd => ?_)
     ·skip
      refine rT ?_
      refine lP (P_buildStruct rfl ty_pl_169 ty_ze_169 rfl rfl (rfl)) (k:=?_)
      refine E_as (t := 43) (v' := .agg [.int .u64 0, .int .u64 0].toArray) rfl (rfl) ?_
      refine lO (W_storeAll rfl rfl rfl rfl ty_ag_169 (rfl) (sumC_one 0) .h2 (rfl) (lA (k:=?_)))
      refine L_nil (qT (R_ret (Q_block_ret (Q_then_ret (Q_block_ret (Q_then_ret (Q_then_ret (Q_block_ret (Q_then_ret ?_)))))))))
      exact R_endV rfl rfl (.cell rfl (Rds.loadVar ty_ag_169 (Rds.blk .h2) rfl) (.tmp rfl .nil)) (by have h9 : accE l = 87 := firstE_hit h0 (show accBad l i = 87 by unfold accBad; rw [← ex]; rw [if_neg ha, if_neg hn42, if_pos (by omega)]) (by decide) (by omega); rw [soundV_bad h9 (by decide)]; rfl)
     ·skip
      refine R_skip (Q_block (qT ?_))
      refine R_open [(0, 1), (1, 0), (2, 1), (4, 0), (5, 1), (3, 2), (6, 2), (7, 3)] mixed (by kernel_rfl) (QOk.block (QOk.then (QOk.then (QOk.block (QOk.then QOk.body))))) (oV rfl (vG ty_ag_169 .h1) (k:=oP rfl (pF ty_fl_50_1) (k:=oV rfl (vB ty_sc_23 .h0) (k:=oP rfl (pF ty_fl_50_2) (k:=oV rfl (vB ty_sc_23 .h0) (k:=?_))))))
      refine O_keep rfl rfl (W_callV rfl rfl rfl rfl fn_ca_157 (plus_ok (sumA (l.take i)) x.bal hSn (by omega) hb1) (fun _ _ => trivial) (K_keep (Weak.refl _) ?_))
      refine O_keep rfl rfl (W_callV rfl rfl rfl rfl fn_ca_157 (plus_ok (sumA (l.take i) + x.bal) x.bond (by have := hb1.1; omega) (by have := hb1.2; omega) hb2) (fun _ _ => trivial) (K_keep (Weak.refl _) ?_))
      refine O_new rfl rfl (W_storeAll rfl rfl rfl rfl ty_ag_169 (rfl) (sumC_one _) .h1 (rfl) (K_new (O_nil (Q_block (qT (rR ?_))))))
      first | (refine L_val rfl rfl rfl (OpP.v (P_addN rfl rfl rfl (by simp only [fits]; omega))) ?_) | (refine L_val rfl rfl rfl (OpP.v (P_add rfl rfl rfl)) ?_)
      refine lMv (k:=?_)
      refine L_nil ?_
      exact Q_round (i + 1) (by show (i + 1) ≤ l.length ∧ firstE (accBad l) (i + 1) = 0; exact ⟨by omega, firstE_next h0 (by unfold accBad; rw [← ex, if_neg ha, if_neg hn42, if_neg (by omega)])⟩) (by show l.length - (i + 1) < l.length - i; omega) (by repeat (first | exact .nil | refine .cons rfl ?_ | refine .consE rfl (by first | rfl | (congr 1; omega) | (congr 1; push_cast; omega)) ?_)) (by rw [sumA_snoc hx, ← Int.add_assoc]; exact Weak.drop (Weak.refl _))
 ·skip
  have hin : i = l.length := by omega
  rw [hin] at h0
  rw [hin, List.take_length]
  refine R_exit (Q_then_exit (Q_then_exit (Q_block_eq ?_)))
  refine St.env (cE 2 rfl (cE 3 rfl (cE 4 rfl .nil))) (qT (rT (lV (vG ty_ag_169 .h0) (k:=?_))))
  refine lO (W_storeAll rfl rfl rfl rfl ty_ag_169 (rfl) (sumC_one _) .h1 (rfl) (lA (k:=?_)))
  refine lQ (cE 2 rfl (cE 3 rfl .nil)) (R_ret ?_)
  exact R_endV rfl rfl (.cell rfl (Rds.loadVar ty_ag_169 (Rds.blk .h1) rfl) (.tmp rfl .nil)) (by rw [soundV_fine h0]; rfl)
theorem freshA_ok {gl : Nat → Obj} (base : Option Addr) (c : Nat) (l : List Acc) (hc : l.length ≤ c) (hm : l.length ≤ 5000000000000) : Spec (cx gl) 79 [.slice base l.length c] (fun w h => Seen w h base (rc l)) [] (fun v rs => rs = [ownS 50 5 (v) (l.length) (rc (l))]) := by
 refine Spec.enter (C := cx gl) Tryz.func79 rfl 7 rfl rfl fun w0 h0 hsep hsub hpre => ?_
 obtain rfl : h0 = Heap.none := hsep
 show St (cx gl) _ [(0, .slice base l.length c)] _ _
 refine rT (lA (k:=?_))
 refine L_nil (qT (rT (lMv (k:=?_))))
 refine lP (P_slice3 0 0 0 rfl ty_sl_22 rfl rfl rfl rfl (by omega) (by omega) (by omega)) (k:=?_)
 refine E_as (t := 4) (v' := .slice base 0 0) rfl (rfl) ?_
 refine St.res (rs' := [ownS 50 5 (.slice base 0 0) 0 (rc ([] : List Acc))]) (Weak.newNil0) (lMv (k:=?_))
 refine lO (W_append (p := []) rfl rfl rfl ty_sl_22 ty_ap_22 ty_src_22 rfl rfl rfl (Src.row (sz := 5) (Sn.old hpre).rw_ (rc_length l) (rc_one l)) (by omega) (by simp only [maxLen]; omega) fun v6 => lA (k:=?_))
 refine lQ (cE 2 rfl .nil) (R_ret ?_)
 exact R_end (rs2 := _) rfl rfl (.tmp rfl .nil) (rfl) (ownS.to2 (by omega) rfl)
theorem freshR_ok {gl : Nat → Obj} (base : Option Addr) (c : Nat) (l : List Rel) (hc : l.length ≤ c) (hm : l.length ≤ 6250000000000) : Spec (cx gl) 80 [.slice base l.length c] (fun w h => Seen w h base (rc l)) [] (fun v rs => rs = [ownS 175 4 (v) (l.length) (rc (l))]) := by
 refine Spec.enter (C := cx gl) Tryz.func80 rfl 7 rfl rfl fun w0 h0 hsep hsub hpre => ?_
 obtain rfl : h0 = Heap.none := hsep
 show St (cx gl) _ [(0, .slice base l.length c)] _ _
 refine rT (lA (k:=?_))
 refine L_nil (qT (rT (lMv (k:=?_))))
 refine lP (P_slice3 0 0 0 rfl ty_sl_28 rfl rfl rfl rfl (by omega) (by omega) (by omega)) (k:=?_)
 refine E_as (t := 4) (v' := .slice base 0 0) rfl (rfl) ?_
 refine St.res (rs' := [ownS 175 4 (.slice base 0 0) 0 (rc ([] : List Rel))]) (Weak.newNil0) (lMv (k:=?_))
 refine lO (W_append (p := []) rfl rfl rfl ty_sl_28 ty_ap_28 ty_src_28 rfl rfl rfl (Src.row (sz := 4) (Sn.old hpre).rw_ (rc_length l) (rc_one l)) (by omega) (by simp only [maxLen]; omega) fun v6 => lA (k:=?_))
 refine lQ (cE 2 rfl .nil) (R_ret ?_)
 exact R_end (rs2 := _) rfl rfl (.tmp rfl .nil) (rfl) (ownS.to2 (by omega) rfl)
theorem ledV_one (u r : Value) (b s : Int) (hu : u.oneCell' = true) (hr : r.oneCell' = true) : ∀ v ∈ ledV u r b s, v.oneCell' = true := by
 intro v hv; simp only [ledV, List.mem_cons, List.not_mem_nil, or_false] at hv; rcases hv with rfl | rfl | rfl | rfl <;> first | assumption | rfl
theorem find1_ok {gl : Nat → Obj} (ab : Nat) (a : Int) (x : Acc) : SpecV (cx gl) 162 [.agg x.cells.toArray, .pointer (some ⟨ab, 0, none⟩)] (fun w => w.cell? ⟨ab, 0, none⟩ = some (.int .u64 a)) (.bool (isAc a x)) := by
 refine Spec.enter (C := cx gl) Tryz.func162 rfl 8 rfl rfl fun w0 h0 hsep hsub hpre => ?_
 obtain rfl : h0 = Heap.none := hsep
 show St (cx gl) _ [(0, .agg x.cells.toArray), (1, .pointer (some ⟨ab, 0, none⟩))] _ _
 refine rT ?_
 refine lO (W_box (x.cells) rfl rfl rfl rfl rfl fun b2 => lA (k:=?_))
 refine lQ (cE 1 rfl (cE 2 rfl (cE 3 rfl .nil))) (rT (lP (pF ty_fl_50_0) (k:=lV (vB ty_sc_26 .h0) (k:=?_))))
 refine lV (V_load rfl rfl ty_sc_26 (Rd.old hpre rfl)) (k:=lP pEq (k:=lA (k:=?_)))
 refine lQ (cE 3 rfl .nil) (R_ret ?_)
 exact R_endV rfl rfl (.tmp rfl .nil) (rfl)
theorem ixA_ok {gl : Nat → Obj} (ab : Nat) (a : Int) (base : Option Addr) (c : Nat) (l : List Acc) (hc : l.length ≤ c) (hm : l.length ≤ 5000000000000) : SpecV (cx gl) 161 [.slice base l.length c, .func (.func 162) #[] #[.pointer (some ⟨ab, 0, none⟩)]] (fun w => Row w base (rc l) ∧ w.cell? ⟨ab, 0, none⟩ = some (.int .u64 a)) (.int .i64 (idxG (isAc a) l)) := by
 refine Spec.enter (C := cx gl) Tryz.func161 rfl 19 rfl rfl fun w0 h0 hsep hsub hpre => ?_
 obtain rfl : h0 = Heap.none := hsep
 show St (cx gl) _ [(0, .slice base l.length c), (1, .func (.func 162) #[] #[.pointer (some ⟨ab, 0, none⟩)])] _ _
 refine rT (lA (k:=?_))
 refine L_nil (qT (rS (rT (lMv (k:=lP (pL ty_sl_22) (k:=lMv (k:=?_)))))))
 refine lQ (cE 0 rfl (cE 1 rfl (cE 4 rfl (cE 7 rfl (cE 8 rfl .nil))))) (R_block ?_)
 refine R_loopE (G := Nat) (cE 0 rfl (cE 1 rfl (cE 4 rfl (cE 7 rfl .nil)))) (fun g => [(8, .int .i64 (g : Int))]) (fun _ => _) (fun g => g ≤ l.length ∧ ∀ j m', j < g → l[j]? = some m' → isAc a m' = false) (fun g => l.length - g) (0) (by show (0) ≤ l.length ∧ ∀ j m', j < (0) → l[j]? = some m' → isAc a m' = false; exact ⟨Nat.zero_le _, fun j _ h => by omega⟩) (by repeat (first | exact .nil | refine .cons rfl ?_ | refine .consE rfl (by first | rfl | (congr 1; omega) | (congr 1; push_cast; omega)) ?_)) (Weak.refl _) ?_
 intro i hinv
 replace hinv : i ≤ l.length ∧ ∀ j m', j < i → l[j]? = some m' → isAc a m' = false := hinv
 show St (cx gl) _ ((8, .int .i64 (i : Int)) :: _) _ _
 obtain ⟨hi, h0⟩ := hinv
 refine rT (lP pLt (k:=?_))
 refine L_nil (qT (rS ?_))
 refine R_condP rfl (fun hlt => ?_) (fun hlt => ?_)
 ·skip
  obtain ⟨x, hx⟩ : ∃ x, l[i]? = some x := ⟨_, List.getElem?_eq_getElem (by omega)⟩
  obtain ⟨pb, pj, rfl, hrow⟩ := hpre.1.some_ (by rw [rc_length]; show 0 < _ * 5; omega)
  refine R_skip (qT (rS (R_block (rT (lMv (k:=lA (k:=?_)))))))
  refine L_nil (qT (rT (lMv (k:=lMv (k:=lMv (k:=?_))))))
  refine lP (P_ixs (i) rfl ty_sl_22 rfl rfl (by first | rfl | omega) (by omega)) (k:=?_)
  refine lV (V_loadAgg rfl rfl ty_ag_50 (rds_rc (Rds.row hrow rfl) hx) (rfl)) (k:=?_)
  refine lO (W_callFV (fi := []) (ca := [.pointer (some ⟨ab, 0, none⟩)]) rfl rfl rfl rfl rfl rfl fn_ca_162 (find1_ok ab a x) (fun w nw => (Rd.old hpre.2 rfl) w nw) ?_)
  refine L_nil (qT ?_)
  refine R_cond rfl (fun hp => ?_) (fun hp => ?_)
  ·skip
   refine rT (lMv (k:=lA (k:=?_)))
   refine L_nil (qT (R_ret (Q_block_ret (Q_then_ret (Q_then_ret (Q_block_ret (Q_then_ret ?_)))))))
   exact R_endV rfl rfl (.tmp rfl .nil) (by rw [idxG_hit h0 hx hp]; rfl)
  ·skip
   refine R_skip (Q_block (qT (rR ?_)))
   first | (refine L_val rfl rfl rfl (OpP.v (P_addN rfl rfl rfl (by simp only [fits]; omega))) ?_) | (refine L_val rfl rfl rfl (OpP.v (P_add rfl rfl rfl)) ?_)
   refine lMv (k:=?_)
   refine L_nil ?_
   exact Q_round (i + 1) (by show (i + 1) ≤ l.length ∧ ∀ j m', j < (i + 1) → l[j]? = some m' → isAc a m' = false; exact ⟨by omega, no_next h0 hx hp⟩) (by show l.length - (i + 1) < l.length - i; omega) (by repeat (first | exact .nil | refine .cons rfl ?_ | refine .consE rfl (by first | rfl | (congr 1; omega) | (congr 1; push_cast; omega)) ?_)) (Weak.refl _)
 ·skip
  refine R_exit (Q_then_exit (Q_then_exit (Q_block_eq ?_)))
  refine St.env (cE 4 rfl .nil) (qT (rT (lA (k:=?_))))
  refine L_nil (qT (R_ret ?_))
  exact R_endV rfl rfl (.tmp rfl .nil) (by rw [idxG_none fun j m' hj hm' => h0 j m' (by omega) hm']; rfl)
theorem find_ok {gl : Nat → Obj} (base : Option Addr) (c : Nat) (l : List Acc) (hc : l.length ≤ c) (hm : l.length ≤ 5000000000000) (r : Value) (hr : r.oneCell' = true) (bu su a : Int) : SpecV (cx gl) 75 [.agg (ledV (.slice base l.length c) r bu su).toArray, .int .u64 a] (fun w => Row w base (rc l)) (findV l a) := by
 refine Spec.enter (C := cx gl) Tryz.func75 rfl 23 rfl rfl fun w0 h0 hsep hsub hpre => ?_
 obtain rfl : h0 = Heap.none := hsep
 show St (cx gl) _ [(0, .agg (ledV (.slice base l.length c) r bu su).toArray), (1, .int .u64 a)] _ _
 refine rT ?_
 refine lO (W_box (ledV (.slice base l.length c) r bu su) rfl rfl rfl rfl rfl fun b2 => ?_)
 refine lO (W_box ([.int .u64 a]) rfl rfl rfl rfl rfl fun b3 => ?_)
 refine lO (W_alloc rfl rfl rfl ty_ze_50 fun b4 => lA (k:=?_))
 refine lQ (cE 2 rfl (cE 3 rfl (cE 4 rfl (cE 5 rfl .nil)))) (rT (lP (pF ty_fl_30_0) (k:=lV (vB ty_sc_22 .h2) (k:=?_))))
 refine lP (P_func rfl rfl rfl) (k:=?_)
 refine lO (W_callV rfl rfl rfl rfl fn_ca_161 (ixA_ok b3 a base c l hc hm) (fun w nw => ⟨(Sn.row hpre rfl).rw_ w nw, Rd.blk .h1 rfl w nw⟩) (lA (k:=?_)))
 refine lQ (cE 2 rfl (cE 3 rfl (cE 4 rfl (cE 5 rfl (cE 6 rfl .nil))))) (rS (rT (lMv (k:=lP pLt (k:=?_)))))
 refine E_bool (t := 12) rfl (fun hn => ?_) (fun hn => ?_)
 ·skip
  have hn := of_decide_eq_true hn
  have hno : idxG (isAc a) l < 0 ∨ a = 0 := .inl hn
  refine lMv (k:=lN (k:=lN (k:=lP pK (k:=?_))))
  refine lQ (cE 2 rfl (cE 4 rfl (cE 5 rfl (cE 6 rfl (cE 16 rfl .nil))))) (kT (k:=rT ?_))
  refine lP (P_buildStruct rfl ty_pl_50 ty_ze_50 rfl rfl (rfl)) (k:=?_)
  refine E_as (t := 17) (v' := .agg acc0.cells.toArray) rfl (rfl) ?_
  refine lO (W_storeAll rfl rfl rfl rfl ty_ag_50 (rfl) (Rec.one acc0) .h0 (rfl) (lA (k:=?_)))
  refine lQ (cE 2 rfl (cE 4 rfl (cE 5 rfl (cE 6 rfl .nil)))) (R_ret (Q_then_ret ?_))
  exact R_endV rfl rfl (.cell rfl (Rds.loadVar ty_ag_50 (Rds.blk .h0) rfl) (.tmp rfl .nil)) (by rw [findV_no hno]; rfl)
 ·skip
  have hn := of_decide_eq_false hn
  refine lMv (k:=lV (vB ty_sc_26 .h1) (k:=lP pEq (k:=lP pK (k:=?_))))
  refine lQ (cE 2 rfl (cE 4 rfl (cE 5 rfl (cE 6 rfl (cE 16 rfl .nil))))) ?_
  refine R_condP rfl (fun hz => ?_) (fun hz => ?_)
  ·skip
   have hno : idxG (isAc a) l < 0 ∨ a = 0 := .inr hz
   refine rT ?_
   refine lP (P_buildStruct rfl ty_pl_50 ty_ze_50 rfl rfl (rfl)) (k:=?_)
   refine E_as (t := 17) (v' := .agg acc0.cells.toArray) rfl (rfl) ?_
   refine lO (W_storeAll rfl rfl rfl rfl ty_ag_50 (rfl) (Rec.one acc0) .h0 (rfl) (lA (k:=?_)))
   refine lQ (cE 2 rfl (cE 4 rfl (cE 5 rfl (cE 6 rfl .nil)))) (R_ret (Q_then_ret ?_))
   exact R_endV rfl rfl (.cell rfl (Rds.loadVar ty_ag_50 (Rds.blk .h0) rfl) (.tmp rfl .nil)) (by rw [findV_no hno]; rfl)
  ·skip
   have hno : ¬ (idxG (isAc a) l < 0 ∨ a = 0) := by omega
   obtain ⟨i, hi, hix⟩ := idxG_pos (p := isAc a) (l := l) (by omega)
   have hx := accAt_get hi
   obtain ⟨pb, pj, rfl, hrow⟩ := hpre.some_ (by rw [rc_length]; show 0 < _ * 5; omega)
   refine E_as (t := 6) (v' := .int .i64 (i : Int)) rfl (by rw [hix]) (R_skip (qT (rT (lP (pF ty_fl_30_0) (k:=lV (vB ty_sc_22 .h2) (k:=lMv (k:=?_)))))))
   refine lP (P_ixs (i) rfl ty_sl_22 rfl rfl (by first | rfl | omega) (by omega)) (k:=?_)
   refine lV (V_loadAgg rfl rfl ty_ag_50 (rds_rc (Rds.row hrow rfl) hx) (rfl)) (k:=?_)
   refine lO (W_storeAll rfl rfl rfl rfl ty_ag_50 (rfl) (Rec.one (accAt l i)) .h0 (rfl) (lA (k:=?_)))
   refine lQ (cE 4 rfl (cE 5 rfl .nil)) (R_ret ?_)
   exact R_endV rfl rfl (.cell rfl (Rds.loadVar ty_ag_50 (Rds.blk .h0) rfl) (.tmp rfl .nil)) (by rw [findV_yes hno, hix]; rfl)
end Go.Proofs.YtcngmkjdpoiiaaaGreatDoor

/- Places, Sound. Printed by gen.py. -/
set_option maxRecDepth 100000
namespace Go.Proofs.YtcngmkjdpoiiaaaGreatDoor
open Go Go.RowKit Go.Proofs
theorem cmpI_pos (x y : Int) : 0 < cmpI x y ↔ y < x := by
 unfold cmpI; split
 ·exact ⟨fun h => absurd h (by decide), fun h => by omega⟩
 ·split
  ·exact ⟨fun _ => by assumption, fun _ => by decide⟩
  ·exact ⟨fun h => absurd h (by decide), fun h => by omega⟩
theorem laterI_pos (x y : Rel) : ¬ 0 < laterI x y ↔ laterB x y = false := by
 have h : 0 < laterI x y ↔ laterB x y = true := by
  unfold laterI laterB orI
  rw [Bool.or_eq_true, Bool.and_eq_true, decide_eq_true_eq, decide_eq_true_eq, decide_eq_true_eq]
  split
  ·rename_i h; rw [cmpI_pos]; rw [ne_eq, cmpI_zero] at h; omega
  ·rename_i h; rw [cmpI_pos]; rw [ne_eq, cmpI_zero, Classical.not_not] at h; omega
 rw [h, Bool.not_eq_true]
theorem place_neg (l : List Acc) (a : Int) : placeI l a < 0 ↔ spotB l a = false := by
 unfold placeI
 cases spotB l a with
 | true => rw [if_pos rfl]; exact ⟨fun h => by omega, fun h => by cases h⟩
 | false => rw [if_neg (by decide)]; exact ⟨fun _ => rfl, fun _ => by decide⟩
theorem lsoundE_big {l : Led} (h : 65536 < l.acc.length ∨ 65536 < l.rel.length) : lsoundE l = 86 := by unfold lsoundE; rw [if_pos h]
theorem lsoundE_acc {l : Led} (h1 : ¬ 65536 < l.acc.length) (h2 : ¬ 65536 < l.rel.length) (h : accE l.acc ≠ 0) : lsoundE l = accE l.acc := by unfold lsoundE; rw [if_neg (by omega), if_pos h]
theorem lsoundE_rel {l : Led} (h1 : ¬ 65536 < l.acc.length) (h2 : ¬ 65536 < l.rel.length) (h : accE l.acc = 0) {e : Int} (hr : relE l.acc l.rel = e) (he : e ≠ 0) : lsoundE l = e := by
 subst hr; unfold lsoundE; rw [if_neg (by omega), if_neg (by rw [h]; simp), if_pos he]
theorem lsoundE_sum {l : Led} (h1 : ¬ 65536 < l.acc.length) (h2 : ¬ 65536 < l.rel.length) (h : accE l.acc = 0) (hr : relE l.acc l.rel = 0) (hs : MS < l.sup ∨ l.burnt + sumA l.acc + sumR l.rel ≠ l.sup) : lsoundE l = 87 := by
 unfold lsoundE; rw [if_neg (by omega), if_neg (by rw [h]; simp), if_neg (by rw [hr]; simp), if_pos hs]
theorem lsoundE_fine {l : Led} (h1 : ¬ 65536 < l.acc.length) (h2 : ¬ 65536 < l.rel.length) (h : accE l.acc = 0) (hr : relE l.acc l.rel = 0) (h3 : ¬ MS < l.sup) (hs : l.burnt + sumA l.acc + sumR l.rel = l.sup) : lsoundE l = 0 := by
 unfold lsoundE; rw [if_neg (by omega), if_neg (by rw [h]; simp), if_neg (by rw [hr]; simp), if_neg (by omega)]
theorem sumC_eq {S x : Int} (h0 : 0 ≤ S) (hx : u64 x) : decide (S ≠ x) = false ↔ sumC S = [.int .u64 0, .int .u64 x] := by
 obtain ⟨h1, h2⟩ := hx
 rw [decide_eq_false_iff_not, Classical.not_not]
 unfold sumC
 simp only [List.cons.injEq, Value.int.injEq, true_and, and_true]
 omega
theorem sumC_kind (S x : Int) : ∀ (i : Nat) (u v : Value), (sumC S)[i]? = some u → ([.int .u64 0, .int .u64 x] : List Value)[i]? = some v → ∃ k a b, u = .int k a ∧ v = .int k b
 | 0, _, _, h, h' => by cases h; cases h'; exact ⟨_, _, _, rfl, rfl⟩
 | 1, _, _, h, h' => by cases h; cases h'; exact ⟨_, _, _, rfl, rfl⟩
 | _ + 2, _, _, h, _ => by cases h
theorem spot1_ok {gl : Nat → Obj} (x : Acc) (a : Int) : SpecV (cx gl) 177 [.agg x.cells.toArray, .int .u64 a] noPre (.int .i64 (cmpI x.a a)) := by
 refine Spec.enter (C := cx gl) Tryz.func177 rfl 9 rfl rfl fun w0 h0 hsep hsub hpre => ?_
 obtain rfl : h0 = Heap.none := hsep
 show St (cx gl) _ [(0, .agg x.cells.toArray), (1, .int .u64 a)] _ _
 refine rT ?_
 refine lO (W_box (x.cells) rfl rfl rfl rfl rfl fun b2 => lA (k:=?_))
 refine lQ (cE 1 rfl (cE 2 rfl (cE 4 rfl .nil))) (rT (lP (pF ty_fl_50_0) (k:=lV (vB ty_sc_26 .h0) (k:=lMv (k:=?_)))))
 refine lO (W_callV rfl rfl rfl rfl fn_ca_95 (cmpa_ok _ _) (fun _ _ => trivial) (lA (k:=?_)))
 refine lQ (cE 4 rfl .nil) (R_ret ?_)
 exact R_endV rfl rfl (.tmp rfl .nil) (rfl)
theorem bsA_ok {gl : Nat → Obj} (a : Int) (base : Option Addr) (c : Nat) (l : List Acc) (hc : l.length ≤ c) (hm : l.length ≤ 5000000000000) : SpecV (cx gl) 176 [.slice base l.length c, .int .u64 a, .func (.func 177) #[] #[]] (fun w => Row w base (rc l)) (.tuple #[.int .i64 (spotI l a), .bool (spotB l a)]) := by
 refine Spec.enter (C := cx gl) Tryz.func176 rfl 49 rfl rfl fun w0 h0 hsep hsub hpre => ?_
 obtain rfl : h0 = Heap.none := hsep
 show St (cx gl) _ [(0, .slice base l.length c), (1, .int .u64 a), (2, .func (.func 177) #[] #[])] _ _
 refine rT (lA (k:=lA (k:=?_)))
 refine L_nil (qT (rT (lMv (k:=lP (pL ty_sl_22) (k:=lA (k:=?_))))))
 refine lQ (cE 0 rfl (cE 1 rfl (cE 2 rfl (cE 6 rfl (cE 7 rfl (cE 8 rfl .nil)))))) (rT (lMv (k:=lA (k:=lA (k:=?_)))))
 refine lQ (cE 0 rfl (cE 1 rfl (cE 2 rfl (cE 6 rfl (cE 7 rfl (cE 8 rfl (cE 9 rfl (cE 10 rfl .nil)))))))) (rS (R_block ?_))
 refine R_loopE (G := Nat × Nat) (cE 0 rfl (cE 1 rfl (cE 2 rfl (cE 6 rfl (cE 7 rfl (cE 8 rfl .nil)))))) (fun g => [(9, .int .i64 ((g.1 : Nat) : Int)), (10, .int .i64 ((g.2 : Nat) : Int))]) (fun _ => _) (fun g => g.1 ≤ g.2 ∧ g.2 ≤ l.length ∧ spotI l a = bsN (fun i => decide ((accAt l i).a < a)) g.1 g.2) (fun g => g.2 - g.1) (0, l.length) (by show (0) ≤ (l.length) ∧ (l.length) ≤ l.length ∧ spotI l a = bsN (fun i => decide ((accAt l i).a < a)) (0) (l.length); exact ⟨Nat.zero_le _, Nat.le_refl _, rfl⟩) (by repeat (first | exact .nil | refine .cons rfl ?_ | refine .consE rfl (by first | rfl | (congr 1; omega) | (congr 1; push_cast; omega)) ?_)) (Weak.refl _) ?_
 rintro ⟨lo, hi⟩ hinv
 replace hinv : lo ≤ hi ∧ hi ≤ l.length ∧ spotI l a = bsN (fun i => decide ((accAt l i).a < a)) lo hi := hinv
 show St (cx gl) _ ((9, .int .i64 ((lo : Nat) : Int)) :: (10, .int .i64 ((hi : Nat) : Int)) :: _) _ _
 obtain ⟨h1, h2, h3⟩ := hinv
 refine rS (rT (lMv (k:=lMv (k:=lP pLt (k:=?_)))))
 refine L_nil (qT ?_)
 refine R_condP rfl (fun hlt => ?_) (fun hlt => ?_)
 ·skip
  have hx := accAt_get (l := l) (i := (lo + hi) / 2) (by omega)
  obtain ⟨pb, pj, rfl, hrow⟩ := hpre.some_ (by rw [rc_length]; show 0 < _ * 5; omega)
  refine R_skip (qT (R_block (rT (lMv (k:=lMv (k:=?_))))))
  first | (refine L_val rfl rfl rfl (OpP.v (P_addN rfl rfl rfl (by simp only [fits]; omega))) ?_) | (refine L_val rfl rfl rfl (OpP.v (P_add rfl rfl rfl)) ?_)
  first | (refine L_val rfl rfl rfl (OpP.v (P_convN rfl ty_int_3 ty_int_271 rfl (by simp only [fits]; omega))) ?_) | (refine L_val rfl rfl rfl (OpP.v (P_conv rfl ty_int_3 ty_int_271 rfl)) ?_)
  refine lP (P_shr rfl rfl rfl (by omega)) (k:=?_)
  refine E_as (t := 22) (v' := .int .u64 (((lo + hi) / 2 : Nat) : Int)) rfl (by have h9 := half_nat (lo + hi); push_cast at h9 ⊢; rw [h9]) ?_
  first | (refine L_val rfl rfl rfl (OpP.v (P_convN rfl ty_int_271 ty_int_3 rfl (by simp only [fits]; omega))) ?_) | (refine L_val rfl rfl rfl (OpP.v (P_conv rfl ty_int_271 ty_int_3 rfl)) ?_)
  refine lA (k:=?_)
  refine L_nil (qT (rT (lMv (k:=lMv (k:=lMv (k:=?_))))))
  refine lP (P_ixs ((lo + hi) / 2) rfl ty_sl_22 rfl rfl (by first | rfl | omega) (by omega)) (k:=?_)
  refine lV (V_loadAgg rfl rfl ty_ag_50 (rds_rc (Rds.row hrow rfl) hx) (rfl)) (k:=lMv (k:=?_))
  refine lO (W_callFV (fi := []) (ca := []) rfl rfl rfl rfl rfl rfl fn_ca_177 (spot1_ok (accAt l ((lo + hi) / 2)) a) (fun _ _ => trivial) (lP pLt (k:=?_)))
  refine L_nil (qT ?_)
  refine R_condP rfl (fun hb => ?_) (fun hb => ?_)
  ·skip
   refine rR (lMv (k:=?_))
   first | (refine L_val rfl rfl rfl (OpP.v (P_addN rfl rfl rfl (by simp only [fits]; omega))) ?_) | (refine L_val rfl rfl rfl (OpP.v (P_add rfl rfl rfl)) ?_)
   refine lA (k:=?_)
   refine L_nil (Q_block ?_)
   exact Q_round ((lo + hi) / 2 + 1, hi) (by show ((lo + hi) / 2 + 1) ≤ (hi) ∧ (hi) ≤ l.length ∧ spotI l a = bsN (fun i => decide ((accAt l i).a < a)) ((lo + hi) / 2 + 1) (hi); exact ⟨by omega, h2, by rw [h3]; exact bsN_up (by omega) (decide_eq_true ((cmpI_neg _ _).1 hb))⟩) (by show hi - ((lo + hi) / 2 + 1) < hi - lo; omega) (by repeat (first | exact .nil | refine .cons rfl ?_ | refine .consE rfl (by first | rfl | (congr 1; omega) | (congr 1; push_cast; omega)) ?_)) (Weak.refl _)
  ·skip
   refine rR (lMv (k:=lA (k:=?_)))
   refine L_nil (Q_block ?_)
   exact Q_round (lo, (lo + hi) / 2) (by show (lo) ≤ ((lo + hi) / 2) ∧ ((lo + hi) / 2) ≤ l.length ∧ spotI l a = bsN (fun i => decide ((accAt l i).a < a)) (lo) ((lo + hi) / 2); exact ⟨by omega, by omega, by rw [h3]; exact bsN_down (by omega) (decide_eq_false fun h9 => hb ((cmpI_neg _ _).2 h9))⟩) (by show (lo + hi) / 2 - lo < hi - lo; omega) (by repeat (first | exact .nil | refine .cons rfl ?_ | refine .consE rfl (by first | rfl | (congr 1; omega) | (congr 1; push_cast; omega)) ?_)) (Weak.refl _)
 ·skip
  have hin : hi = lo := by omega
  have hsp : spotI l a = lo := by rw [h3]; exact bsN_end (by omega)
  refine R_exit (Q_then_exit (Q_then_exit (Q_block_eq ?_)))
  refine St.env (cE 0 rfl (cE 1 rfl (cE 2 rfl (cE 6 rfl (cE 7 rfl (cE 8 rfl (cE 9 rfl .nil))))))) (qT (rT (lMv (k:=lMv (k:=lMv (k:=lP pLt (k:=?_)))))))
  refine E_bool (t := 38) rfl (fun hl2 => ?_) (fun hl2 => ?_)
  ·skip
   have hl2 : lo < l.length := by have := of_decide_eq_true hl2; omega
   have hx := accAt_get hl2
   obtain ⟨pb, pj, rfl, hrow⟩ := hpre.some_ (by rw [rc_length]; show 0 < _ * 5; omega)
   refine lMv (k:=lMv (k:=lMv (k:=lMv (k:=?_))))
   refine lP (P_ixs (lo) rfl ty_sl_22 rfl rfl (by first | rfl | omega) (by omega)) (k:=?_)
   refine lV (V_loadAgg rfl rfl ty_ag_50 (rds_rc (Rds.row hrow rfl) hx) (rfl)) (k:=lMv (k:=?_))
   refine lO (W_callFV (fi := []) (ca := []) rfl rfl rfl rfl rfl rfl fn_ca_177 (spot1_ok (accAt l lo) a) (fun _ _ => trivial) (lP pEq (k:=lP pK (k:=lA (k:=lA (k:=?_))))))
   refine lQ (cE 6 rfl (cE 7 rfl .nil)) (R_ret ?_)
   exact R_endV rfl rfl (.tmp rfl (.tmp rfl .nil)) (by unfold spotB; rw [hsp]; first | (rw [decide_eq_false hl2]; rfl) | (rw [decide_eq_true hl2, Bool.true_and, show decide ((accAt l lo).a = a) = decide (cmpI (accAt l lo).a a = 0) from decide_eq_decide.2 (cmpI_zero _ _).symm]; rfl))
  ·skip
   have hl2 : ¬ lo < l.length := by have := of_decide_eq_false hl2; omega
   refine lMv (k:=lN (k:=lN (k:=lN (k:=lN (k:=lN (k:=lN (k:=lN (k:=lN (k:=lP pK (k:=lA (k:=lA (k:=?_))))))))))))
   refine lQ (cE 6 rfl (cE 7 rfl .nil)) (R_ret ?_)
   exact R_endV rfl rfl (.tmp rfl (.tmp rfl .nil)) (by unfold spotB; rw [hsp]; first | (rw [decide_eq_false hl2]; rfl) | (rw [decide_eq_true hl2, Bool.true_and, show decide ((accAt l lo).a = a) = decide (cmpI (accAt l lo).a a = 0) from decide_eq_decide.2 (cmpI_zero _ _).symm]; rfl))
theorem spot_ok {gl : Nat → Obj} (base : Option Addr) (c : Nat) (l : List Acc) (hc : l.length ≤ c) (hm : l.length ≤ 5000000000000) (r : Value) (hr : r.oneCell' = true) (bu su a : Int) : SpecV (cx gl) 99 [.agg (ledV (.slice base l.length c) r bu su).toArray, .int .u64 a] (fun w => Row w base (rc l)) (.tuple #[.int .i64 (spotI l a), .bool (spotB l a)]) := by
 refine Spec.enter (C := cx gl) Tryz.func99 rfl 12 rfl rfl fun w0 h0 hsep hsub hpre => ?_
 obtain rfl : h0 = Heap.none := hsep
 show St (cx gl) _ [(0, .agg (ledV (.slice base l.length c) r bu su).toArray), (1, .int .u64 a)] _ _
 refine rT ?_
 refine lO (W_box (ledV (.slice base l.length c) r bu su) rfl rfl rfl rfl rfl fun b2 => lA (k:=lA (k:=?_)))
 refine lQ (cE 1 rfl (cE 2 rfl (cE 4 rfl (cE 5 rfl .nil)))) (rT (lP (pF ty_fl_30_0) (k:=lV (vB ty_sc_22 .h0) (k:=lMv (k:=?_)))))
 refine lO (W_callV rfl rfl rfl rfl fn_ca_176 (bsA_ok a base c l hc hm) (fun w nw => (Sn.row hpre rfl).rw_ w nw) (lP pX (k:=lP pX (k:=lA (k:=lA (k:=?_))))))
 refine lQ (cE 4 rfl (cE 5 rfl .nil)) (R_ret ?_)
 exact R_endV rfl rfl (.tmp rfl (.tmp rfl .nil)) (rfl)
theorem place_ok {gl : Nat → Obj} (base : Option Addr) (c : Nat) (l : List Acc) (hc : l.length ≤ c) (hm : l.length ≤ 5000000000000) (r : Value) (hr : r.oneCell' = true) (bu su a : Int) : SpecV (cx gl) 83 [.agg (ledV (.slice base l.length c) r bu su).toArray, .int .u64 a] (fun w => Row w base (rc l)) (.int .i64 (placeI l a)) := by
 refine Spec.enter (C := cx gl) Tryz.func83 rfl 15 rfl rfl fun w0 h0 hsep hsub hpre => ?_
 obtain rfl : h0 = Heap.none := hsep
 show St (cx gl) _ [(0, .agg (ledV (.slice base l.length c) r bu su).toArray), (1, .int .u64 a)] _ _
 refine rT ?_
 refine lO (W_box (ledV (.slice base l.length c) r bu su) rfl rfl rfl rfl rfl fun b2 => lA (k:=?_))
 refine lQ (cE 1 rfl (cE 2 rfl (cE 4 rfl .nil))) (rS (rT (lV (vG ty_ag_30 .h0) (k:=lMv (k:=?_)))))
 refine lO (W_callV rfl rfl rfl rfl fn_ca_99 (spot_ok base c l hc hm r hr bu su a) (fun w nw => (Sn.row hpre rfl).rw_ w nw) (lMv (k:=lP pX (k:=lP pX (k:=lA (k:=lA (k:=?_)))))))
 refine lQ (cE 4 rfl (cE 5 rfl (cE 6 rfl .nil))) (rT (lMv (k:=?_)))
 refine lQ (cE 4 rfl (cE 5 rfl (cE 13 rfl .nil))) ?_
 refine R_cond rfl (fun hb => ?_) (fun hb => ?_)
 ·skip
  refine rT (lMv (k:=lA (k:=?_)))
  refine lQ (cE 4 rfl .nil) (R_ret (Q_then_ret ?_))
  exact R_endV rfl rfl (.tmp rfl .nil) (by unfold placeI; rw [if_pos hb]; rfl)
 ·skip
  refine R_skip (qT (rT (lA (k:=?_))))
  refine lQ (cE 4 rfl .nil) (R_ret ?_)
  exact R_endV rfl rfl (.tmp rfl .nil) (by unfold placeI; rw [if_neg (by rw [hb]; decide)]; rfl)
theorem se_sum : seB Tryz.prog 169 2 = true := by kernel_rfl
theorem lsound_ok {gl : Nat → Obj} (base : Option Addr) (c : Nat) (l : List Acc) (hc : l.length ≤ c)(hok : ∀ x ∈ l, x.ok)(base' : Option Addr) (c' : Nat) (r : List Rel) (hc' : r.length ≤ c') (hok' : ∀ x ∈ r, x.ok) (bu su : Int) (hbu : u64 bu) (hsu : u64 su) : SpecV (cx gl) 69 [.agg (ledV (.slice base l.length c) (.slice base' r.length c') bu su).toArray] (fun w => Row w base (rc l) ∧ Row w base' (rc r)) (.int .i64 (lsoundE ⟨l, r, bu, su⟩)) := by
 refine Spec.enter (C := cx gl) Tryz.func69 rfl 98 rfl rfl fun w0 h0 hsep hsub hpre => ?_
 obtain rfl : h0 = Heap.none := hsep
 show St (cx gl) _ [(0, .agg (ledV (.slice base l.length c) (.slice base' r.length c') bu su).toArray)] _ _
 have hms : MS = 1152921504606846975 := rfl
 refine rT ?_
 refine lO (W_box (_) rfl rfl rfl rfl rfl fun b1 => lA (k:=?_))
 refine lQ (cE 1 rfl (cE 2 rfl .nil)) (rS (rT (lP (pF ty_fl_30_0) (k:=?_))))
 refine lV (V_load rfl rfl ty_sc_22 (by first | exact Rd.blk .h0 rfl | exact Rd.blk .h1 rfl | exact Rd.blk .h2 rfl | exact Rd.blk .h3 rfl | exact Rd.blk .h4 rfl | exact Rd.blk .h5 rfl | exact Rd.blk .h6 rfl | exact Rd.blk .h7 rfl)) (k:=lP (pL ty_sl_22) (k:=lP pGt (k:=?_)))
 refine E_bool (t := 10) rfl (fun hA => ?_) (fun hA => ?_)
 ·skip
  have hA := of_decide_eq_true hA
  refine lMv (k:=lN (k:=lN (k:=lN (k:=lN (k:=lP pK (k:=?_))))))
  refine lQ (cE 1 rfl (cE 2 rfl (cE 16 rfl .nil))) (kT (k:=rT (lA (k:=?_))))
  refine lQ (cE 1 rfl (cE 2 rfl .nil)) (R_ret (Q_then_ret ?_))
  exact R_endV rfl rfl (.tmp rfl .nil) (by rw [show lsoundE ⟨l, r, bu, su⟩ = 86 from lsoundE_big (by show 65536 < l.length ∨ 65536 < r.length; omega)]; rfl)
 ·skip
  have hA := of_decide_eq_false hA
  have hA : ¬ 65536 < l.length := by omega
  refine lMv (k:=lP (pF ty_fl_30_1) (k:=?_))
  refine lV (V_load rfl rfl ty_sc_28 (by first | exact Rd.blk .h0 rfl | exact Rd.blk .h1 rfl | exact Rd.blk .h2 rfl | exact Rd.blk .h3 rfl | exact Rd.blk .h4 rfl | exact Rd.blk .h5 rfl | exact Rd.blk .h6 rfl | exact Rd.blk .h7 rfl)) (k:=lP (pL ty_sl_28) (k:=lP pGt (k:=lP pK (k:=?_))))
  refine lQ (cE 1 rfl (cE 2 rfl (cE 16 rfl .nil))) ?_
  refine R_condP rfl (fun hB => ?_) (fun hB => ?_)
  ·skip
   refine rT (lA (k:=?_))
   refine lQ (cE 1 rfl (cE 2 rfl .nil)) (R_ret (Q_then_ret ?_))
   exact R_endV rfl rfl (.tmp rfl .nil) (by rw [show lsoundE ⟨l, r, bu, su⟩ = 86 from lsoundE_big (by show 65536 < l.length ∨ 65536 < r.length; omega)]; rfl)
  ·skip
   have hB : ¬ 65536 < r.length := by omega
   refine R_skip (qT (rT (lP (pF ty_fl_30_0) (k:=?_))))
   refine lV (V_load rfl rfl ty_sc_22 (by first | exact Rd.blk .h0 rfl | exact Rd.blk .h1 rfl | exact Rd.blk .h2 rfl | exact Rd.blk .h3 rfl | exact Rd.blk .h4 rfl | exact Rd.blk .h5 rfl | exact Rd.blk .h6 rfl | exact Rd.blk .h7 rfl)) (k:=?_)
   refine lO (W_callV rfl rfl rfl rfl fn_ca_78 (soundAcc_ok base c l hc (by omega) hok) (fun w nw => (Sn.row hpre.1 rfl).rw_ w nw) ?_)
   rw [show soundV l = .tuple #[.agg (sumC (if accE l = 0 then sumA l else 0)).toArray, .int .i64 (accE l)] from rfl]
   refine lMv (k:=lP pX (k:=lP pX (k:=?_)))
   refine lO (W_alloc rfl rfl rfl ty_ze_169 fun b3 => ?_)
   refine lO (W_storeAll rfl rfl rfl rfl ty_ag_169 (rfl) (sumC_one _) .h0 (rfl) (lA (k:=?_)))
   refine lQ (cE 1 rfl (cE 2 rfl (cE 3 rfl (cE 4 rfl .nil)))) (rS (rT (lMv (k:=lP pNe (k:=?_)))))
   refine lQ (cE 1 rfl (cE 2 rfl (cE 3 rfl (cE 4 rfl (cE 24 rfl .nil))))) ?_
   refine R_condP rfl (fun he => ?_) (fun he => ?_)
   ·skip
    refine rT (lMv (k:=lA (k:=?_)))
    refine lQ (cE 1 rfl (cE 2 rfl (cE 3 rfl .nil))) (R_ret (Q_then_ret ?_))
    exact R_endV rfl rfl (.tmp rfl .nil) (by rw [show lsoundE ⟨l, r, bu, su⟩ = accE l from lsoundE_acc hA hB he]; rfl)
   ·skip
    have he : accE l = 0 := Classical.not_not.1 he
    have hSn := sumA_nn hok
    have hS := sumA_le l.length (Nat.le_refl _) he
    rw [List.take_length, hms] at hS
    rw [if_pos he]
    refine R_skip (qT (rS (rT (lP (pF ty_fl_30_1) (k:=?_)))))
    refine lV (V_load rfl rfl ty_sc_28 (by first | exact Rd.blk .h0 rfl | exact Rd.blk .h1 rfl | exact Rd.blk .h2 rfl | exact Rd.blk .h3 rfl | exact Rd.blk .h4 rfl | exact Rd.blk .h5 rfl | exact Rd.blk .h6 rfl | exact Rd.blk .h7 rfl)) (k:=lP (pL ty_sl_28) (k:=lMv (k:=?_)))
    refine lQ (cE 1 rfl (cE 2 rfl (cE 3 rfl (cE 27 rfl (cE 28 rfl (cE 29 rfl .nil)))))) (R_block ?_)
    refine R_loopE (G := Nat) (cE 1 rfl (cE 2 rfl (cE 3 rfl (cE 27 rfl (cE 28 rfl .nil))))) (fun g => [(29, .int .i64 (g : Int))]) (fun g => [blk b3 (sumC (sumA l + sumR (r.take g))) 169, blk b1 (ledV (.slice base l.length c) (.slice base' r.length c') bu su) 30]) (fun g => g ≤ r.length ∧ firstE (relBad l r) g = 0) (fun g => r.length - g) (0) (by show (0) ≤ r.length ∧ firstE (relBad l r) (0) = 0; exact ⟨Nat.zero_le _, rfl⟩) (by repeat (first | exact .nil | refine .cons rfl ?_ | refine .consE rfl (by first | rfl | (congr 1; omega) | (congr 1; push_cast; omega)) ?_)) (by rw [show sumR (r.take 0) = 0 from rfl, Int.add_zero]; exact Weak.refl _) ?_
    intro i hinv
    replace hinv : i ≤ r.length ∧ firstE (relBad l r) i = 0 := hinv
    show St (cx gl) _ ((29, .int .i64 (i : Int)) :: _) [blk b3 (sumC (sumA l + sumR (r.take i))) 169, blk b1 (ledV (.slice base l.length c) (.slice base' r.length c') bu su) 30] _
    obtain ⟨hi, h0⟩ := hinv
    refine rT (lP pLt (k:=?_))
    refine L_nil (qT (rS ?_))
    refine R_condP rfl (fun hlt => ?_) (fun hlt => ?_)
    ·skip
     have hx0 := relAt_get (l := r) (i := i) (by omega)
     obtain ⟨x, ex⟩ : ∃ x, x = relAt r i := ⟨_, rfl⟩
     have hx : r[i]? = some x := by rw [ex]; exact hx0
     obtain ⟨pb, pj, rfl, hrow⟩ := hpre.2.some_ (by rw [rc_length]; show 0 < _ * 4; omega)
     obtain ⟨hx1, hx2, hx3, hx4⟩ := hok' x (List.mem_of_getElem? hx)
     have hR := sumR_le i hi h0
     rw [hms] at hR
     have hRn : 0 ≤ sumR (r.take i) := sumR_nn fun y hy => hok' y (List.mem_of_mem_take hy)
     refine R_skip (qT (rS (R_block (rT (lMv (k:=?_))))))
     refine lP (P_ixs (i) rfl ty_sl_28 rfl rfl (by first | rfl | omega) (by omega)) (k:=?_)
     refine lV (V_loadAgg rfl rfl ty_ag_175 (rds_rc (Rds.row hrow rfl) hx) (rfl)) (k:=?_)
     refine lO (W_alloc rfl rfl rfl ty_ze_175 fun b6 => lA (k:=?_))
     refine lO (W_storeAll rfl rfl rfl rfl ty_ag_175 (rfl) (Rec.one x) .h0 (rfl) ?_)
     refine L_nil (qT (rS (R_block (rT (lV (vG ty_ag_30 .h2) (k:=lP (pF ty_fl_175_1) (k:=lV (vB ty_sc_26 .h0) (k:=?_))))))))
     refine lO (W_callV rfl rfl rfl rfl fn_ca_83 (place_ok base c l hc (by omega) _ rfl bu su x.a) (fun w nw => (Sn.row hpre.1 rfl).rw_ w nw) (lP pLt (k:=lA (k:=?_))))
     refine L_nil (qT ?_)
     refine R_condP rfl (fun hp => ?_) (fun hp => ?_)
     ·skip
      have hpt := (place_neg _ _).1 hp
      refine rT (lA (k:=?_))
      refine L_nil (qT (R_ret (Q_block_ret (Q_then_ret (Q_block_ret (Q_then_ret (Q_then_ret (Q_block_ret (Q_then_ret ?_)))))))))
      exact R_endV rfl rfl (.tmp rfl .nil) (by rw [show lsoundE ⟨l, r, bu, su⟩ = 85 from lsoundE_rel hA hB he (firstE_hit h0 (show relBad l r i = 85 by unfold relBad; rw [← ex]; rw [if_pos hpt]) (by decide) (show i < r.length by omega)) (by decide)]; rfl)
     ·skip
      have hpt : spotB l x.a = true := by cases h9 : spotB l x.a with | true => rfl | false => exact absurd ((place_neg _ _).2 h9) hp
      refine rT (lP (pF ty_fl_175_2) (k:=lV (vB ty_sc_23 .h0) (k:=lP pGt (k:=?_))))
      refine E_bool (t := 43) rfl (fun q1 => ?_) (fun q1 => ?_)
      ·skip
       have q1 := of_decide_eq_true q1
       refine lMv (k:=lN (k:=lN (k:=lN (k:=lN (k:=lN (k:=lP pK (k:=lMv (k:=lN (k:=lN (k:=lN (k:=lP pK (k:=lA (k:=?_)))))))))))))
       refine L_nil (qT (kT (k:=rT (lA (k:=?_)))))
       refine L_nil (qT (R_ret (Q_block_ret (Q_then_ret (Q_block_ret (Q_then_ret (Q_then_ret (Q_block_ret (Q_then_ret ?_)))))))))
       exact R_endV rfl rfl (.tmp rfl .nil) (by rw [show lsoundE ⟨l, r, bu, su⟩ = 2 from lsoundE_rel hA hB he (firstE_hit h0 (show relBad l r i = 2 by unfold relBad; rw [← ex]; rw [if_neg (by rw [hpt]; decide), if_pos (by omega)]) (by decide) (show i < r.length by omega)) (by decide)]; rfl)
      ·skip
       have q1 := of_decide_eq_false q1
       refine lMv (k:=lP (pF ty_fl_175_0) (k:=lV (vB ty_sc_23 .h0) (k:=lP (pF ty_fl_175_2) (k:=lV (vB ty_sc_23 .h0) (k:=lP pLt (k:=?_))))))
       refine E_bool (t := 49) rfl (fun q2 => ?_) (fun q2 => ?_)
       ·skip
        have q2 := of_decide_eq_true q2
        refine lP pK (k:=lMv (k:=lN (k:=lN (k:=lN (k:=lP pK (k:=lA (k:=?_)))))))
        refine L_nil (qT (kT (k:=rT (lA (k:=?_)))))
        refine L_nil (qT (R_ret (Q_block_ret (Q_then_ret (Q_block_ret (Q_then_ret (Q_then_ret (Q_block_ret (Q_then_ret ?_)))))))))
        exact R_endV rfl rfl (.tmp rfl .nil) (by rw [show lsoundE ⟨l, r, bu, su⟩ = 2 from lsoundE_rel hA hB he (firstE_hit h0 (show relBad l r i = 2 by unfold relBad; rw [← ex]; rw [if_neg (by rw [hpt]; decide), if_pos (by omega)]) (by decide) (show i < r.length by omega)) (by decide)]; rfl)
       ·skip
        have q2 := of_decide_eq_false q2
        refine lP pK (k:=lMv (k:=lP (pF ty_fl_175_0) (k:=lV (vB ty_sc_23 .h0) (k:=lP pGt (k:=lP pK (k:=lA (k:=?_)))))))
        refine L_nil (qT ?_)
        refine R_condP rfl (fun q3 => ?_) (fun q3 => ?_)
        ·skip
         refine rT (lA (k:=?_))
         refine L_nil (qT (R_ret (Q_block_ret (Q_then_ret (Q_block_ret (Q_then_ret (Q_then_ret (Q_block_ret (Q_then_ret ?_)))))))))
         exact R_endV rfl rfl (.tmp rfl .nil) (by rw [show lsoundE ⟨l, r, bu, su⟩ = 2 from lsoundE_rel hA hB he (firstE_hit h0 (show relBad l r i = 2 by unfold relBad; rw [← ex]; rw [if_neg (by rw [hpt]; decide), if_pos (by omega)]) (by decide) (show i < r.length by omega)) (by decide)]; rfl)
        ·skip
         refine rS ?_
         refine R_open [(0, 0), (1, 0), (2, 0), (3, 1), (4, 0), (5, 1), (6, 0), (7, 0), (8, 0), (9, 1), (10, 2), (11, 0), (12, 0), (13, 0)] mixed (by kernel_rfl) (QOk.then (QOk.block (QOk.then (QOk.block (QOk.then (QOk.then (QOk.block (QOk.then QOk.body)))))))) (oP rfl pM (k:=oP rfl pGt (k:=?_)))
         refine E_bool (t := 58) rfl (fun q4 => ?_) (fun q4 => ?_)
         ·skip
          have q4 : 0 < i := by have := of_decide_eq_true q4; omega
          obtain ⟨y, ey⟩ : ∃ y, y = relAt r (i - 1) := ⟨_, rfl⟩
          have hy : r[i - 1]? = some y := by rw [ey]; exact relAt_get (by omega)
          refine oP rfl pM (k:=oV rfl (vG ty_ag_175 .h0) (k:=oP rfl (pF ty_fl_30_1) (k:=oV rfl (vB ty_sc_28 .h2) (k:=oP rfl pM (k:=?_)))))
          first | (refine O_pure rfl rfl rfl rfl (P_subN rfl rfl rfl (by simp only [fits]; omega)) ?_) | (refine O_pure rfl rfl rfl rfl (P_sub rfl rfl rfl) ?_)
          refine oP rfl (P_ixs (i - 1) rfl ty_sl_28 rfl rfl (by first | rfl | omega) (by omega)) (k:=?_)
          refine oV rfl (V_loadAgg rfl rfl ty_ag_175 (rds_rc (Rds.row hrow rfl) hy) (rfl)) (k:=?_)
          refine O_keep rfl rfl (W_callV rfl rfl rfl rfl fn_ca_156 (later_ok x y) (fun _ _ => trivial) (K_keep (Weak.refl _) (oP rfl pLe (k:=oP rfl pK (k:=oP rfl pA (k:=O_nil (qT ?_)))))))
          refine R_condP rfl (fun q5 => ?_) (fun q5 => ?_)
          ·skip
           have q5 : laterB x y = false := (laterI_pos x y).1 (by omega)
           refine rT (lA (k:=?_))
           refine L_nil (qT (R_ret (Q_block_ret (Q_then_ret (Q_block_ret (Q_then_ret (Q_then_ret (Q_block_ret (Q_then_ret ?_)))))))))
           exact R_endV rfl rfl (.tmp rfl .nil) (by rw [show lsoundE ⟨l, r, bu, su⟩ = 42 from lsoundE_rel hA hB he (firstE_hit h0 (show relBad l r i = 42 by unfold relBad; rw [← ex]; rw [if_neg (by rw [hpt]; decide), if_neg (by omega), if_pos ⟨q4, by rw [← ey]; exact q5⟩]) (by decide) (show i < r.length by omega)) (by decide)]; rfl)
          ·skip
           have hno : ¬ (0 < i ∧ laterB x (relAt r (i - 1)) = false) := fun h9 => q5 (by have := (laterI_pos x (relAt r (i - 1))).2 h9.2; rw [← ey] at this; omega)
           refine rT (lP (pF ty_fl_175_3) (k:=lV (vB ty_sc_23 .h0) (k:=lP pEq (k:=?_))))
           refine E_bool (t := 73) rfl (fun q6 => ?_) (fun q6 => ?_)
           ·skip
            have q6 := of_decide_eq_true q6
            refine lMv (k:=lN (k:=lN (k:=lN (k:=lP pK (k:=lA (k:=?_))))))
            refine L_nil (qT (kT (k:=rT (lA (k:=?_)))))
            refine L_nil (qT (R_ret (Q_block_ret (Q_then_ret (Q_block_ret (Q_then_ret (Q_then_ret (Q_block_ret (Q_then_ret ?_)))))))))
            exact R_endV rfl rfl (.tmp rfl .nil) (by rw [show lsoundE ⟨l, r, bu, su⟩ = 87 from lsoundE_rel hA hB he (firstE_hit h0 (show relBad l r i = 87 by unfold relBad; rw [← ex]; rw [if_neg (by rw [hpt]; decide), if_neg (by omega), if_neg hno, if_pos (by omega)]) (by decide) (show i < r.length by omega)) (by decide)]; rfl)
           ·skip
            have q6 := of_decide_eq_false q6
            refine lMv (k:=lP (pF ty_fl_175_3) (k:=lV (vB ty_sc_23 .h0) (k:=lP pGt (k:=lP pK (k:=lA (k:=?_))))))
            refine L_nil (qT ?_)
            refine R_condP rfl (fun q7 => ?_) (fun q7 => ?_)
            ·skip
             refine rT (lA (k:=?_))
             refine L_nil (qT (R_ret (Q_block_ret (Q_then_ret (Q_block_ret (Q_then_ret (Q_then_ret (Q_block_ret (Q_then_ret ?_)))))))))
             exact R_endV rfl rfl (.tmp rfl .nil) (by rw [show lsoundE ⟨l, r, bu, su⟩ = 87 from lsoundE_rel hA hB he (firstE_hit h0 (show relBad l r i = 87 by unfold relBad; rw [← ex]; rw [if_neg (by rw [hpt]; decide), if_neg (by omega), if_neg hno, if_pos (by omega)]) (by decide) (show i < r.length by omega)) (by decide)]; rfl)
            ·skip
             refine R_skip (Q_block (qT (rR (lV (vG ty_ag_169 .h1) (k:=lP (pF ty_fl_175_3) (k:=lV (vB ty_sc_23 .h0) (k:=?_)))))))
             refine lO (W_callV rfl rfl rfl rfl fn_ca_157 (plus_ok (sumA l + sumR (r.take i)) x.amt (by omega) (by omega) hx4) (fun _ _ => trivial) ?_)
             refine lO (W_storeAll rfl rfl rfl rfl ty_ag_169 (rfl) (sumC_one _) .h1 (rfl) ?_)
             refine L_nil (Q_block (qT (rR ?_)))
             first | (refine L_val rfl rfl rfl (OpP.v (P_addN rfl rfl rfl (by simp only [fits]; omega))) ?_) | (refine L_val rfl rfl rfl (OpP.v (P_add rfl rfl rfl)) ?_)
             refine lMv (k:=?_)
             refine L_nil ?_
             exact Q_round (i + 1) (by show (i + 1) ≤ r.length ∧ firstE (relBad l r) (i + 1) = 0; exact ⟨by omega, firstE_next h0 (by unfold relBad; rw [← ex, if_neg (by rw [hpt]; decide), if_neg (by omega), if_neg hno, if_neg (by omega)])⟩) (by show r.length - (i + 1) < r.length - i; omega) (by repeat (first | exact .nil | refine .cons rfl ?_ | refine .consE rfl (by first | rfl | (congr 1; omega) | (congr 1; push_cast; omega)) ?_)) (by rw [sumR_snoc hx, ← Int.add_assoc]; exact Weak.drop (Weak.refl _))
         ·skip
          have q4 : ¬ 0 < i := by have := of_decide_eq_false q4; omega
          have hno : ¬ (0 < i ∧ laterB x (relAt r (i - 1)) = false) := fun h9 => q4 h9.1
          refine oP rfl pM (k:=?_)
          refine O_noX rfl rfl rfl rfl ?_
          refine O_no rfl rfl rfl rfl ?_
          refine O_noX rfl rfl rfl rfl ?_
          refine O_no rfl rfl rfl rfl ?_
          refine O_no rfl rfl rfl rfl ?_
          refine O_no rfl rfl rfl rfl ?_
          refine O_noX rfl rfl rfl rfl ?_
          refine O_no2 rfl rfl rfl rfl ?_
          refine O_no rfl rfl rfl rfl (oP rfl pK (k:=oP rfl pA (k:=O_nil (qT (kF (k:=rT (lP (pF ty_fl_175_3) (k:=lV (vB ty_sc_23 .h0) (k:=lP pEq (k:=?_))))))))))
          refine E_bool (t := 73) rfl (fun q6 => ?_) (fun q6 => ?_)
          ·skip
           have q6 := of_decide_eq_true q6
           refine lMv (k:=lN (k:=lN (k:=lN (k:=lP pK (k:=lA (k:=?_))))))
           refine L_nil (qT (kT (k:=rT (lA (k:=?_)))))
           refine L_nil (qT (R_ret (Q_block_ret (Q_then_ret (Q_block_ret (Q_then_ret (Q_then_ret (Q_block_ret (Q_then_ret ?_)))))))))
           exact R_endV rfl rfl (.tmp rfl .nil) (by rw [show lsoundE ⟨l, r, bu, su⟩ = 87 from lsoundE_rel hA hB he (firstE_hit h0 (show relBad l r i = 87 by unfold relBad; rw [← ex]; rw [if_neg (by rw [hpt]; decide), if_neg (by omega), if_neg hno, if_pos (by omega)]) (by decide) (show i < r.length by omega)) (by decide)]; rfl)
          ·skip
           have q6 := of_decide_eq_false q6
           refine lMv (k:=lP (pF ty_fl_175_3) (k:=lV (vB ty_sc_23 .h0) (k:=lP pGt (k:=lP pK (k:=lA (k:=?_))))))
           refine L_nil (qT ?_)
           refine R_condP rfl (fun q7 => ?_) (fun q7 => ?_)
           ·skip
            refine rT (lA (k:=?_))
            refine L_nil (qT (R_ret (Q_block_ret (Q_then_ret (Q_block_ret (Q_then_ret (Q_then_ret (Q_block_ret (Q_then_ret ?_)))))))))
            exact R_endV rfl rfl (.tmp rfl .nil) (by rw [show lsoundE ⟨l, r, bu, su⟩ = 87 from lsoundE_rel hA hB he (firstE_hit h0 (show relBad l r i = 87 by unfold relBad; rw [← ex]; rw [if_neg (by rw [hpt]; decide), if_neg (by omega), if_neg hno, if_pos (by omega)]) (by decide) (show i < r.length by omega)) (by decide)]; rfl)
           ·skip
            refine R_skip (Q_block (qT (rR (lV (vG ty_ag_169 .h1) (k:=lP (pF ty_fl_175_3) (k:=lV (vB ty_sc_23 .h0) (k:=?_)))))))
            refine lO (W_callV rfl rfl rfl rfl fn_ca_157 (plus_ok (sumA l + sumR (r.take i)) x.amt (by omega) (by omega) hx4) (fun _ _ => trivial) ?_)
            refine lO (W_storeAll rfl rfl rfl rfl ty_ag_169 (rfl) (sumC_one _) .h1 (rfl) ?_)
            refine L_nil (Q_block (qT (rR ?_)))
            first | (refine L_val rfl rfl rfl (OpP.v (P_addN rfl rfl rfl (by simp only [fits]; omega))) ?_) | (refine L_val rfl rfl rfl (OpP.v (P_add rfl rfl rfl)) ?_)
            refine lMv (k:=?_)
            refine L_nil ?_
            exact Q_round (i + 1) (by show (i + 1) ≤ r.length ∧ firstE (relBad l r) (i + 1) = 0; exact ⟨by omega, firstE_next h0 (by unfold relBad; rw [← ex, if_neg (by rw [hpt]; decide), if_neg (by omega), if_neg hno, if_neg (by omega)])⟩) (by show r.length - (i + 1) < r.length - i; omega) (by repeat (first | exact .nil | refine .cons rfl ?_ | refine .consE rfl (by first | rfl | (congr 1; omega) | (congr 1; push_cast; omega)) ?_)) (by rw [sumR_snoc hx, ← Int.add_assoc]; exact Weak.drop (Weak.refl _))
    ·skip
     have hin : i = r.length := by omega
     subst hin
     rw [List.take_length]
     have hR := sumR_le r.length (Nat.le_refl _) h0
     rw [hms, List.take_length] at hR
     have hRn : 0 ≤ sumR r := sumR_nn hok'
     refine R_exit (Q_then_exit (Q_then_exit (Q_block_eq ?_)))
     refine St.env (cE 1 rfl (cE 2 rfl (cE 3 rfl .nil))) (qT (rS (rT (lV (vG ty_ag_169 .h0) (k:=lP (pF ty_fl_30_2) (k:=lV (vB ty_sc_23 .h1) (k:=?_)))))))
     refine lO (W_callV rfl rfl rfl rfl fn_ca_157 (plus_ok (sumA l + sumR r) bu (by omega) (by omega) hbu) (fun _ _ => trivial) ?_)
     refine lO (W_storeAll rfl rfl rfl rfl ty_ag_169 (rfl) (sumC_one _) .h0 (rfl) ?_)
     refine lQ (cE 1 rfl (cE 2 rfl (cE 3 rfl .nil))) (rT (lP (pF ty_fl_30_3) (k:=lV (vB ty_sc_23 .h1) (k:=lP pGt (k:=?_)))))
     refine E_bool (t := 90) rfl (fun q8 => ?_) (fun q8 => ?_)
     ·skip
      have q8 := of_decide_eq_true q8
      refine lMv (k:=lN (k:=lN (k:=lN (k:=lN (k:=lN (k:=lP pK (k:=?_)))))))
      refine lQ (cE 2 rfl (cE 97 rfl .nil)) (kT (k:=rT (lA (k:=?_))))
      refine lQ (cE 2 rfl .nil) (R_ret (Q_then_ret ?_))
      exact R_endV rfl rfl (.tmp rfl .nil) (by rw [show lsoundE ⟨l, r, bu, su⟩ = 87 from lsoundE_sum hA hB he h0 (by show MS < su ∨ bu + sumA l + sumR r ≠ su; rw [hms]; omega)]; rfl)
     ·skip
      have q8 := of_decide_eq_false q8
      refine lMv (k:=lV (vG ty_ag_169 .h0) (k:=lP (pF ty_fl_30_3) (k:=lV (vB ty_sc_23 .h1) (k:=?_))))
      refine lP (P_buildStruct rfl ty_pl_169 ty_ze_169 rfl rfl (rfl)) (k:=?_)
      refine lP (P_neq_struct (b := decide (sumA l + sumR r + bu ≠ su)) rfl se_sum rfl rfl rfl rfl (sumC_kind _ _) (sumC_eq (by have := hbu.1; omega) hsu)) (k:=lP pK (k:=?_))
      refine lQ (cE 2 rfl (cE 97 rfl .nil)) ?_
      refine R_condP rfl (fun q9 => ?_) (fun q9 => ?_)
      ·skip
       refine rT (lA (k:=?_))
       refine lQ (cE 2 rfl .nil) (R_ret (Q_then_ret ?_))
       exact R_endV rfl rfl (.tmp rfl .nil) (by rw [show lsoundE ⟨l, r, bu, su⟩ = 87 from lsoundE_sum hA hB he h0 (by show MS < su ∨ bu + sumA l + sumR r ≠ su; rw [hms]; omega)]; rfl)
      ·skip
       refine R_skip (qT (rT (lA (k:=?_))))
       refine lQ (cE 2 rfl .nil) (R_ret ?_)
       exact R_endV rfl rfl (.tmp rfl .nil) (by rw [show lsoundE ⟨l, r, bu, su⟩ = 0 from lsoundE_fine hA hB he h0 (by show ¬ MS < su; rw [hms]; omega) (by show bu + sumA l + sumR r = su; have := Classical.not_not.1 q9; omega)]; rfl)
end Go.Proofs.YtcngmkjdpoiiaaaGreatDoor

/- Seats. Printed by gen.py. -/
set_option maxRecDepth 100000
namespace Go.Proofs.YtcngmkjdpoiiaaaGreatDoor
open Go Go.RowKit Go.Proofs Go.Sort
/-- The settings. -/
structure Par where
 mb : Int
 seats : Int
 p2 : Int
 p3 : Int
 p4 : Int
 p5 : Int
 p6 : Int
 p7 : Int
 p8 : Int
 p9 : Int
 p10 : Int
 p11 : Int
def Par.cells (p : Par) : List Value := [.int .u64 p.mb, .int .i64 p.seats, .int .u64 p.p2, .int .u64 p.p3, .int .u64 p.p4, .int .i64 p.p5, .int .u64 p.p6, .int .u64 p.p7, .int .u64 p.p8, .int .u64 p.p9, .int .u64 p.p10, .int .u64 p.p11]
theorem Par.one (p : Par) : ∀ v ∈ p.cells, v.oneCell' = true := by
 intro v hv; simp only [Par.cells, List.mem_cons, List.not_mem_nil, or_false] at hv
 rcases hv with rfl | rfl | rfl | rfl | rfl | rfl | rfl | rfl | rfl | rfl | rfl | rfl <;> rfl
end Go.Proofs.YtcngmkjdpoiiaaaGreatDoor

/- Walks: the codec's writer. Printed by gen.py. -/
set_option maxRecDepth 100000
namespace Go.Proofs.YtcngmkjdpoiiaaaGreatDoor
open Go Go.RowKit Go.Proofs
def w8 (x : Int) (i : Nat) : Int := IntKind.u8.wrap (shrI .u64 x (8 * (i : Int)))
def word8 (x : Int) (n : Nat) : List Int := (List.range n).map (w8 x)
/-- Words, one behind the other. -/
def wordsB (ws : List Int) : List Int := ws.flatMap fun x => word8 x 8
def boolB (b : Bool) : Int := if b = true then 1 else 0
def accW (x : Acc) : List Int := [x.a, x.bal, x.bond, x.non]
def formB (x : Acc) : List Int := wordsB (accW x) ++ [boolB x.jail]
/-- Bytes of the call's own. -/
structure Ob where
 b : Option Addr
 c : Nat
 xs : List Int
def Ob.val (u : Ob) : Value := .slice u.b u.xs.length u.c
def Ob.own (u : Ob) : HP := ownS 5 1 u.val u.xs.length (ints .u8 u.xs)
def formsOk (qs : List Ob) (l : List Acc) : Prop := qs.map Ob.xs = l.map formB ∧ ∀ u ∈ qs, u.xs.length ≤ u.c
theorem formsOk.len {qs : List Ob} {l : List Acc} (h : formsOk qs l) : qs.length = l.length := by have := congrArg List.length h.1; simpa using this
theorem formsOk.snoc {qs : List Ob} {l : List Acc} {i : Nat} {m : Acc} {u : Ob} (h : formsOk qs (l.take i)) (hm : l[i]? = some m) (hu : u.xs = formB m) (hc : u.xs.length ≤ u.c) : formsOk (qs ++ [u]) (l.take (i + 1)) := by
 refine ⟨?_, fun x hx => ?_⟩
 ·rw [List.map_append, h.1, List.take_add_one, hm, List.map_append]; simp [hu]
 ·rcases List.mem_append.1 hx with hx | hx
  ·exact h.2 x hx
  ·obtain rfl := List.mem_singleton.1 hx; exact hc
theorem newW_ok {gl : Nat → Obj} : Spec (cx gl) 172 [] (fun _ _ => True) [] (fun v rs => ∃ wb, v = .pointer (some ⟨wb, 0, none⟩) ∧ rs = [blk wb [.bool true, .slice none 0 0, .int .i64 0] 343]) := by
 refine Spec.enter (C := cx gl) Tryz.func172 rfl 3 rfl rfl fun w0 h0 hsep hsub hpre => ?_
 obtain rfl : h0 = Heap.none := hsep
 show St (cx gl) _ [] _ _
 refine rT (lA (k:=?_))
 refine L_nil (qT (rT ?_))
 refine lP (P_buildStruct rfl ty_pl_343 ty_ze_343 rfl rfl (rfl)) (k:=?_)
 refine E_as (t := 1) (v' := .agg [.bool true, .slice none 0 0, .int .i64 0].toArray) rfl rfl ?_
 refine lO (W_box ([.bool true, .slice none 0 0, .int .i64 0]) rfl rfl rfl rfl rfl fun b2 => lA (k:=?_))
 refine lQ (cE 0 rfl .nil) (R_ret ?_)
 exact R_end (rs2 := _) rfl rfl (.tmp rfl .nil) (⟨_, rfl, rfl⟩) (Weak.refl _)
theorem live_ok {gl : Nat → Obj} (wb : Nat) (bv : Value) : SpecR (cx gl) 304 [.pointer (some ⟨wb, 0, none⟩)] (fun _ _ => True) [blk wb [.bool true, bv, .int .i64 0] 343] (.bool true) [blk wb [.bool true, bv, .int .i64 0] 343] := by
 refine Spec.enter (C := cx gl) Tryz.func304 rfl 18 rfl rfl fun w0 h0 hsep hsub hpre => ?_
 show St (cx gl) _ [(0, .pointer (some ⟨wb, 0, none⟩))] _ _
 refine rT (lA (k:=?_))
 refine L_nil (qT (rT (lMv (k:=?_))))
 refine lP (P_neNil rfl ty_ptr_272 rfl rfl) (k:=lMv (k:=lMv (k:=lP pN (k:=lP (pF ty_fl_343_0) (k:=lV (vB ty_sc_4 .h0) (k:=?_))))))
 refine E_true (t := 9) rfl (rfl) (lP pK (k:=lMv (k:=lMv (k:=lP pN (k:=lP (pF ty_fl_343_2) (k:=lV (vB ty_sc_31 .h0) (k:=lP pEq (k:=?_))))))))
 refine E_true (t := 16) rfl (rfl) (lP pK (k:=lA (k:=?_)))
 refine lQ (cE 2 rfl .nil) (R_ret ?_)
 exact R_end (rs2 := _) rfl rfl (.tmp rfl .nil) (⟨rfl, rfl⟩) (Weak.refl _)
theorem put_ok {gl : Nat → Obj} (wb : Nat) (bv : Value) (n : Nat) (xs : List Int) (hn : n ≤ 100000000) (y : Int) (bb : Option Addr) (bc : Nat) (hbc : 1 ≤ bc) : Spec (cx gl) 280 [.pointer (some ⟨wb, 0, none⟩), .slice bb 1 bc] (fun w h => Seen w h bb (ints .u8 [y])) [blk wb [.bool true, bv, .int .i64 0] 343, ownS 5 1 (bv) (n) (ints .u8 (xs))] (fun v rs => v = .tuple #[] ∧ ∃ bv', rs = [blk wb [.bool true, bv', .int .i64 0] 343, ownS 5 1 (bv') (n + 1) (ints .u8 (xs ++ [y]))]) := by
 refine Spec.enter (C := cx gl) Tryz.func280 rfl 15 rfl rfl fun w0 h0 hsep hsub hpre => ?_
 show St (cx gl) _ [(0, .pointer (some ⟨wb, 0, none⟩)), (1, .slice bb 1 bc)] _ _
 refine rT (lMv (k:=?_))
 refine lO (W_callR rfl rfl rfl rfl fn_ca_304 (live_ok wb bv) (Weak.refl _) (fun _ _ _ _ _ _ _ => trivial) ?_)
 refine E_true (t := 5) rfl (rfl) ?_
 refine lQ (cE 0 rfl (cE 1 rfl (cE 5 rfl .nil))) (kT (k:=rR (lMv (k:=lMv (k:=lP pN (k:=lP (pF ty_fl_343_1) (k:=lV (vB ty_sc_198 .h0) (k:=lMv (k:=?_)))))))))
 refine lO (W_append (p := [_]) rfl rfl rfl ty_sl_198 ty_ap_198 ty_src_198 rfl rfl rfl (Src.row (news := ints .u8 [y]) (Sn.old hpre).rw_ (by rw [ints_length]; rfl) ints_one) (by omega) (by simp only [maxLen]; omega) fun v12 => ?_)
 refine St.ownForm (p := [_]) fun nb nc hnv hnc => ?_
 subst hnv
 refine lP pN (k:=lP (pF ty_fl_343_1) (k:=?_))
 refine lO (W_store rfl rfl rfl rfl ty_sc_198 rfl .h0 (by first | decide | (simp [ints]; done) | (simp [ints]; omega)) ?_)
 refine lE (.nil) ?_
 exact R_end0 (rs2 := _) rfl rfl (.nil) (⟨rfl, _, rfl⟩) (Weak.keep (ownS.to2 rfl (by rw [ints_append])))
theorem cloneB_ok {gl : Nat → Obj} (base : Option Addr) (c : Nat) (xs : List Int) (hc : xs.length ≤ c) (hx : 0 < xs.length) (hmax : xs.length ≤ 100000000) : Spec (cx gl) 233 [.slice base xs.length c] (fun w _ => Row w base (ints .u8 xs)) [] (fun v rs => rs = [ownS 5 1 (v) (xs.length) (ints .u8 (xs))]) := by
 refine Spec.enter (C := cx gl) Tryz.func233 rfl 8 rfl rfl fun w0 h0 hsep hsub hpre => ?_
 obtain rfl : h0 = Heap.none := hsep
 show St (cx gl) _ [(0, .slice base xs.length c)] _ _
 obtain ⟨pb, pj, rfl, hrow⟩ := hpre.some_ (by rw [ints_length]; exact hx)
 refine rT (lA (k:=?_))
 refine L_nil (qT (rS (rT (lMv (k:=?_)))))
 refine lP (P_eql_slice rfl ty_sl_198 rfl rfl) (k:=?_)
 refine E_false (t := 4) rfl (rfl) ?_
 refine lQ (cE 0 rfl (cE 2 rfl (cE 4 rfl .nil))) (kF (k:=R_skip (qT (rT ?_))))
 refine lO (W_lit0 rfl rfl rfl ty_sl_198 fun b5 => ?_)
 refine St.res (rs' := [ownS 5 1 (.slice (some ⟨b5, 0, none⟩) 0 0) (0) (ints .u8 ([]))]) (Weak.turn .h0 (ownS.of_blk rfl (by decide))) (lMv (k:=?_))
 refine lO (W_append (p := []) rfl rfl rfl ty_sl_198 ty_ap_198 ty_src_198 rfl rfl rfl (Src.row (Sn.row hpre rfl).rw_ (by rw [ints_length]; omega) ints_one) (by omega) (by simp only [maxLen]; omega) fun v7 => lA (k:=?_))
 refine lQ (cE 2 rfl .nil) (R_ret ?_)
 exact R_end (rs2 := _) rfl rfl (.tmp rfl .nil) (rfl) (ownS.to2 (by omega) (List.nil_append _))
theorem Out_ok {gl : Nat → Obj} (wb : Nat) (ub : Option Addr) (uc : Nat) (xs : List Int) (hc : xs.length ≤ uc) (hx : 0 < xs.length) (hmax : xs.length ≤ 100000000) : Spec (cx gl) 174 [.pointer (some ⟨wb, 0, none⟩)] (fun _ _ => True) [blk wb [.bool true, .slice ub xs.length uc, .int .i64 0] 343, ownS 5 1 (.slice ub xs.length uc) (xs.length) (ints .u8 (xs))] (fun v rs => ∃ u, v = .tuple #[u, .int .i64 0] ∧ rs = [ownS 5 1 (u) (xs.length) (ints .u8 (xs))]) := by
 refine Spec.enter (C := cx gl) Tryz.func174 rfl 27 rfl rfl fun w0 h0 hsep hsub hpre => ?_
 show St (cx gl) _ [(0, .pointer (some ⟨wb, 0, none⟩))] _ _
 refine rT (lA (k:=lA (k:=?_)))
 refine L_nil (qT (rS (rT (lMv (k:=?_)))))
 refine lP (P_eqNil rfl ty_ptr_272 rfl rfl) (k:=lMv (k:=lMv (k:=lP pN (k:=lP (pF ty_fl_343_0) (k:=lV (vB ty_sc_4 .h0) (k:=lP pO (k:=?_)))))))
 refine E_false (t := 11) rfl (rfl) (lP pK (k:=?_))
 refine lQ (cE 0 rfl (cE 2 rfl (cE 3 rfl (cE 12 rfl .nil)))) (kF (k:=R_skip (qT (rS (rT (lMv (k:=lP pN (k:=lP (pF ty_fl_343_2) (k:=lV (vB ty_sc_31 .h0) (k:=lP pNe (k:=?_)))))))))))
 refine E_false (t := 17) rfl (rfl) ?_
 refine lQ (cE 0 rfl (cE 2 rfl (cE 3 rfl (cE 17 rfl .nil)))) (kF (k:=R_skip (qT (rT (lMv (k:=lP pN (k:=lP (pF ty_fl_343_1) (k:=lV (vB ty_sc_198 .h0) (k:=?_)))))))))
 refine lO (W_call rfl rfl rfl rfl fn_ca_233 (cloneB_ok ub uc xs hc hx hmax) (Split.nil _) (fun w a b _ hb dj m => (Sn.own .h1 rfl).rw_ w ⟨_, hb, m.le (Heap.le_join_right dj)⟩) fun v1 rs1 (e1 : rs1 = _) => ?_)
 subst e1
 refine lA (k:=lA (k:=?_))
 refine lQ (cE 2 rfl (cE 3 rfl .nil)) (R_ret ?_)
 exact R_end (rs2 := _) rfl rfl (.tmp rfl (.tmp rfl .nil)) (⟨_, rfl, rfl⟩) (Weak.keep (Weak.nil _))
end Go.Proofs.YtcngmkjdpoiiaaaGreatDoor

/- How ledgers, settings, transactions are read. Printed by gen.py. -/
set_option maxRecDepth 100000
namespace Go.Proofs.YtcngmkjdpoiiaaaGreatDoor
open Go Go.RowKit Go.ChangeShapes Go.WideShapes Go.Proofs
/-- A transaction. -/
structure Tx where
 kind : Int
 frm : Int
 to : Int
 amt : Int
 fee : Int
 non : Int
 sg16 : List Int
def Tx.cells (x : Tx) : List Value := [.int .i64 x.kind, .int .u64 x.frm, .int .u64 x.to, .int .u64 x.amt, .int .u64 x.fee, .int .u64 x.non] ++ ints .u8 x.sg16
structure Tx.ok (x : Tx) : Prop where
 kind : -9223372036854775808 ≤ x.kind ∧ x.kind ≤ 9223372036854775807
 frm : u64 x.frm
 to : u64 x.to
 amt : u64 x.amt
 fee : u64 x.fee
 non : u64 x.non
 sg16 : IsB x.sg16
 len : x.sg16.length = 16
theorem Tx.ok.cellsLen {x : Tx} (h : x.ok) : x.cells.length = 22 := by unfold Tx.cells; rw [List.length_append, ints_length, h.len]; rfl
theorem Tx.one (x : Tx) : ∀ v ∈ x.cells, v.oneCell' = true := by
 intro v hv; unfold Tx.cells at hv
 rcases List.mem_append.1 hv with hv | hv
 ·simp only [List.mem_cons, List.not_mem_nil, or_false] at hv
  rcases hv with rfl | rfl | rfl | rfl | rfl | rfl <;> rfl
 ·exact ints_one v hv
structure Par.ok (p : Par) : Prop where
 mb : u64 p.mb
 seats : -9223372036854775808 ≤ p.seats ∧ p.seats ≤ 9223372036854775807
 p2 : u64 p.p2
 p3 : u64 p.p3
 p4 : u64 p.p4
 p5 : -9223372036854775808 ≤ p.p5 ∧ p.p5 ≤ 9223372036854775807
 p6 : u64 p.p6
 p7 : u64 p.p7
 p8 : u64 p.p8
 p9 : u64 p.p9
 p10 : u64 p.p10
 p11 : u64 p.p11
/-- A ledger as it is handed in. -/
structure LedI where
 s : Sl Acc
 r : Sl Rel
 bu : Int
 su : Int
def LedI.cells (x : LedI) : List Value := ledV x.s.val x.r.val x.bu x.su
def LedI.led (x : LedI) : Led := ⟨x.s.xs, x.r.xs, x.bu, x.su⟩
structure LedI.ok (W : World) (x : LedI) : Prop where
 hc : x.s.xs.length ≤ x.s.c
 hc' : x.r.xs.length ≤ x.r.c
 row : Row W x.s.b (rc x.s.xs)
 row' : Row W x.r.b (rc x.r.xs)
 ok : ∀ y ∈ x.s.xs, y.ok
 ok' : ∀ y ∈ x.r.xs, y.ok
 bu : u64 x.bu
 su : u64 x.su
theorem fits64 {z : Int} (h : fits .u64 z) : u64 z := by simp only [fits] at h; exact ⟨by omega, by omega⟩
theorem cells_acc : Tryz.prog.cellsOf 50 = 5 := by kernel_rfl
theorem bytes_acc : Tryz.prog.bytesOf 50 = 40 := by kernel_rfl
theorem fs_acc : fsB Tryz.prog 50 [(26, 0, 1), (23, 1, 1), (23, 2, 1), (23, 3, 1), (4, 4, 1)] = true := by kernel_rfl
def accOf (a : Int × Int × Int × Int × Bool × Unit) : Acc := ⟨a.1, a.2.1, a.2.2.1, a.2.2.2.1, a.2.2.2.2.1⟩
def rd_acc := PLift.up (Reads.as (cells' := Acc.cells) (Hd' := fun _ x => x.ok) (bulk' := fun _ => 1) (Small' := fun _ => True) accOf (Reads.struct fs_acc cells_acc (ReadsF.cons (Reads.int ty_int_26) (ReadsF.cons (Reads.int ty_int_23) (ReadsF.cons (Reads.int ty_int_23) (ReadsF.cons (Reads.int ty_int_23) (ReadsF.cons (Reads.bool ty_bool_4) ReadsF.nil)))))) (fun _ => rfl) (fun W a h => by
 obtain ⟨⟨⟨h1, _⟩, ⟨h2, _⟩, ⟨h3, _⟩, ⟨h4, _⟩, _⟩, _⟩ := h
 exact ⟨fits64 h1, fits64 h2, fits64 h3, fits64 h4⟩) (fun _ => by omega) (fun _ _ => trivial))
def rd_accs := PLift.up (Reads.slice ty_sl_22 cells_acc bytes_acc (fun _ => .inr trivial) rd_acc.down)
theorem cells_rel : Tryz.prog.cellsOf 175 = 4 := by kernel_rfl
theorem bytes_rel : Tryz.prog.bytesOf 175 = 32 := by kernel_rfl
theorem fs_rel : fsB Tryz.prog 175 [(23, 0, 1), (26, 1, 1), (23, 2, 1), (23, 3, 1)] = true := by kernel_rfl
def relOf (a : Int × Int × Int × Int × Unit) : Rel := ⟨a.1, a.2.1, a.2.2.1, a.2.2.2.1⟩
def rd_rel := PLift.up (Reads.as (cells' := Rel.cells) (Hd' := fun _ x => x.ok) (bulk' := fun _ => 1) (Small' := fun _ => True) relOf (Reads.struct fs_rel cells_rel (ReadsF.cons (Reads.int ty_int_23) (ReadsF.cons (Reads.int ty_int_26) (ReadsF.cons (Reads.int ty_int_23) (ReadsF.cons (Reads.int ty_int_23) ReadsF.nil))))) (fun _ => rfl) (fun W a h => by
 obtain ⟨⟨⟨h1, _⟩, ⟨h2, _⟩, ⟨h3, _⟩, ⟨h4, _⟩, _⟩, _⟩ := h
 exact ⟨fits64 h1, fits64 h2, fits64 h3, fits64 h4⟩) (fun _ => by omega) (fun _ _ => trivial))
def rd_rels := PLift.up (Reads.slice ty_sl_28 cells_rel bytes_rel (fun _ => .inr trivial) rd_rel.down)
theorem cells_led : Tryz.prog.cellsOf 30 = 4 := by kernel_rfl
theorem fs_led : fsB Tryz.prog 30 [(22, 0, 1), (28, 1, 1), (23, 2, 1), (23, 3, 1)] = true := by kernel_rfl
def ledOf (a : Sl Acc × Sl Rel × Int × Int × Unit) : LedI := ⟨a.1, a.2.1, a.2.2.1, a.2.2.2.1⟩
theorem ones_sum {α : Type} (xs : List α) : (xs.map fun _ => 1).sum = xs.length := by induction xs with
 | nil => rfl
 | cons x xs ih => rw [List.map_cons, List.sum_cons, ih, List.length_cons]; omega
def rd_led := PLift.up (Reads.as (cells' := LedI.cells) (Hd' := LedI.ok) (bulk' := fun x => x.s.xs.length + x.r.xs.length) (Small' := fun x => x.s.xs.length * 40 ≤ reachBytes ∧ x.r.xs.length * 32 ≤ reachBytes) ledOf (Reads.struct fs_led cells_led (ReadsF.cons rd_accs.down (ReadsF.cons rd_rels.down (ReadsF.cons (Reads.int ty_int_23) (ReadsF.cons (Reads.int ty_int_23) ReadsF.nil))))) (fun _ => rfl) (fun W a h => by
 obtain ⟨⟨⟨⟨h1, _, h2, h3⟩, _⟩, ⟨⟨h4, _, h5, h6⟩, _⟩, ⟨h7, _⟩, ⟨h8, _⟩, _⟩, _⟩ := h
 exact ⟨h1, h4, h2, h5, fun y hy => (h3 y hy).1, fun y hy => (h6 y hy).1, fits64 h7, fits64 h8⟩) (fun a => by have h1 := ones_sum a.1.xs; have h2 := ones_sum a.2.1.xs; show a.1.xs.length + a.2.1.xs.length ≤ ((a.1.xs.map fun _ => 1).sum + 1 + ((a.2.1.xs.map fun _ => 1).sum + 1 + _)) + 1; omega) (fun a h => ⟨h.1.1, h.2.1.1⟩))
theorem cells_par : Tryz.prog.cellsOf 25 = 12 := by kernel_rfl
theorem fs_par : fsB Tryz.prog 25 [(23, 0, 1), (3, 1, 1), (23, 2, 1), (23, 3, 1), (23, 4, 1), (3, 5, 1), (23, 6, 1), (23, 7, 1), (23, 8, 1), (23, 9, 1), (23, 10, 1), (23, 11, 1)] = true := by kernel_rfl
def parOf (a : Int × Int × Int × Int × Int × Int × Int × Int × Int × Int × Int × Int × Unit) : Par := ⟨a.1, a.2.1, a.2.2.1, a.2.2.2.1, a.2.2.2.2.1, a.2.2.2.2.2.1, a.2.2.2.2.2.2.1, a.2.2.2.2.2.2.2.1, a.2.2.2.2.2.2.2.2.1, a.2.2.2.2.2.2.2.2.2.1, a.2.2.2.2.2.2.2.2.2.2.1, a.2.2.2.2.2.2.2.2.2.2.2.1⟩
def rd_par := PLift.up (Reads.as (cells' := Par.cells) (Hd' := fun _ p => p.ok) (bulk' := fun _ => 1) (Small' := fun _ => True) parOf (Reads.struct fs_par cells_par (ReadsF.cons (Reads.int ty_int_23) (ReadsF.cons (Reads.int ty_int_3) (ReadsF.cons (Reads.int ty_int_23) (ReadsF.cons (Reads.int ty_int_23) (ReadsF.cons (Reads.int ty_int_23) (ReadsF.cons (Reads.int ty_int_3) (ReadsF.cons (Reads.int ty_int_23) (ReadsF.cons (Reads.int ty_int_23) (ReadsF.cons (Reads.int ty_int_23) (ReadsF.cons (Reads.int ty_int_23) (ReadsF.cons (Reads.int ty_int_23) (ReadsF.cons (Reads.int ty_int_23) ReadsF.nil))))))))))))) (fun _ => rfl) (fun W a h => by
 obtain ⟨⟨⟨h0, _⟩, ⟨h1, _⟩, ⟨h2, _⟩, ⟨h3, _⟩, ⟨h4, _⟩, ⟨h5, _⟩, ⟨h6, _⟩, ⟨h7, _⟩, ⟨h8, _⟩, ⟨h9, _⟩, ⟨h10, _⟩, ⟨h11, _⟩, _⟩, _⟩ := h
 exact ⟨fits64 h0, h1, fits64 h2, fits64 h3, fits64 h4, h5, fits64 h6, fits64 h7, fits64 h8, fits64 h9, fits64 h10, fits64 h11⟩) (fun _ => by omega) (fun _ _ => trivial))
section
variable {H : Type} {enc : TypeId × Value → H} {P : Program} {w : World} {base : Nat} {spare : Nat → Bool} {held : Bool}
end
theorem cells_u8 : Tryz.prog.cellsOf 5 = 1 := by kernel_rfl
theorem cells_seal : Tryz.prog.cellsOf 65 = 16 := by kernel_rfl
theorem cells_tx : Tryz.prog.cellsOf 67 = 22 := by kernel_rfl
theorem fs_tx : fsB Tryz.prog 67 [(3, 0, 1), (26, 1, 1), (26, 2, 1), (23, 3, 1), (23, 4, 1), (23, 5, 1), (65, 6, 16)] = true := by kernel_rfl
def txOf (a : Int × Int × Int × Int × Int × Int × List Int × Unit) : Tx := ⟨a.1, a.2.1, a.2.2.1, a.2.2.2.1, a.2.2.2.2.1, a.2.2.2.2.2.1, a.2.2.2.2.2.2.1⟩
def rd_tx := PLift.up (Reads.as (cells' := Tx.cells) (Hd' := fun _ x => x.ok) (bulk' := fun _ => 1) (Small' := fun _ => True) txOf (Reads.struct fs_tx cells_tx (ReadsF.cons (Reads.int ty_int_3) (ReadsF.cons (Reads.int ty_int_26) (ReadsF.cons (Reads.int ty_int_26) (ReadsF.cons (Reads.int ty_int_23) (ReadsF.cons (Reads.int ty_int_23) (ReadsF.cons (Reads.int ty_int_23) (ReadsF.cons (Reads.ints (k := .u8) ty_un_65 ty_int_5 cells_u8 cells_seal) ReadsF.nil)))))))) (fun a => by simp [Tx.cells, txOf]) (fun W a h => by
 obtain ⟨⟨⟨h0, _⟩, ⟨h1, _⟩, ⟨h2, _⟩, ⟨h3, _⟩, ⟨h4, _⟩, ⟨h5, _⟩, ⟨⟨h6, h7⟩, _⟩, _⟩, _⟩ := h
 exact ⟨h0, fits64 h1, fits64 h2, fits64 h3, fits64 h4, fits64 h5, fun x hx => by have := h7 x hx; simp only [fits] at this; omega, h6⟩) (fun _ => by omega) (fun _ _ => trivial))
end Go.Proofs.YtcngmkjdpoiiaaaGreatDoor

/- The twenty-first part of the program logic: a text is appended; append to a slice without room that the call only reads; a function value is called. -/
namespace Go.Proofs.YtcngmkjdpoiiaaaGreatDoor
open Go Go.RowKit
section
variable {C : Cx} {F : Fx} {l : Env} {rs rs' : List HP} {K : Act → World → Prop} {o : Oper} {Q : Exit → Act → World → Prop} {d : Nat}
theorem extract_all (s : ByteArray) : s.extract 0 s.size = s := by
 apply ByteArray.ext
 simp
theorem Src.str {xs : List Int} (hb : IsB xs) : Src C F rs 1 (.string (strOfNums xs)) xs.length (ints .u8 xs) where
 len := by show (pure (strOfNums xs).size : Sem Nat) = _; rw [strOfNums_size]
 cells := fun w _ => by
  have h : (Builtin.firstCells 1 xs.length (.string (strOfNums xs))).run C.P w = .ok (((strOfNums xs).extract 0 xs.length).data.map fun b => Value.int .u8 (b.toNat : Int)) w := rfl
  rw [h, ← strOfNums_size xs, extract_all]
  congr 1
  apply Array.ext'
  rw [Array.toList_map]
  exact ints_strOfNums hb
 size := by rw [ints_length]; omega
 one := ints_one
theorem P_lenStrN {t : Nat} {x : Operand} {xs : List Int} (ho : o.op = .call { callee := .builtin .len, args := #[x], argTypes := #[t] }) (ht : C.P.underlying t = some .string) (hx : ev l x = some (.string (strOfNums xs))) : OpP C F l o (.int .i64 (xs.length : Int)) := by
 have h := P_lenStr (C := C) (F := F) ho ht hx
 rwa [strOfNums_size] at h
theorem W_callF {g : Operand} {xs : List Operand} {ts : Array TypeId} {f : FuncId} {fi ca args vs : List Value} {pre : World → Heap → Prop} {R0 rest : List HP} {post : Value → List HP → Prop}
  (ho : o.op = .call { callee := .value g, args := xs.toArray, argTypes := ts }) (hg : ev l g = some (.func (.func f) fi.toArray ca.toArray)) (hd : o.dst = some d) (hn : Nat.blt d F.n = true) (hx : evL l xs = some vs) (hvs : fi ++ vs ++ ca = args) (hc : callable C.P f = true) (hs : Spec C f args pre R0 post)
  (sp : Split rs R0 rest) (hp : ∀ w a b, Sep R0 a → Sep rest b → a.Disj b → Move C F.w F.h w (a.join b) → pre w a)
  (k : ∀ v rs', post v rs' → St C F ((d, v) :: l) (rs' ++ rest) K) : OpW C F l rs o K Q :=
 W_callv ho hg hx hvs hc hs sp hp fun v rs' hpost a w r n => by rw [hd]; exact k v rs' hpost _ w (r.put hn v) n
/-- What a block that a call may read holds, read as it lies. -/
theorem Sn.rds {b : Nat} {cs : List Value} (s : Sn C F rs (some ⟨b, 0, none⟩) cs) : Rds C F rs ⟨b, 0, none⟩ cs := by
 have h := Rds.sn (C := C) (F := F) (k := 0) (us := cs) s fun i v hv => by rw [Nat.zero_add]; exact hv
 exact h
end
end Go.Proofs.YtcngmkjdpoiiaaaGreatDoor
