/- The sixth part of the program logic: functions that only compute; equality of arrays and structs; copy, make. -/
import Derived.Test.YtfhjhaogmdaepaaEngE
import Derived.ChangeKeysEq
set_option linter.unusedVariables false
set_option linter.unusedSimpArgs false
namespace Go.Proofs.Ytfhjhaogmdaepaa
open Go Go.RowKit

/-- A function that computes: in every world that meets 'pre' it returns v, and all that was is as it was. -/
def SpecV (C : Cx) (f : FuncId) (args : List Value) (pre : World → Prop) (v : Value) : Prop := Spec C f args (fun w _ => pre w) [] (fun u rs => u = v ∧ rs = [])
def noPre : World → Prop := fun _ => True

theorem SpecV.mono {C : Cx} {f : FuncId} {args : List Value} {pre pre' : World → Prop} {v v' : Value} (h : SpecV C f args pre v) (hp : ∀ w, pre' w → pre w) (hv : v = v') : SpecV C f args pre' v' :=
  hv ▸ Spec.mono h (fun w _ => hp w) fun _ _ x => x

section
variable {C : Cx} {F : Fx} {l : Env} {rs rs' : List HP} {K : Act → World → Prop} {o : Oper} {Q : Exit → Act → World → Prop} {d : Nat}

theorem W_callV {xs : List Operand} {ts : Array TypeId} {f : FuncId} {vs : List Value} {v : Value} {pre : World → Prop}
    (ho : o.op = .call { callee := .value (.func f), args := xs.toArray, argTypes := ts }) (hd : o.dst = some d) (hn : Nat.blt d F.n = true) (hx : evL l xs = some vs) (hc : callable C.P f = true) (hs : SpecV C f vs pre v)
    (hp : ∀ w, Now C F rs w → pre w) (k : St C F ((d, v) :: l) rs K) : OpW C F l rs o K Q :=
  W_call ho hd hn hx hc hs (Split.nil rs) (fun w a b ha hb dj m => hp w ⟨b, hb, m.le (Heap.le_join_right dj)⟩) fun u rs1 ⟨h1, h2⟩ => by subst h1; subst h2; exact k
/-- A call through a function value. -/
theorem W_callFV {g : Operand} {xs : List Operand} {ts : Array TypeId} {f : FuncId} {fi ca args vs : List Value} {v : Value} {pre : World → Prop}
    (ho : o.op = .call { callee := .value g, args := xs.toArray, argTypes := ts }) (hg : ev l g = some (.func (.func f) fi.toArray ca.toArray)) (hd : o.dst = some d) (hn : Nat.blt d F.n = true) (hx : evL l xs = some vs) (hvs : fi ++ vs ++ ca = args) (hc : callable C.P f = true) (hs : SpecV C f args pre v)
    (hp : ∀ w, Now C F rs w → pre w) (k : St C F ((d, v) :: l) rs K) : OpW C F l rs o K Q :=
  W_callv ho hg hx hvs hc hs (Split.nil rs) (fun w a b ha hb dj m => hp w ⟨b, hb, m.le (Heap.le_join_right dj)⟩) fun u rs1 ⟨h1, h2⟩ a w r n => by
    subst h1; subst h2
    rw [hd]; exact k _ w (r.put hn _) n
/-- The end of a function that only computes. -/
theorem R_endV {fn : Func} {xs : List ResultVar} {vs : List Value} {v : Value} (hds : F.ds = []) (hf : fn.results = xs.toArray) (h : ResV C F l rs xs vs) (hv : packV vs = v) :
    St C F l rs (bodyPost C.P fn (fun e w' => ∃ u rs h', e = .returned u ∧ (u = v ∧ rs = []) ∧ Sep rs h' ∧ Move C F.w F.h w' h') .ret) :=
  R_end (post := fun u rs => u = v ∧ rs = []) hds hf h ⟨hv, rfl⟩ (Weak.nil rs)
theorem R_endV0 {fn : Func} {xs : List ResultVar} {vs : List Value} {v : Value} (hds : F.ds = []) (hf : fn.results = xs.toArray) (h : ResV C F l rs xs vs) (hv : packV vs = v) :
    St C F l rs (bodyPost C.P fn (fun e w' => ∃ u rs h', e = .returned u ∧ (u = v ∧ rs = []) ∧ Sep rs h' ∧ Move C F.w F.h w' h') .normal) :=
  R_end0 (post := fun u rs => u = v ∧ rs = []) hds hf h ⟨hv, rfl⟩ (Weak.nil rs)
end

/-! ### Equality of aggregates whose cells are whole numbers -/
def ints (k : IntKind) (xs : List Int) : List Value := xs.map (Value.int k)
theorem ints_length (k : IntKind) (xs : List Int) : (ints k xs).length = xs.length := by simp [ints]
theorem ints_at {k : IntKind} {xs : List Int} {i : Nat} (h : i < xs.length) : (ints k xs)[i]? = some (.int k (xs.getD i 0)) := by simp [ints, h, List.getD]
theorem ints_set (k : IntKind) (xs : List Int) (i : Nat) (n : Int) : (ints k xs).set i (.int k n) = ints k (xs.set i n) := by simp [ints, List.map_set]
theorem ints_one {k : IntKind} {xs : List Int} : ∀ v ∈ ints k xs, v.oneCell' = true := fun v h => by
  obtain ⟨x, _, rfl⟩ := List.mem_map.1 h; rfl
theorem ints_append (k : IntKind) (xs ys : List Int) : ints k xs ++ ints k ys = ints k (xs ++ ys) := by simp [ints]
theorem ints_take (k : IntKind) (xs : List Int) (i : Nat) : (ints k xs).take i = ints k (xs.take i) := by simp [ints]
theorem ints_drop (k : IntKind) (xs : List Int) (i : Nat) : (ints k xs).drop i = ints k (xs.drop i) := by simp [ints]
theorem ints_inj {k : IntKind} {xs ys : List Int} (h : ints k xs = ints k ys) : xs = ys := by
  unfold ints at h
  exact (List.map_inj_right (fun a b h => by injection h)).1 h
theorem ints_splice (k : IntKind) (xs ys : List Int) (o : Nat) : splice (ints k xs) o (ints k ys) = ints k (xs.take o ++ ys ++ xs.drop (o + ys.length)) := by simp [splice, ints]

section
variable {P : Program}
theorem run_eqItems_ints {e : TypeId} {k : IntKind} (he : P.underlying e = some (.int k)) (hsc : scB P e = true) (dp : Nat) (w : World) (xs ys : List Int) : ∀ (m i : Nat), i + m = xs.length → i + m = ys.length → xs.take i = ys.take i →
    (Op.eqItems (dp + 1) e 1 (ints k xs).toArray (ints k ys).toArray (List.range' i m)).run P w = .ok (decide (xs = ys)) w
  | 0, i, hx, hy, h => by
    rw [List.take_of_length_le (by omega), List.take_of_length_le (by omega)] at h
    subst h
    simp [Op.eqItems]
  | m + 1, i, hx, hy, h => by
    have hxi : i < xs.length := by omega
    have hyi : i < ys.length := by omega
    have e1 : (part e (ints k xs).toArray (i * 1)).run P w = .ok (.int k xs[i]) w := by simp [part, run_isAgg_sc hsc, ints, hxi]
    have e2 : (part e (ints k ys).toArray (i * 1)).run P w = .ok (.int k ys[i]) w := by simp [part, run_isAgg_sc hsc, ints, hyi]
    have e3 := run_equalIn_int (P := P) w dp e k k xs[i] ys[i] he
    rw [List.range'_succ]
    simp only [Op.eqItems, Sem.run_bind, e1, e2, e3, Result.andThen_ok]
    by_cases hh : xs[i] = ys[i]
    · have hb : (xs[i] == ys[i]) = true := by simpa using hh
      have := run_eqItems_ints he hsc dp w xs ys m (i + 1) (by omega) (by omega) (by rw [List.take_succ_eq_append_getElem hxi, List.take_succ_eq_append_getElem hyi, h, hh])
      simp only [hb, Bool.not_true, Bool.false_eq_true, if_false, this]
    · have hb : (xs[i] == ys[i]) = false := by simpa using hh
      have hne : xs ≠ ys := fun e => hh (by subst e; rfl)
      simp [hb, hne]
end
/-- The type is an array of whole numbers. -/
def eaB (P : Program) (t n : Nat) : Bool := match P.underlying t with
  | some (.array n' e) => n' == n && scB P e && (match P.underlying e with | some (.int _) => true | _ => false) && !P.eqGuardType P.depth t
  | _ => false
section
variable {C : Cx} {F : Fx} {l : Env} {rs rs' : List HP} {K : Act → World → Prop} {o : Oper} {Q : Exit → Act → World → Prop} {d : Nat}
theorem run_eqArr {P : Program} {t n e : Nat} {k : IntKind} {xs ys : List Int} {w : World} (ht : P.underlying t = some (.array n e)) (he : P.underlying e = some (.int k)) (hsc : scB P e = true) (hx : xs.length = n) (hy : ys.length = n) :
    (Op.equalIn 10000 t (.agg (ints k xs).toArray) (.agg (ints k ys).toArray)).run P w = .ok (decide (xs = ys)) w := by
  obtain ⟨i, hi, hs⟩ : ∃ i, P.info? e = some i ∧ i.size = 1 := by
    unfold scB at hsc
    rw [he] at hsc
    cases h : P.info? e with
    | none => simp [h] at hsc
    | some i => exact ⟨i, rfl, by simpa [h] using hsc⟩
  rw [show (10000 : Nat) = 9999 + 1 from rfl, run_equalIn_array w 9999 _ _ ht hi, List.range_eq_range']
  have : P.cellsOf e = 1 := by simp [Program.cellsOf, hi, hs]
  rw [this]
  exact run_eqItems_ints he hsc 9998 w xs ys n 0 (by omega) (by omega) rfl
theorem P_eqArr {t t' n e : Nat} {x y : Operand} {k : IntKind} {xs ys : List Int} (ho : o.op = .binOp .eql t x y t') (hx : ev l x = some (.agg (ints k xs).toArray)) (hy : ev l y = some (.agg (ints k ys).toArray))
    (ht : C.P.underlying t = some (.array n e)) (he : C.P.underlying e = some (.int k)) (hsc : scB C.P e = true) (hg : C.P.eqGuardType C.P.depth t = false) (h1 : xs.length = n) (h2 : ys.length = n) : OpP C F l o (.bool (decide (xs = ys))) := fun a w r => by
  have := run_eqArr (w := w) ht he hsc h1 h2
  simp only [execOp, ho, r.ev hx, r.ev hy, Sem.run_bind, run_eqGuard_agg w .eql t x y _ _ hg, Result.andThen_ok, run_eql_struct, this, Sem.run_pure]
theorem P_neArr {t t' n e : Nat} {x y : Operand} {k : IntKind} {xs ys : List Int} (ho : o.op = .binOp .neq t x y t') (hx : ev l x = some (.agg (ints k xs).toArray)) (hy : ev l y = some (.agg (ints k ys).toArray))
    (ht : C.P.underlying t = some (.array n e)) (he : C.P.underlying e = some (.int k)) (hsc : scB C.P e = true) (hg : C.P.eqGuardType C.P.depth t = false) (h1 : xs.length = n) (h2 : ys.length = n) : OpP C F l o (.bool (decide (xs ≠ ys))) := fun a w r => by
  have := run_eqArr (w := w) ht he hsc h1 h2
  simp only [execOp, ho, r.ev hx, r.ev hy, Sem.run_bind, run_eqGuard_agg w .neq t x y _ _ hg, Result.andThen_ok, run_neq_struct, this, Sem.run_pure]
  simp
/-- A full literal of an array whose elements are one cell each. -/
theorem P_buildArr {t n e : Nat} {parts : Array (Nat × Operand)} {vs zs : List Value} (ho : o.op = .build t parts) (ht : arB C.P t n e 1 = true) (hz : zeB C.P t zs) (hzl : zs.length = n) (hx : evL l (parts.toList.map (·.2)) = some vs) (hi : parts.toList.map (·.1) = List.range' 0 vs.length) (hl : vs.length = n)
    (h1 : ∀ v ∈ vs, v.oneCell' = true) : OpP C F l o (.agg vs.toArray) := fun a w r => by
  obtain ⟨h2, h3⟩ := arB_spec ht
  unfold zeB at hz
  obtain ⟨z, hz1, hz2⟩ := Option.map_eq_some_iff.1 hz
  obtain ⟨ti, hi1, hiz⟩ := Option.bind_eq_some_iff.1 hz1
  have hparts : (Array.map (fun x : Nat × Operand => match x with | (i, x) => (i, a.eval x)) parts).toList = (List.range' 0 vs.length).zip vs := by
    rw [Array.toList_map, ← hi, ← r.evL hx]
    simp [List.zip_map', Function.comp_def]
  have hcells : ∀ v ∈ vs, v.cells = #[v] := fun v hv => by have := h1 v hv; cases v <;> first | rfl | (simp [Value.oneCell'] at this)
  have hf := fill_flat 1 vs 0 [] zs (by simp) (by omega) (fun v hv => by rw [hcells v hv]; rfl)
  have hflat : vs.flatMap (·.cells.toList) = vs := by
    clear hf hparts hx hi hl
    induction vs with
    | nil => rfl
    | cons v vs ih => rw [List.flatMap_cons, hcells v (by simp), ih (fun u hu => h1 u (by simp [hu])) (fun u hu => hcells u (by simp [hu]))]; rfl
  rw [List.nil_append, List.nil_append, hflat] at hf
  have hzc : z.cells = zs.toArray := by rw [← hz2]
  simp only [execOp, ho, Instr.build, Sem.run_bind, zeroValue, typeInfo, run_program, Result.andThen_ok, hi1, Sem.run_pure, hiz, run_underlying h2, run_size h3, hparts, hzc, hf]
/-- A literal of an array of which only the first places are told. -/
theorem P_buildArrR {t n e : Nat} {parts : Array (Nat × Operand)} {vs zs : List Value} (ho : o.op = .build t parts) (ht : arB C.P t n e 1 = true) (hz : zeB C.P t zs) (hzl : zs.length = n) (hx : evL l (parts.toList.map (·.2)) = some vs) (hi : parts.toList.map (·.1) = List.range' 0 vs.length) (hl : vs.length ≤ n)
    (h1 : ∀ v ∈ vs, v.oneCell' = true) : OpP C F l o (.agg (vs ++ zs.drop vs.length).toArray) := fun a w r => by
  obtain ⟨h2, h3⟩ := arB_spec ht
  unfold zeB at hz
  obtain ⟨z, hz1, hz2⟩ := Option.map_eq_some_iff.1 hz
  obtain ⟨ti, hi1, hiz⟩ := Option.bind_eq_some_iff.1 hz1
  have hparts : (Array.map (fun x : Nat × Operand => match x with | (i, x) => (i, a.eval x)) parts).toList = (List.range' 0 vs.length).zip vs := by
    rw [Array.toList_map, ← hi, ← r.evL hx]
    simp [List.zip_map', Function.comp_def]
  have hcells : ∀ v ∈ vs, v.cells = #[v] := fun v hv => by have := h1 v hv; cases v <;> first | rfl | (simp [Value.oneCell'] at this)
  have hf := fill_flatR 1 (zs.drop vs.length) vs 0 [] (zs.take vs.length) (by simp) (by simp; omega) (fun v hv => by rw [hcells v hv]; rfl)
  have hflat : vs.flatMap (·.cells.toList) = vs := by
    clear hf hparts hx hi hl
    induction vs with
    | nil => rfl
    | cons v vs ih => rw [List.flatMap_cons, hcells v (by simp), ih (fun u hu => h1 u (by simp [hu])) (fun u hu => hcells u (by simp [hu]))]; rfl
  rw [List.nil_append, List.nil_append, hflat, List.take_append_drop] at hf
  have hzc : z.cells = zs.toArray := by rw [← hz2]
  simp only [execOp, ho, Instr.build, Sem.run_bind, zeroValue, typeInfo, run_program, Result.andThen_ok, hi1, Sem.run_pure, hiz, run_underlying h2, run_size h3, hparts, hzc, hf]
/-- The parts of a literal are laid into its zero cells. -/
def fillL (places : List (Nat × Nat)) : List Value → List (Nat × Value) → Option (List Value)
  | cs, [] => some cs
  | cs, (i, v) :: rest => match places[i]? with
    | some (off, size) => if v.cells.size = size ∧ off + size ≤ cs.length then fillL places (splice cs off v.cells.toList) rest else none
    | none => none
theorem foldl_splice : ∀ (us : List Value) (j off : Nat) (cs : List Value), off + j + us.length ≤ cs.length → (us.zipIdx j).foldl (fun (cs : Array Value) (x : Value × Nat) => cs.setIfInBounds (off + x.2) x.1) cs.toArray = (splice cs (off + j) us).toArray
  | [], j, off, cs, _ => by rw [splice_nil]; rfl
  | u :: us, j, off, cs, h => by
    simp only [List.length_cons] at h
    simp only [List.zipIdx_cons, List.foldl_cons]
    have e : (cs.toArray).setIfInBounds (off + j) u = (cs.set (off + j) u).toArray := by simp
    rw [e, foldl_splice us (j + 1) off (cs.set (off + j) u) (by simp; omega), ← Nat.add_assoc, splice_cons cs (off + j) u us (by omega)]
theorem fill_fillL (places : List (Nat × Nat)) : ∀ (parts : List (Nat × Value)) (cs res : List Value), fillL places cs parts = some res → Instr.fill (fun i => places.toArray[i]?) cs.toArray parts = some res.toArray
  | [], cs, res, h => by
    simp only [fillL, Option.some.injEq] at h
    subst h; rfl
  | (i, v) :: rest, cs, res, h => by
    unfold fillL at h
    unfold Instr.fill
    cases hp : places[i]? with
    | none => rw [hp] at h; cases h
    | some os =>
      obtain ⟨off, size⟩ := os
      rw [hp] at h
      simp only at h
      split at h
      · rename_i hc
        have h1 : ¬ (v.cells.size ≠ size) := by simpa using hc.1
        have h2 : ¬ (off + v.cells.size > cs.toArray.size) := by rw [hc.1]; simp; omega
        have hf := foldl_splice v.cells.toList 0 off cs (by simp [hc.1]; omega)
        rw [Nat.add_zero] at hf
        have e3 : (v.cells.zipIdx.foldl (fun (cs : Array Value) (x : Value × Nat) => match x with | (c, j) => cs.setIfInBounds (off + j) c) cs.toArray) = (splice cs off v.cells.toList).toArray := by
          rw [← hf, ← Array.foldl_toList, Array.toList_zipIdx]
        have hp' : places.toArray[i]? = some (off, size) := by simpa using hp
        simp only [hp', h1, h2, decide_false, Bool.or_self, Bool.false_eq_true, if_false, e3]
        exact fill_fillL places rest _ res h
      · cases h
/-- Where a struct's fields lie, and how many cells they have. -/
def plB (P : Program) (s : Nat) (places : List (Nat × Nat)) : Bool := match P.underlying s with
  | some (.struct fs) => fs.toList.map (fun f => (f.offset, (P.info? f.type).map (·.size))) == places.map fun p => (p.1, some p.2)
  | _ => false
theorem run_places {P : Program} {w : World} : ∀ (fs : List Field) (places : List (Nat × Nat)), fs.map (fun f => (f.offset, (P.info? f.type).map (·.size))) = places.map (fun p => (p.1, some p.2)) →
    (fs.mapM (m := Sem) fun f => do pure (f.offset, ← sizeOf f.type)).run P w = .ok places w
  | [], places, h => by
    cases places with
    | nil => simp
    | cons => cases h
  | f :: fs, places, h => by
    cases places with
    | nil => cases h
    | cons p places =>
      simp only [List.map_cons, List.cons.injEq, Prod.mk.injEq] at h
      obtain ⟨⟨h1, h2⟩, h3⟩ := h
      obtain ⟨i, hi, hs⟩ := Option.map_eq_some_iff.1 h2
      rw [List.mapM_cons]
      simp only [Sem.run_bind, sizeOf, typeInfo, run_program, Result.andThen_ok, hi, Sem.run_pure]
      have := run_places (P := P) (w := w) fs places h3
      simp only [sizeOf, typeInfo] at this
      rw [this]
      simp [hs, h1]
theorem P_buildStruct {t : Nat} {parts : Array (Nat × Operand)} {vs zs res : List Value} {is : List Nat} {places : List (Nat × Nat)} (ho : o.op = .build t parts) (ht : plB C.P t places = true) (hz : zeB C.P t zs) (hx : evL l (parts.toList.map (·.2)) = some vs) (hi : parts.toList.map (·.1) = is)
    (hres : fillL places zs (is.zip vs) = some res) : OpP C F l o (.agg res.toArray) := fun a w r => by
  unfold plB at ht
  split at ht
  · rename_i fs hfs
    have hpl := run_places (P := C.P) (w := w) fs.toList places (by simpa using ht)
    unfold zeB at hz
    obtain ⟨z, hz1, hz2⟩ := Option.map_eq_some_iff.1 hz
    obtain ⟨ti, hi1, hiz⟩ := Option.bind_eq_some_iff.1 hz1
    have hparts : (Array.map (fun x : Nat × Operand => match x with | (i, x) => (i, a.eval x)) parts).toList = is.zip vs := by
      rw [Array.toList_map, ← hi, ← r.evL hx]
      simp [List.zip_map', Function.comp_def]
    have hf := fill_fillL places (is.zip vs) zs res hres
    have hzc : z.cells = zs.toArray := by rw [← hz2]
    simp only [execOp, ho, Instr.build, Sem.run_bind, zeroValue, typeInfo, run_program, Result.andThen_ok, hi1, Sem.run_pure, hiz, run_underlying hfs, Array.mapM_eq_mapM_toList, Sem.run_map, hpl, hparts, hzc, hf]
  · cases ht
/-- &a[i] at the head of a block, its elements of one cell each. -/
theorem P_ixa0 {t n e b : Nat} {x ix : Operand} {k : IntKind} {m : Int} (i : Nat) (ho : o.op = .indexAddr t x ix) (ht : arB C.P t n e 1 = true) (hx : ev l x = some (.pointer (some ⟨b, 0, none⟩))) (hi : ev l ix = some (.int k m)) (he : m = i) (hn : i < n) :
    OpP C F l o (.pointer (some ⟨b, i, none⟩)) := by
  have := P_ixa (C := C) (F := F) i ho ht hx hi he hn
  rwa [Nat.zero_add, Nat.mul_one] at this
/-- A Bool slot is decided. -/
theorem E_bool {t : Nat} {b : Bool} (h : l.get? t = some (.bool b)) (ht : b = true → St C F ((t, .bool true) :: l) rs K) (hf : b = false → St C F ((t, .bool false) :: l) rs K) : St C F l rs K := by
  cases b
  · exact (hf rfl).env (.cons h (EnvLe.refl l))
  · exact (ht rfl).env (.cons h (EnvLe.refl l))
theorem E_true {t : Nat} {b : Bool} (h : l.get? t = some (.bool b)) (hb : b = true) (ht : St C F ((t, .bool true) :: l) rs K) : St C F l rs K := E_bool h (fun _ => ht) (fun e => by rw [hb] at e; cases e)
theorem E_false {t : Nat} {b : Bool} (h : l.get? t = some (.bool b)) (hb : b = false) (ht : St C F ((t, .bool false) :: l) rs K) : St C F l rs K := E_bool h (fun e => by rw [hb] at e; cases e) (fun _ => ht)
/-- A slot's value is told otherwise. -/
theorem E_as {t : Nat} {v v' : Value} (h : l.get? t = some v) (e : v = v') (k : St C F ((t, v') :: l) rs K) : St C F l rs K := k.env (.cons (e ▸ h) (EnvLe.refl l))
theorem E_nat {t n : Nat} {k : IntKind} {x : Int} (h : l.get? t = some (.int k x)) (e : x = n) (hk : St C F ((t, .int k (n : Int)) :: l) rs K) : St C F l rs K := E_as h (by rw [e]) hk
/-- The cells of a row that was there. -/
def RowAt (w : World) (ad : Addr) (cs : List Value) : Prop := ∀ j v, cs[j]? = some v → w.cell? (ad.add j) = some v
theorem Rd.row {b j i : Nat} {cs : List Value} {v : Value} (hp : RowAt F.w ⟨b, j, none⟩ cs) (hf : F.h b = none) (hv : cs[i]? = some v) : Rd C F rs ⟨b, j + i * 1, none⟩ v := by
  have := hp i v hv
  rw [add_zero_off] at this
  rw [Nat.mul_one]
  exact Rd.old this hf
theorem Rds.row {b j : Nat} {cs : List Value} (hp : RowAt F.w ⟨b, j, none⟩ cs) (hf : F.h b = none) : Rds C F rs ⟨b, j, none⟩ cs := Rds.of fun i v hv => by
  have := hp i v hv
  rw [add_zero_off] at this
  exact Rd.old this hf
theorem rep_ints (k : IntKind) (n : Nat) (x : Int) : List.replicate n (Value.int k x) = ints k (List.replicate n x) := by simp [ints]
/-! ### More on slices -/
theorem V_lenOwn {t e e' sz sz' bytes n : Nat} {x : Operand} {v : Value} {cs : List Value} (m : Has rs (ownS e' sz' v n cs) (ownS e' sz' v n cs) rs) (ho : o.op = .call { callee := .builtin .len, args := #[x], argTypes := #[t] }) (ht : slB C.P t e sz bytes = true) (hx : ev l x = some v) :
    OpV C F l rs o (.int .i64 n) := fun a w r nw => by
  obtain ⟨h, hv, _⟩ := nw.has m
  obtain ⟨b, cap, rfl, _⟩ := hv.form
  exact P_len (C := C) (F := F) ho ht hx a w r
theorem St.openOwn (p : List HP) {q : List HP} {T sz n : Nat} {v : Value} {cs : List Value} (hn : 0 < n) (h : ∀ b cap junk, n ≤ cap → cap * sz ≤ (cs ++ junk).length → v = .slice (some ⟨b, 0, none⟩) n cap → St C F l (p ++ blk b (cs ++ junk) T :: q) K) :
    St C F l (p ++ ownS T sz v n cs :: q) K := by
  refine St.openAt (X := Nat × Nat × List Value) (s := fun x => fun hp => (n ≤ x.2.1 ∧ x.2.1 * sz ≤ (cs ++ x.2.2).length ∧ v = .slice (some ⟨x.1, 0, none⟩) n x.2.1) ∧ blk x.1 (cs ++ x.2.2) T hp) p (fun hp hx => ?_) fun x => ?_
  · rcases hx.2 with ⟨_, h0, _⟩ | ⟨b, cap, junk, hv, hc, _, hl, hb⟩
    · omega
    · exact ⟨(b, cap, junk), ⟨hc, hl, hv⟩, hb⟩
  · intro a w hr ⟨hp, hs, hm⟩
    obtain ⟨c, d, hc, ⟨u, v', ⟨⟨h1, h2, h3⟩, hu⟩, hv, d1, rfl⟩, d2, rfl⟩ := Sep.append.1 hs
    exact h x.1 x.2.1 x.2.2 h1 h2 h3 a w hr ⟨_, Sep.append.2 ⟨c, u.join v', hc, ⟨u, v', hu, hv, d1, rfl⟩, d2, rfl⟩, hm⟩
/-- A fact that an owned slice tells. -/
theorem St.ownLen (p : List HP) {q : List HP} {T sz n : Nat} {v : Value} {cs : List Value} (h : cs.length = n * sz → St C F l (p ++ ownS T sz v n cs :: q) K) : St C F l (p ++ ownS T sz v n cs :: q) K :=
  St.fact (fun w nw => by obtain ⟨_, hv, _⟩ := nw.has (r := ownS T sz v n cs) ⟨p, q, rfl, rfl⟩; exact hv.1) h
/-- copy into a block. -/
theorem W_copy {t t' e bytes b j dl dc m k T : Nat} {x y : Operand} {u : Value} {cs news : List Value} (ho : o.op = .call { callee := .builtin .copy, args := #[x, y], argTypes := #[t, t'] }) (hd : o.dst = some d) (hn : Nat.blt d F.n = true)
    (ht : slB C.P t e 1 bytes = true) (hx : ev l x = some (.slice (some ⟨b, j, none⟩) dl dc)) (hy : ev l y = some u) (hlen : Builtin.lenOf u = pure m) (hk : k = Nat.min m dl)
    (hc : ∀ w, Now C F rs w → (Builtin.firstCells 1 k u).run C.P w = .ok news.toArray w) (h1 : ∀ v ∈ news, v.oneCell' = true) (has : Has rs (blk b cs T) (blk b (splice cs j news) T) rs') (hj : j + news.length ≤ cs.length)
    (kk : St C F ((d, .int .i64 k) :: l) rs' K) : OpW C F l rs o K Q := fun a w r nw => by
  obtain ⟨h2, ti, h3, h4, _⟩ := slB_spec ht
  have m0 : Has rs (blk b cs T) (blk b cs T) rs := by obtain ⟨p, q, e, _⟩ := has; exact ⟨p, q, e, e⟩
  obtain ⟨fr, hg, hf⟩ := nw.getBlk m0
  obtain ⟨w', hr, p⟩ := run_storeCells_blk (P := C.P) (o := j) news 0 cs w hg hf (by simpa using hj) h1
  unfold Oper.wp
  have : (execOp a.eval o).run C.P w = .ok (.value (.int .i64 k)) w' := by
    have hc' := hc w nw
    rw [hk] at hc' ⊢
    simp [execOp, ho, resolve, invoke, builtin, r.ev hx, r.ev hy, Builtin.copy_, run_underlying h2, sizeOf, typeInfo, h3, h4, hlen, hc', hr, goInt]
  rw [this]
  show K (a.put o.dst _) w'
  rw [hd]
  refine kk _ w' (r.put hn _) (nw.put has (length_splice _ _ _ hj) fun fr' hg' _ => ?_)
  rw [hg] at hg'
  injection hg' with hg'
  injection hg' with _ _ e
  exact e ▸ p
/-- A row of cells that was there, nil too. -/
def Row (w : World) (base : Option Addr) (cs : List Value) : Prop := ∀ j v, cs[j]? = some v → ∃ ad, base = some ad ∧ w.cell? (ad.add j) = some v
theorem Row.cases {w : World} {base : Option Addr} {cs : List Value} (h : Row w base cs) : cs = [] ∨ ∃ b j, base = some ⟨b, j, none⟩ ∧ RowAt w ⟨b, j, none⟩ cs := by
  cases cs with
  | nil => exact .inl rfl
  | cons c cs =>
    refine .inr ?_
    obtain ⟨ad, rfl, h0⟩ := h 0 c rfl
    have hs : ad.spot = none := by
      have : ad.add 0 = ad := by simp [Addr.add]
      rw [this] at h0
      cases hsp : ad.spot with
      | none => rfl
      | some s =>
        exfalso
        simp only [World.cell?, hsp, Option.isSome_some, if_true] at h0
        split at h0 <;> cases h0
    obtain ⟨b, j, sp⟩ := ad
    simp only at hs
    subst hs
    refine ⟨b, j, rfl, fun i v hv => ?_⟩
    obtain ⟨ad, e, hc⟩ := h i v hv
    rw [Option.some.injEq] at e
    rw [e]; exact hc
theorem RowAt.row {w : World} {ad : Addr} {cs : List Value} (h : RowAt w ad cs) : Row w (some ad) cs := fun j v hv => ⟨ad, rfl, h j v hv⟩
theorem Row.nil {w : World} {base : Option Addr} : Row w base [] := fun _ _ h => by cases h
/-- In every fitting world the row is there. -/
def Rw (C : Cx) (F : Fx) (rs : List HP) (base : Option Addr) (cs : List Value) : Prop := ∀ w, Now C F rs w → Row w base cs
theorem Rw.old {base : Option Addr} {cs : List Value} (h : Row F.w base cs) (hf : ∀ ad, base = some ad → F.h ad.block = none) : Rw C F rs base cs := fun w n j v hv => by
  obtain ⟨ad, e, hc⟩ := h j v hv
  refine ⟨ad, e, ?_⟩
  have hb : (ad.add j).block = ad.block := by unfold Addr.add; split <;> rfl
  exact Rd.old (rs := rs) hc (by rw [hb]; exact hf ad e) w n
theorem Rw.part {base base' : Option Addr} {cs us : List Value} (h : Rw C F rs base cs) (hh : ∀ w, Row w base cs → Row w base' us) : Rw C F rs base' us := fun w n => hh w (h w n)
/-- x[p:q] of a row. -/
theorem Row.sliced {w : World} {base : Option Addr} {cs : List Value} {sz p q c : Nat} (h : Row w base cs) (hq : q ≤ c) (hcs : cs.length = c * sz ∨ q * sz ≤ cs.length) : Row w (if c = p then base else base.map (·.add (p * sz))) ((cs.drop (p * sz)).take ((q - p) * sz)) := fun j v hv => by
  rw [List.getElem?_take] at hv
  split at hv
  · rename_i hj
    rw [List.getElem?_drop] at hv
    obtain ⟨ad, rfl, hc⟩ := h _ v hv
    have hne : ¬ c = p := by
      intro e; subst e
      have : (q - c) * sz = 0 := by rw [Nat.sub_eq_zero_of_le hq]; simp
      omega
    rw [if_neg hne]
    refine ⟨_, rfl, ?_⟩
    have : (ad.add (p * sz)).add j = ad.add (p * sz + j) := by
      unfold Addr.add
      by_cases h1 : p * sz = 0 <;> by_cases h2 : j = 0 <;> simp [h1, h2, Nat.add_assoc]
    rw [this]; exact hc
  · cases hv
theorem Src.row {sz m c : Nat} {base : Option Addr} {news : List Value} (h : Rw C F rs base news) (hl : news.length = m * sz) (h1 : ∀ v ∈ news, v.oneCell' = true) : Src C F rs sz (.slice base m c) m news := by
  refine ⟨rfl, fun w n => ?_, hl, h1⟩
  rcases (h w n).cases with rfl | ⟨b, j, rfl, hr⟩
  · cases base with
    | none => simp [Builtin.firstCells]
    | some a => exact run_firstCells_some w sz m a m c [] hl (fun _ _ h => by cases h)
  · exact run_firstCells_some w sz m _ m c news hl hr
theorem Src.part {sz m k c : Nat} {base : Option Addr} {news : List Value} (h : Rw C F rs base news) (hl : k * sz ≤ news.length) : ∀ w, Now C F rs w → (Builtin.firstCells sz k (.slice base m c)).run C.P w = .ok (news.take (k * sz)).toArray w := fun w n => by
  rcases (h w n).cases with rfl | ⟨b, j, rfl, hr⟩
  · have : k * sz = 0 := by simpa using hl
    cases base with
    | none => simp [Builtin.firstCells]
    | some a => rw [List.take_nil]; exact run_firstCells_some w sz k a m c [] (by rw [this]; rfl) (fun _ _ h => by cases h)
  · refine run_firstCells_some w sz k _ m c _ (by simp; omega) fun i v hv => hr i v ?_
    rw [List.getElem?_take] at hv
    split at hv
    · exact hv
    · cases hv
end
end Go.Proofs.Ytfhjhaogmdaepaa
