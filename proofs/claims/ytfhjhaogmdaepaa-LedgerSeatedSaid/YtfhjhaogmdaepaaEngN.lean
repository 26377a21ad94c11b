/- The fourteenth part of the program logic: comparisons with nil, of structs, min and max, empty literals. -/
import Derived.Test.YtfhjhaogmdaepaaRead
import Derived.Laws.Cover1
set_option linter.unusedVariables false
set_option linter.unusedSimpArgs false
namespace Go.Proofs.Ytfhjhaogmdaepaa
open Go Go.RowKit
section
variable {P : Program} {w : World} {t : Nat}
theorem run_equalIn_slice (d : Nat) {e n c : Nat} {b : Option Addr} (h1 : P.underlying t = some (.slice e)) : (Op.equalIn (d + 1) t (.slice b n c) (.slice none 0 0)).run P w = .ok b.isNone w := by
  simp only [Op.equalIn, Sem.run_bind, run_underlying h1, Result.andThen_ok]
  cases b <;> simp
theorem run_equalIn_bool' (d : Nat) {a b : Bool} (ht : P.underlying t = some .bool) : (Op.equalIn (d + 1) t (.bool a) (.bool b)).run P w = .ok (a == b) w := by
  simp only [Op.equalIn, Sem.run_bind, run_underlying ht, Result.andThen_ok, Sem.run_pure]
end
section
variable {C : Cx} {F : Fx} {l : Env} {rs rs' : List HP} {K : Act → World → Prop} {o : Oper} {Q : Exit → Act → World → Prop} {d : Nat}
theorem P_eql_slice {t t' e sz by_ n c : Nat} {x y : Operand} {b : Option Addr} (ho : o.op = .binOp .eql t x y t') (ht : slB C.P t e sz by_ = true) (hx : ev l x = some (.slice b n c)) (hy : ev l y = some (.slice none 0 0)) : OpP C F l o (.bool b.isNone) := fun a w r => by
  have h1 := (slB_spec ht).1
  have : (Op.equal t (.slice b n c) (.slice none 0 0)).run C.P w = .ok b.isNone w := run_equalIn_slice 9999 h1
  simp [execOp, ho, r.ev hx, r.ev hy, binOp, eqGuard, this]
theorem P_neq_slice {t t' e sz by_ n c : Nat} {x y : Operand} {b : Option Addr} (ho : o.op = .binOp .neq t x y t') (ht : slB C.P t e sz by_ = true) (hx : ev l x = some (.slice b n c)) (hy : ev l y = some (.slice none 0 0)) : OpP C F l o (.bool (!b.isNone)) := fun a w r => by
  have h1 := (slB_spec ht).1
  have : (Op.equal t (.slice b n c) (.slice none 0 0)).run C.P w = .ok b.isNone w := run_equalIn_slice 9999 h1
  simp [execOp, ho, r.ev hx, r.ev hy, binOp, eqGuard, this]
theorem P_eql_bool {t t' : Nat} {x y : Operand} {a b : Bool} (ho : o.op = .binOp .eql t x y t') (ht : C.P.underlying t = some .bool) (hx : ev l x = some (.bool a)) (hy : ev l y = some (.bool b)) : OpP C F l o (.bool (a == b)) := fun ac w r => by
  have : (Op.equal t (.bool a) (.bool b)).run C.P w = .ok (a == b) w := run_equalIn_bool' 9999 ht
  simp [execOp, ho, r.ev hx, r.ev hy, binOp, eqGuard, this]
theorem P_neq_bool {t t' : Nat} {x y : Operand} {a b : Bool} (ho : o.op = .binOp .neq t x y t') (ht : C.P.underlying t = some .bool) (hx : ev l x = some (.bool a)) (hy : ev l y = some (.bool b)) : OpP C F l o (.bool (a != b)) := fun ac w r => by
  have : (Op.equal t (.bool a) (.bool b)).run C.P w = .ok (a == b) w := run_equalIn_bool' 9999 ht
  simp [execOp, ho, r.ev hx, r.ev hy, binOp, eqGuard, this, bne]
theorem P_min2 {ts : Array TypeId} {x y : Operand} {k k' : IntKind} {m n : Int} (ho : o.op = .call { callee := .builtin .min, args := #[x, y], argTypes := ts }) (hx : ev l x = some (.int k m)) (hy : ev l y = some (.int k' n)) : OpP C F l o (.int k (if n < m then n else m)) := fun a w r => by
  simp [execOp, ho, resolve, invoke, builtin, r.ev hx, r.ev hy, run_min_int2]
theorem P_max2 {ts : Array TypeId} {x y : Operand} {k k' : IntKind} {m n : Int} (ho : o.op = .call { callee := .builtin .max, args := #[x, y], argTypes := ts }) (hx : ev l x = some (.int k m)) (hy : ev l y = some (.int k' n)) : OpP C F l o (.int k (if n > m then n else m)) := fun a w r => by
  simp [execOp, ho, resolve, invoke, builtin, r.ev hx, r.ev hy, run_max_int2]
theorem P_min3 {ts : Array TypeId} {x y z : Operand} {k k' k'' : IntKind} {m n q : Int} (ho : o.op = .call { callee := .builtin .min, args := #[x, y, z], argTypes := ts }) (hx : ev l x = some (.int k m)) (hy : ev l y = some (.int k' n)) (hz : ev l z = some (.int k'' q)) : OpP C F l o (.int k (if q < (if n < m then n else m) then q else (if n < m then n else m))) := fun a w r => by
  simp [execOp, ho, resolve, invoke, builtin, r.ev hx, r.ev hy, r.ev hz, run_min_int3]
/-- A literal without elements. -/
theorem W_lit0 {t e sz by_ : Nat} (ho : o.op = .buildSlice t 0 #[]) (hd : o.dst = some d) (hn : Nat.blt d F.n = true) (ht : slB C.P t e sz by_ = true)
    (k : ∀ b, St C F ((d, .slice (some ⟨b, 0, none⟩) 0 0) :: l) (blk b [] e :: rs) K) : OpW C F l rs o K Q := fun a w r n => by
  obtain ⟨h1, ti, h2, h3, _⟩ := slB_spec ht
  unfold Oper.wp
  have : (execOp a.eval o).run C.P w = .ok (.value (.slice (some ⟨w.heap.size, 0, none⟩) 0 0)) (w.alloc (.cells #[] e)) := by
    simp [execOp, ho, Instr.buildSlice, run_underlying h1, sizeOf, typeInfo, h2, Instr.fill, newRow]
    congr 2
    apply Array.ext' 
    simp
  rw [this]
  show K (a.put o.dst _) _
  rw [hd]
  exact k _ _ _ (r.put hn _) (n.alloc [] e)
end
/-! ### Equality of structs of numbers, truth values and texts -/
inductive SK : Value → Value → Prop
  | int (k : IntKind) (a b : Int) : SK (.int k a) (.int k b)
  | bool (a b : Bool) : SK (.bool a) (.bool b)
/-- The type's cells are numbers or truth values, as the fields tell. -/
def seB (P : Program) (t n : Nat) : Bool := match P.underlying t with
  | some (.struct fs) => !P.stoodInHeld t && !P.eqGuardType P.depth t && (fs.toList.map (fun f => (f.offset, f.name != "_", scB P f.type && (match P.underlying f.type with | some (.int _) => true | _ => false))) == (List.range n).map fun i => (i, true, true))
  | _ => false
theorem run_eqFields_ints {P : Program} {w : World} (dp : Nat) : ∀ (fs : List Field) (o : Nat) (xs ys : List Value), xs.length = fs.length → ys.length = fs.length → (∀ (i : Nat) (x y : Value), xs[i]? = some x → ys[i]? = some y → ∃ k a b, x = .int k a ∧ y = .int k b) →
    (∀ (i : Nat) (f : Field), fs[i]? = some f → f.offset = o + i ∧ (f.name != "_") = true ∧ scB P f.type = true ∧ ∃ k, P.underlying f.type = some (.int k)) →
    ∀ (px py : List Value), px.length = o → py.length = o → (Op.eqFields (dp + 1) (px ++ xs).toArray (py ++ ys).toArray fs).run P w = .ok (@decide (xs = ys) (Classical.propDecidable _)) w
  | [], o, xs, ys, hx, hy, _, _, px, py, _, _ => by
    have : xs = [] := List.eq_nil_of_length_eq_zero hx
    have : ys = [] := List.eq_nil_of_length_eq_zero hy
    subst xs; subst ys
    simp [Op.eqFields]
  | f :: fs, o, x :: xs, y :: ys, hx, hy, hk, hf, px, py, hpx, hpy => by
    obtain ⟨h1, h2, h3, k, h4⟩ := hf 0 f rfl
    obtain ⟨k', a, b, rfl, rfl⟩ := hk 0 x y rfl rfl
    have hname : f.name ≠ "_" := by simpa using h2
    have e1 : (part f.type (px ++ Value.int k' a :: xs).toArray f.offset).run P w = .ok (.int k' a) w := by
      simp [part, run_isAgg_sc h3, h1, ← hpx]
    have e2 : (part f.type (py ++ Value.int k' b :: ys).toArray f.offset).run P w = .ok (.int k' b) w := by
      simp [part, run_isAgg_sc h3, h1, ← hpy]
    have e3 := run_equalIn_int (P := P) w dp f.type k' k a b h4
    unfold Op.eqFields
    rw [if_pos hname]
    simp only [Sem.run_bind, e1, e2, e3, Result.andThen_ok]
    by_cases hab : a = b
    · subst hab
      have ih := run_eqFields_ints (P := P) (w := w) dp fs (o + 1) xs ys (by simpa using hx) (by simpa using hy) (fun i x y hx hy => hk (i + 1) x y hx hy) (fun i f hf' => by
        obtain ⟨g1, g2⟩ := hf (i + 1) f hf'
        exact ⟨by omega, g2⟩) (px ++ [.int k' a]) (py ++ [.int k' a]) (by simp [hpx]) (by simp [hpy])
      simp only [List.append_assoc, List.singleton_append] at ih
      simp only [beq_self_eq_true, Bool.not_true, Bool.false_eq_true, if_false, ih]
      congr 1
      by_cases hxy : xs = ys
      · subst hxy; simp
      · have : ¬ (Value.int k' a :: xs = Value.int k' a :: ys) := by simpa using hxy
        simp [hxy, this]
    · have hb : (a == b) = false := by simpa using hab
      have : ¬ (Value.int k' a :: xs = Value.int k' b :: ys) := by simp [hab]
      simp [hb, this]
section
variable {C : Cx} {F : Fx} {l : Env} {rs rs' : List HP} {K : Act → World → Prop} {o : Oper} {Q : Exit → Act → World → Prop} {d : Nat}
theorem run_eqStruct {P : Program} {w : World} {t n : Nat} {xs ys : List Value} (ht : seB P t n = true) (hx : xs.length = n) (hy : ys.length = n) (hk : ∀ (i : Nat) (x y : Value), xs[i]? = some x → ys[i]? = some y → ∃ k a b, x = .int k a ∧ y = .int k b) :
    (Op.equalIn 10000 t (.agg xs.toArray) (.agg ys.toArray)).run P w = .ok (@decide (xs = ys) (Classical.propDecidable _)) w ∧ P.eqGuardType P.depth t = false := by
  unfold seB at ht
  split at ht
  · rename_i fs hfs
    simp only [Bool.and_eq_true, Bool.not_eq_true'] at ht
    obtain ⟨⟨hp, hg⟩, hm⟩ := ht
    refine ⟨?_, hg⟩
    have hff : P.fieldsOf t = fs := by unfold Program.fieldsOf; rw [hfs]
    refine (run_equalIn_struct (P := P) w 9999 t xs.toArray ys.toArray (by rw [hff]; exact hfs) hp).trans ?_
    rw [hff]
    have hm2 := eq_of_beq hm
    have hlen : fs.toList.length = n := by have := congrArg List.length hm2; simpa using this
    refine run_eqFields_ints (P := P) (w := w) 9998 fs.toList 0 xs ys (by omega) (by omega) hk (fun i f hf => ?_) [] [] rfl rfl
    have h2 := congrArg (fun l => l[i]?) hm2
    simp only [List.getElem?_map, hf, Option.map_some] at h2
    have hi : i < n := by have := (List.getElem?_eq_some_iff.1 hf).1; omega
    rw [List.getElem?_range hi] at h2
    simp only [Option.map_some, Option.some.injEq, Prod.mk.injEq, Bool.and_eq_true] at h2
    obtain ⟨h3, h4, h5, h6⟩ := h2
    refine ⟨by omega, h4, h5, ?_⟩
    split at h6
    · rename_i k hk'; exact ⟨k, hk'⟩
    · cases h6
  · cases ht
theorem P_eql_struct {t t' n : Nat} {x y : Operand} {xs ys : List Value} {b : Bool} (ho : o.op = .binOp .eql t x y t') (ht : seB C.P t n = true) (hx : ev l x = some (.agg xs.toArray)) (hy : ev l y = some (.agg ys.toArray)) (h1 : xs.length = n) (h2 : ys.length = n)
    (hk : ∀ (i : Nat) (x y : Value), xs[i]? = some x → ys[i]? = some y → ∃ k a b, x = .int k a ∧ y = .int k b) (hb : b = true ↔ xs = ys) : OpP C F l o (.bool b) := fun a w r => by
  obtain ⟨h3, hg⟩ := run_eqStruct (P := C.P) (w := w) ht h1 h2 hk
  have e : @decide (xs = ys) (Classical.propDecidable _) = b := by
    by_cases h : xs = ys
    · have := hb.2 h; rw [this]; simp [h]
    · cases b with
      | true => exact absurd (hb.1 rfl) h
      | false => simp [h]
  rw [e] at h3
  simp only [execOp, ho, r.ev hx, r.ev hy, Sem.run_bind, run_eqGuard_agg w .eql t x y _ _ hg, Result.andThen_ok, run_eql_struct, h3, Sem.run_pure]
theorem P_neq_struct {t t' n : Nat} {x y : Operand} {xs ys : List Value} {b : Bool} (ho : o.op = .binOp .neq t x y t') (ht : seB C.P t n = true) (hx : ev l x = some (.agg xs.toArray)) (hy : ev l y = some (.agg ys.toArray)) (h1 : xs.length = n) (h2 : ys.length = n)
    (hk : ∀ (i : Nat) (x y : Value), xs[i]? = some x → ys[i]? = some y → ∃ k a b, x = .int k a ∧ y = .int k b) (hb : b = false ↔ xs = ys) : OpP C F l o (.bool b) := fun a w r => by
  obtain ⟨h3, hg⟩ := run_eqStruct (P := C.P) (w := w) ht h1 h2 hk
  have e : @decide (xs = ys) (Classical.propDecidable _) = !b := by
    by_cases h : xs = ys
    · have := hb.2 h; rw [this]; simp [h]
    · cases b with
      | false => exact absurd (hb.1 rfl) h
      | true => simp [h]
  rw [e] at h3
  simp only [execOp, ho, r.ev hx, r.ev hy, Sem.run_bind, run_eqGuard_agg w .neq t x y _ _ hg, Result.andThen_ok, run_neq_struct, h3, Sem.run_pure, Bool.not_not]
end
theorem Weak.keep_to {r s : HP} {rs : List HP} (t : ∀ h, r h → s h) : Weak (r :: rs) [s] := (Weak.turn .h0 t).trans (Weak.keep (Weak.nil _))
theorem ownS.to2 {T sz n n' : Nat} {v : Value} {cs cs' : List Value} {rs : List HP} (hn : n = n') (hc : cs = cs') : Weak (ownS T sz v n cs :: rs) [ownS T sz v n' cs'] := by subst hn; subst hc; exact Weak.keep (Weak.nil _)
theorem ownS.to1 {T sz n n' : Nat} {v : Value} {cs cs' : List Value} {rs : List HP} (hn : n = n') (hc : cs = cs') : Weak (ownS T sz v n cs :: rs) (ownS T sz v n' cs' :: rs) := by subst hn; subst hc; exact Weak.refl _
theorem Sn.rowAt0 {C : Cx} {F : Fx} {rs : List HP} {b j : Nat} {cs us : List Value} (s : Sn C F rs (some ⟨b, j, none⟩) cs) (hu : ∀ (i : Nat) (v : Value), us[i]? = some v → cs[i]? = some v) : ∀ w, Now C F rs w → RowAt w ⟨b, j, none⟩ us := fun w n i v hv => by
  obtain ⟨ad, e, hc⟩ := s.rw_ w n i v (hu i v hv)
  rw [Option.some.injEq] at e
  subst e; exact hc
end Go.Proofs.Ytfhjhaogmdaepaa
