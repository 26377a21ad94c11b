/- The twenty-first part of the program logic: structs of numbers and truth values are compared. -/
import Derived.Test.YtfhjhaogmdaepaaEngN
set_option linter.unusedVariables false
set_option linter.unusedSimpArgs false
set_option linter.unusedSectionVars false
namespace Go.Proofs.Ytfhjhaogmdaepaa
open Go Go.RowKit
theorem Has.h10 {a b c d e f g i j k r s : HP} {t : List HP} : Has (a :: b :: c :: d :: e :: f :: g :: i :: j :: k :: r :: t) r s (a :: b :: c :: d :: e :: f :: g :: i :: j :: k :: s :: t) := Has.h9.cons
theorem Has.h11 {a b c d e f g i j k l r s : HP} {t : List HP} : Has (a :: b :: c :: d :: e :: f :: g :: i :: j :: k :: l :: r :: t) r s (a :: b :: c :: d :: e :: f :: g :: i :: j :: k :: l :: s :: t) := Has.h10.cons
theorem Has.h12 {a b c d e f g i j k l m r s : HP} {t : List HP} : Has (a :: b :: c :: d :: e :: f :: g :: i :: j :: k :: l :: m :: r :: t) r s (a :: b :: c :: d :: e :: f :: g :: i :: j :: k :: l :: m :: s :: t) := Has.h11.cons
/-- Two cells of one make: truth values (true), numbers (false). -/
def sk : Bool → Value → Value → Prop
  | false, x, y => ∃ k a b, x = .int k a ∧ y = .int k b
  | true, x, y => ∃ a b, x = .bool a ∧ y = .bool b
def fkB (P : Program) (b : Bool) (t : TypeId) : Bool := match b, P.underlying t with
  | false, some (.int _) => true
  | true, some .bool => true
  | _, _ => false
/-- The type's cells are numbers or truth values, as the list tells. -/
def seK (P : Program) (t : Nat) (ks : List Bool) : Bool := match P.underlying t with
  | some (.struct fs) => !P.stoodInHeld t && !P.eqGuardType P.depth t && (fs.toList.length == ks.length) && ((List.range ks.length).all fun i => match fs.toList[i]?, ks[i]? with | some f, some b => f.offset == i && (f.name != "_") && scB P f.type && fkB P b f.type | _, _ => false)
  | _ => false
theorem run_eqFields_k {P : Program} {w : World} (dp : Nat) : ∀ (fs : List Field) (ks : List Bool) (o : Nat) (xs ys : List Value), xs.length = fs.length → ys.length = fs.length → ks.length = fs.length → (∀ (i : Nat) (b : Bool) (x y : Value), ks[i]? = some b → xs[i]? = some x → ys[i]? = some y → sk b x y) →
    (∀ (i : Nat) (f : Field) (b : Bool), fs[i]? = some f → ks[i]? = some b → f.offset = o + i ∧ (f.name != "_") = true ∧ scB P f.type = true ∧ fkB P b f.type = true) →
    ∀ (px py : List Value), px.length = o → py.length = o → (Op.eqFields (dp + 1) (px ++ xs).toArray (py ++ ys).toArray fs).run P w = .ok (@decide (xs = ys) (Classical.propDecidable _)) w
  | [], ks, o, xs, ys, hx, hy, _, _, _, px, py, _, _ => by
    have : xs = [] := List.eq_nil_of_length_eq_zero hx
    have : ys = [] := List.eq_nil_of_length_eq_zero hy
    subst xs; subst ys
    simp [Op.eqFields]
  | f :: fs, kb :: ks, o, x :: xs, y :: ys, hx, hy, hkl, hk, hf, px, py, hpx, hpy => by
    obtain ⟨h1, h2, h3, h4⟩ := hf 0 f kb rfl rfl
    have hkk := hk 0 kb x y rfl rfl rfl
    have hname : f.name ≠ "_" := by simpa using h2
    have hone : x.oneCell' = true ∧ y.oneCell' = true := by
      cases kb with
      | false => obtain ⟨k, a, b, rfl, rfl⟩ := hkk; exact ⟨rfl, rfl⟩
      | true => obtain ⟨a, b, rfl, rfl⟩ := hkk; exact ⟨rfl, rfl⟩
    have e1 : (part f.type (px ++ x :: xs).toArray f.offset).run P w = .ok x w := by
      simp [part, run_isAgg_sc h3, h1, ← hpx]
    have e2 : (part f.type (py ++ y :: ys).toArray f.offset).run P w = .ok y w := by
      simp [part, run_isAgg_sc h3, h1, ← hpy]
    have e3 : (Op.equalIn (dp + 1) f.type x y).run P w = .ok (@decide (x = y) (Classical.propDecidable _)) w := by
      cases kb with
      | false =>
        obtain ⟨k', a, b, rfl, rfl⟩ := hkk
        obtain ⟨k, hk4⟩ : ∃ k, P.underlying f.type = some (.int k) := by
          unfold fkB at h4
          split at h4
          · exact ⟨_, by assumption⟩
          · contradiction
          · cases h4
        rw [run_equalIn_int (P := P) w dp f.type k' k a b hk4]
        congr 1
        by_cases hab : a = b
        · simp [hab]
        · simp [hab]
      | true =>
        obtain ⟨a, b, rfl, rfl⟩ := hkk
        have hk4 : P.underlying f.type = some .bool := by
          unfold fkB at h4
          split at h4
          · contradiction
          · assumption
          · cases h4
        rw [run_equalIn_bool' dp hk4]
        congr 1
        cases a <;> cases b <;> simp
    unfold Op.eqFields
    rw [if_pos hname]
    simp only [Sem.run_bind, e1, e2, e3, Result.andThen_ok]
    by_cases hab : x = y
    · subst hab
      have ih := run_eqFields_k (P := P) (w := w) dp fs ks (o + 1) xs ys (by simpa using hx) (by simpa using hy) (by simpa using hkl) (fun i b x y hb hx hy => hk (i + 1) b x y hb hx hy) (fun i f b hf' hb => by
        obtain ⟨g1, g2⟩ := hf (i + 1) f b hf' hb
        exact ⟨by omega, g2⟩) (px ++ [x]) (py ++ [x]) (by simp [hpx]) (by simp [hpy])
      simp only [List.append_assoc, List.singleton_append] at ih
      simp only [decide_true, Bool.not_true, Bool.false_eq_true, if_false, ih]
      congr 1
      by_cases hxy : xs = ys
      · subst hxy; simp
      · have : ¬ (x :: xs = x :: ys) := by simpa using hxy
        simp [hxy, this]
    · have : ¬ (x :: xs = y :: ys) := by simp [hab]
      simp [hab, this]
section
variable {C : Cx} {F : Fx} {l : Env} {rs rs' : List HP} {K : Act → World → Prop} {o : Oper} {Q : Exit → Act → World → Prop} {d : Nat}
theorem run_eqStructK {P : Program} {w : World} {t : Nat} {ks : List Bool} {xs ys : List Value} (ht : seK P t ks = true) (hx : xs.length = ks.length) (hy : ys.length = ks.length) (hk : ∀ (i : Nat) (b : Bool) (x y : Value), ks[i]? = some b → xs[i]? = some x → ys[i]? = some y → sk b x y) :
    (Op.equalIn 10000 t (.agg xs.toArray) (.agg ys.toArray)).run P w = .ok (@decide (xs = ys) (Classical.propDecidable _)) w ∧ P.eqGuardType P.depth t = false := by
  unfold seK at ht
  split at ht
  · rename_i fs hfs
    simp only [Bool.and_eq_true, Bool.not_eq_true'] at ht
    obtain ⟨⟨⟨hp, hg⟩, hl⟩, hm⟩ := ht
    refine ⟨?_, hg⟩
    have hff : P.fieldsOf t = fs := by unfold Program.fieldsOf; rw [hfs]
    refine (run_equalIn_struct (P := P) w 9999 t xs.toArray ys.toArray (by rw [hff]; exact hfs) hp).trans ?_
    rw [hff]
    have hlen : fs.toList.length = ks.length := eq_of_beq hl
    refine run_eqFields_k (P := P) (w := w) 9998 fs.toList ks 0 xs ys (by omega) (by omega) (by omega) hk (fun i f b hf hb => ?_) [] [] rfl rfl
    have h2 := List.all_eq_true.1 hm i (by rw [List.mem_range]; exact (List.getElem?_eq_some_iff.1 hb).1)
    rw [hf, hb] at h2
    simp only [Bool.and_eq_true] at h2
    obtain ⟨⟨⟨h3, h4⟩, h5⟩, h6⟩ := h2
    exact ⟨by rw [eq_of_beq h3, Nat.zero_add], h4, h5, h6⟩
  · cases ht
theorem P_eql_structK {t t' : Nat} (ks : List Bool) {x y : Operand} {xs ys : List Value} {b : Bool} (ho : o.op = .binOp .eql t x y t') (ht : seK C.P t ks = true) (hx : ev l x = some (.agg xs.toArray)) (hy : ev l y = some (.agg ys.toArray)) (h1 : xs.length = ks.length) (h2 : ys.length = ks.length)
    (hk : ∀ (i : Nat) (b : Bool) (x y : Value), ks[i]? = some b → xs[i]? = some x → ys[i]? = some y → sk b x y) (hb : b = true ↔ xs = ys) : OpP C F l o (.bool b) := fun a w r => by
  obtain ⟨h3, hg⟩ := run_eqStructK (P := C.P) (w := w) ht h1 h2 hk
  have e : @decide (xs = ys) (Classical.propDecidable _) = b := by
    by_cases h : xs = ys
    · have := hb.2 h; rw [this]; simp [h]
    · cases b with
      | true => exact absurd (hb.1 rfl) h
      | false => simp [h]
  rw [e] at h3
  simp only [execOp, ho, r.ev hx, r.ev hy, Sem.run_bind, run_eqGuard_agg w .eql t x y _ _ hg, Result.andThen_ok, run_eql_struct, h3, Sem.run_pure]
theorem P_neq_structK {t t' : Nat} (ks : List Bool) {x y : Operand} {xs ys : List Value} {b : Bool} (ho : o.op = .binOp .neq t x y t') (ht : seK C.P t ks = true) (hx : ev l x = some (.agg xs.toArray)) (hy : ev l y = some (.agg ys.toArray)) (h1 : xs.length = ks.length) (h2 : ys.length = ks.length)
    (hk : ∀ (i : Nat) (b : Bool) (x y : Value), ks[i]? = some b → xs[i]? = some x → ys[i]? = some y → sk b x y) (hb : b = false ↔ xs = ys) : OpP C F l o (.bool b) := fun a w r => by
  obtain ⟨h3, hg⟩ := run_eqStructK (P := C.P) (w := w) ht h1 h2 hk
  have e : @decide (xs = ys) (Classical.propDecidable _) = !b := by
    by_cases h : xs = ys
    · have := hb.2 h; rw [this]; simp [h]
    · cases b with
      | false => exact absurd (hb.1 rfl) h
      | true => simp [h]
  rw [e] at h3
  simp only [execOp, ho, r.ev hx, r.ev hy, Sem.run_bind, run_eqGuard_agg w .neq t x y _ _ hg, Result.andThen_ok, run_neq_struct, h3, Sem.run_pure, Bool.not_not]
end
end Go.Proofs.Ytfhjhaogmdaepaa
