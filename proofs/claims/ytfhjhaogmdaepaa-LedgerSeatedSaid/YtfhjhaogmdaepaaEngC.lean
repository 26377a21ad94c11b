/- The third part of the program logic: what the single operations yield, and what they leave in memory. -/
import Derived.Test.YtfhjhaogmdaepaaEngB
import Derived.Laws.CopyRow
import Derived.Laws.Slices
import Derived.Laws.Pointers
import Derived.Laws.StructEq
import Derived.Laws.AppendOwn
import Derived.Laws.MakeOwn
import Derived.Laws.BytesArg
set_option linter.unusedVariables false
set_option linter.unusedSimpArgs false
namespace Go.Proofs.Ytfhjhaogmdaepaa
open Go Go.RowKit

/-! ### Types -/
def scB (P : Program) (t : TypeId) : Bool := match P.underlying t with
  | some (.struct _) | some (.array _ _) | none => false
  | some _ => (P.info? t).any fun i => i.size == 1
def agB (P : Program) (t : TypeId) (n : Nat) : Bool := (match P.underlying t with | some (.struct _) | some (.array _ _) => true | _ => false) && (P.info? t).any fun i => i.size == n
def slB (P : Program) (t e sz bytes : Nat) : Bool := (match P.underlying t with | some (.slice e') => e' == e | _ => false) && (P.info? e).any fun i => i.size == sz && i.bytes == bytes
def arB (P : Program) (t n e sz : Nat) : Bool := (match P.underlying t with | some (.array n' e') => n' == n && e' == e | _ => false) && (P.info? e).any fun i => i.size == sz
def flB (P : Program) (s f off : Nat) : Bool := match P.underlying s with
  | some (.struct fs) => match fs[f]? with
    | some fd => fd.offset == off && (P.info? fd.type).any fun i => !(i.size == 0)
    | none => false
  | _ => false
/-- Where a struct's field lies, and of what type it is. -/
def fldB (P : Program) (s f : Nat) : Option (Nat × Nat) := match P.underlying s with
  | some (.struct fs) => match fs[f]? with
    | some fd => some (fd.offset, fd.type)
    | none => none
  | _ => none
def zeB (P : Program) (t : TypeId) (cs : List Value) : Prop := ((P.info? t).bind (·.zero)).map (·.cells.toList) = some cs

section
variable {P : Program} {w : World}
theorem run_size {t n : Nat} (h : ((P.info? t).any fun i => i.size == n) = true) (w : World) : (sizeOf t).run P w = .ok n w := by
  cases hi : P.info? t with
  | none => simp [hi] at h
  | some i =>
    have : i.size = n := by simpa [hi] using h
    simp [sizeOf, typeInfo, hi, this]
theorem run_isAgg_sc {t : Nat} (h : scB P t = true) (w : World) : (isAgg t).run P w = .ok false w ∧ (sizeOf t).run P w = .ok 1 w := by
  unfold scB at h
  split at h
  · cases h
  · cases h
  · cases h
  · rename_i d hs ha hd
    refine ⟨?_, run_size h w⟩
    unfold isAgg
    rw [Sem.run_bind, run_underlying hd w]
    cases d <;> simp_all
theorem run_isAgg_ag {t n : Nat} (h : agB P t n = true) (w : World) : (isAgg t).run P w = .ok true w ∧ (sizeOf t).run P w = .ok n w := by
  unfold agB at h
  rw [Bool.and_eq_true] at h
  refine ⟨?_, run_size h.2 w⟩
  have h1 := h.1
  split at h1
  · rename_i d hd
    unfold isAgg
    rw [Sem.run_bind, run_underlying hd w]; rfl
  · rename_i d hd
    unfold isAgg
    rw [Sem.run_bind, run_underlying hd w]; rfl
  · cases h1
theorem slB_spec {t e sz bytes : Nat} (h : slB P t e sz bytes = true) : P.underlying t = some (.slice e) ∧ ∃ i, P.info? e = some i ∧ i.size = sz ∧ i.bytes = bytes := by
  unfold slB at h
  rw [Bool.and_eq_true] at h
  obtain ⟨h1, h2⟩ := h
  constructor
  · split at h1
    · rename_i e' he
      have : e' = e := by simpa using h1
      subst this; exact he
    · cases h1
  · cases hi : P.info? e with
    | none => simp [hi] at h2
    | some i => exact ⟨i, rfl, by simpa [hi] using h2⟩
theorem arB_spec {t n e sz : Nat} (h : arB P t n e sz = true) : P.underlying t = some (.array n e) ∧ ((P.info? e).any fun i => i.size == sz) = true := by
  unfold arB at h
  rw [Bool.and_eq_true] at h
  obtain ⟨h1, h2⟩ := h
  refine ⟨?_, h2⟩
  split at h1
  · rename_i n' e' he
    have : n' = n ∧ e' = e := by simpa using h1
    obtain ⟨rfl, rfl⟩ := this; exact he
  · cases h1
theorem add_zero_off (b j : Nat) (n : Nat) : (⟨b, j, none⟩ : Addr).add n = ⟨b, j + n, none⟩ := by unfold Addr.add; split <;> simp_all
end

/-! ### Numbers -/
def fits (k : IntKind) (x : Int) : Prop := match k with
  | .i8 => -128 ≤ x ∧ x ≤ 127
  | .i16 => -32768 ≤ x ∧ x ≤ 32767
  | .i32 => -2147483648 ≤ x ∧ x ≤ 2147483647
  | .i64 => -9223372036854775808 ≤ x ∧ x ≤ 9223372036854775807
  | .u8 => 0 ≤ x ∧ x ≤ 255
  | .u16 => 0 ≤ x ∧ x ≤ 65535
  | .u32 => 0 ≤ x ∧ x ≤ 4294967295
  | .u64 => 0 ≤ x ∧ x ≤ 18446744073709551615
theorem wrap_fits {k : IntKind} {x : Int} (h : fits k x) : k.wrap x = x := by
  cases k <;> simp only [fits] at h <;> simp [IntKind.wrap, IntKind.signed, IntKind.bits] <;> omega
theorem fits_wrap (k : IntKind) (x : Int) : fits k (k.wrap x) := by
  cases k <;> simp [fits, IntKind.wrap, IntKind.signed, IntKind.bits] <;> omega
/-- The bit operations on whole numbers of a kind. -/
def bitI (op : BinOp) (k : IntKind) (x y : Int) : Int := match op with
  | .and => k.wrap (BitVec.ofInt k.bits x &&& BitVec.ofInt k.bits y).toNat
  | .or => k.wrap (BitVec.ofInt k.bits x ||| BitVec.ofInt k.bits y).toNat
  | .xor => k.wrap (BitVec.ofInt k.bits x ^^^ BitVec.ofInt k.bits y).toNat
  | .andNot => k.wrap (BitVec.ofInt k.bits x &&& ~~~BitVec.ofInt k.bits y).toNat
  | _ => 0
def shlI (k : IntKind) (x y : Int) : Int := k.wrap (x * 2 ^ min y.toNat k.bits)
def shrI (k : IntKind) (x y : Int) : Int := x.fdiv (2 ^ min y.toNat k.bits)

/-! ### Reading memory -/
section
variable {C : Cx} {F : Fx} {l : Env} {rs rs' : List HP} {K : Act → World → Prop} {o : Oper} {Q : Exit → Act → World → Prop} {d : Nat}

/-- In every fitting world the cell holds v. -/
def Rd (C : Cx) (F : Fx) (rs : List HP) (ad : Addr) (v : Value) : Prop := ∀ w, Now C F rs w → w.cell? ad = some v
/-- The cells from there on. -/
def Rds (C : Cx) (F : Fx) (rs : List HP) (ad : Addr) (cs : List Value) : Prop := ∀ w, Now C F rs w → ∀ j v, cs[j]? = some v → w.cell? (ad.add j) = some v

theorem Now.has {r : HP} {w : World} (n : Now C F rs w) (m : Has rs r r rs) : ∃ a, r a ∧ (∀ i o, a i = some o → w.heap[i]? = some o ∧ C.ng ≤ i) := by
  obtain ⟨h, s, mv⟩ := n
  obtain ⟨a, b, ha, _, rfl, _⟩ := Sep.take m s
  exact ⟨a, ha, fun i o x => ⟨mv.sub i o (Heap.le_join_left _ _ i o x), mv.low i o (Heap.le_join_left _ _ i o x)⟩⟩
theorem Now.getBlk {b T : Nat} {cs : List Value} {w : World} (n : Now C F rs w) (m : Has rs (blk b cs T) (blk b cs T) rs) : ∃ fr, w.heap[b]? = some (.cells cs.toArray T fr) ∧ (fr.1 = fr.2 ∨ cs.length ≤ fr.1) := by
  obtain ⟨a, ⟨fr, hf, rfl⟩, h⟩ := n.has m
  exact ⟨fr, (h b _ (Heap.one_same _ _)).1, hf⟩
theorem Rd.blk {b T j : Nat} {cs : List Value} {v : Value} (m : Has rs (blk b cs T) (blk b cs T) rs) (hv : cs[j]? = some v) : Rd C F rs ⟨b, j, none⟩ v := fun w n => by
  obtain ⟨fr, h, _⟩ := n.getBlk m
  simp [World.cell?, h, hv]
theorem Rd.old {ad : Addr} {v : Value} (hc : F.w.cell? ad = some v) (hf : F.h ad.block = none) : Rd C F rs ad v := fun w n => by
  obtain ⟨h, s, m⟩ := n
  have hlt := block_lt_of_cell hc
  rw [← hc]
  simp only [World.cell?, m.keep ad.block hlt hf]
theorem Rd.glob {g j : Nat} {cs : List Value} {T : TypeId} {fr : Nat × Nat} {v : Value} (hg : Nat.blt g C.ng = true) (hc : C.gl g = .cells cs.toArray T fr) (hv : cs[j]? = some v) : Rd C F rs ⟨g, j, none⟩ v := fun w n => by
  have := n.ok g (Nat.le_of_ble_eq_true hg)
  simp [World.cell?, this, hc, hv]
theorem Rds.of {b j : Nat} {cs : List Value} (h : ∀ i v, cs[i]? = some v → Rd C F rs ⟨b, j + i, none⟩ v) : Rds C F rs ⟨b, j, none⟩ cs := fun w n i v hv => by
  rw [add_zero_off]; exact h i v hv w n
theorem Rds.blk {b T : Nat} {cs : List Value} (m : Has rs (blk b cs T) (blk b cs T) rs) : Rds C F rs ⟨b, 0, none⟩ cs := Rds.of fun i v hv => by
  rw [Nat.zero_add]; exact Rd.blk m hv
theorem Rds.glob {g : Nat} {cs : List Value} {T : TypeId} {fr : Nat × Nat} (hg : Nat.blt g C.ng = true) (hc : C.gl g = .cells cs.toArray T fr) : Rds C F rs ⟨g, 0, none⟩ cs := Rds.of fun i v hv => by
  rw [Nat.zero_add]; exact Rd.glob hg hc hv
theorem Rds.part {b j : Nat} {cs us : List Value} (h : Rds C F rs ⟨b, j, none⟩ cs) (k : Nat) (hu : ∀ i v, us[i]? = some v → cs[k + i]? = some v) : Rds C F rs ⟨b, j + k, none⟩ us := fun w n i v hv => by
  have := h w n (k + i) v (hu i v hv)
  rw [add_zero_off] at this ⊢
  rwa [Nat.add_assoc]
theorem Rds.at_ {b j : Nat} {cs : List Value} (h : Rds C F rs ⟨b, j, none⟩ cs) {i : Nat} {v : Value} (hv : cs[i]? = some v) : Rd C F rs ⟨b, j + i, none⟩ v := fun w n => by
  have := h w n i v hv
  rwa [add_zero_off] at this
theorem Rds.loadVar {t n : Nat} {ad : Addr} {cs : List Value} (ht : agB C.P t n = true) (h : Rds C F rs ad cs) (hn : cs.length = n) : ∀ w, Now C F rs w → (Go.loadVar t ad).run C.P w = .ok (.agg cs.toArray) w := fun w nw => by
  have hl := run_loadCells_list (P := C.P) w ad cs (h w nw)
  subst hn
  simp [Go.loadVar, run_isAgg_ag ht w, hl]
theorem Rd.loadVar {t : Nat} {ad : Addr} {v : Value} (ht : scB C.P t = true) (h : Rd C F rs ad v) : ∀ w, Now C F rs w → (Go.loadVar t ad).run C.P w = .ok v w := fun w nw => by
  simp [Go.loadVar, run_isAgg_sc ht w, h w nw]

/-! ### Operations that yield a value -/
theorem P_move {x : Operand} {v : Value} (ho : o.op = .move x) (hx : ev l x = some v) : OpP C F l o v := fun a w r => by
  simp only [execOp, ho, r.ev hx, Sem.run_pure]
theorem P_assign {x : Operand} {v : Value} (ho : o.op = .assign x) (hx : ev l x = some v) : OpP C F l o v := fun a w r => by
  simp only [execOp, ho, r.ev hx, Sem.run_pure]
theorem P_pick {c x y : Operand} {b : Bool} {v : Value} (ho : o.op = .pick c x y) (hc : ev l c = some (.bool b)) (hx : ev l (if b then x else y) = some v) : OpP C F l o v := fun a w r => by
  cases b
  · have h2 := r.ev (v := v) (x := y) hx
    simp [execOp, ho, r.ev hc, asBool, h2]
  · have h2 := r.ev (v := v) (x := x) hx
    simp [execOp, ho, r.ev hc, asBool, h2]
theorem P_not {t : Nat} {x : Operand} {b : Bool} (ho : o.op = .unOp .not t x) (hx : ev l x = some (.bool b)) : OpP C F l o (.bool (!b)) := fun a w r => by
  simp [execOp, ho, r.ev hx, Op.unary]
theorem P_neg {t : Nat} {x : Operand} {k : IntKind} {n : Int} (ho : o.op = .unOp .neg t x) (hx : ev l x = some (.int k n)) : OpP C F l o (.int k (k.wrap (-n))) := fun a w r => by
  simp [execOp, ho, r.ev hx, Op.unary, Op.intArith]
theorem P_compl {t : Nat} {x : Operand} {k : IntKind} {n : Int} (ho : o.op = .unOp .xor t x) (hx : ev l x = some (.int k n)) : OpP C F l o (.int k (bitI .xor k (if k.signed then -1 else k.max) n)) := fun a w r => by
  simp [execOp, ho, r.ev hx, Op.unary, Op.intBits, bitI]
section
variable {t t' : Nat} {x y : Operand} {k : IntKind} {m n : Int}
theorem P_add (ho : o.op = .binOp .add t x y t') (hx : ev l x = some (.int k m)) (hy : ev l y = some (.int k n)) : OpP C F l o (.int k (k.wrap (m + n))) := fun a w r => by
  simp [execOp, ho, r.ev hx, r.ev hy, binOp, eqGuard, Op.intArith]
theorem P_sub (ho : o.op = .binOp .sub t x y t') (hx : ev l x = some (.int k m)) (hy : ev l y = some (.int k n)) : OpP C F l o (.int k (k.wrap (m - n))) := fun a w r => by
  simp [execOp, ho, r.ev hx, r.ev hy, binOp, eqGuard, Op.intArith]
theorem P_mul (ho : o.op = .binOp .mul t x y t') (hx : ev l x = some (.int k m)) (hy : ev l y = some (.int k n)) : OpP C F l o (.int k (k.wrap (m * n))) := fun a w r => by
  simp [execOp, ho, r.ev hx, r.ev hy, binOp, eqGuard, Op.intArith]
theorem P_addN (ho : o.op = .binOp .add t x y t') (hx : ev l x = some (.int k m)) (hy : ev l y = some (.int k n)) (hf : fits k (m + n)) : OpP C F l o (.int k (m + n)) := by
  have := P_add (C := C) (F := F) ho hx hy; rwa [wrap_fits hf] at this
theorem P_subN (ho : o.op = .binOp .sub t x y t') (hx : ev l x = some (.int k m)) (hy : ev l y = some (.int k n)) (hf : fits k (m - n)) : OpP C F l o (.int k (m - n)) := by
  have := P_sub (C := C) (F := F) ho hx hy; rwa [wrap_fits hf] at this
theorem P_mulN (ho : o.op = .binOp .mul t x y t') (hx : ev l x = some (.int k m)) (hy : ev l y = some (.int k n)) (hf : fits k (m * n)) : OpP C F l o (.int k (m * n)) := by
  have := P_mul (C := C) (F := F) ho hx hy; rwa [wrap_fits hf] at this
theorem P_quo (ho : o.op = .binOp .quo t x y t') (hx : ev l x = some (.int k m)) (hy : ev l y = some (.int k n)) (h0 : n ≠ 0) : OpP C F l o (.int k (k.wrap (m.tdiv n))) := fun a w r => by
  simp [execOp, ho, r.ev hx, r.ev hy, binOp, eqGuard, Op.intDiv, h0]
theorem P_rem (ho : o.op = .binOp .rem t x y t') (hx : ev l x = some (.int k m)) (hy : ev l y = some (.int k n)) (h0 : n ≠ 0) : OpP C F l o (.int k (m.tmod n)) := fun a w r => by
  simp [execOp, ho, r.ev hx, r.ev hy, binOp, eqGuard, Op.intDiv, h0]
theorem P_bit {op : BinOp} (ho : o.op = .binOp op t x y t') (hx : ev l x = some (.int k m)) (hy : ev l y = some (.int k n)) (hop : (match op with | .and | .or | .xor | .andNot => true | _ => false) = true) : OpP C F l o (.int k (bitI op k m n)) := fun a w r => by
  cases op <;> simp at hop <;> simp [execOp, ho, r.ev hx, r.ev hy, binOp, eqGuard, Op.intBits, bitI]
theorem P_shl {k' : IntKind} (ho : o.op = .binOp .shl t x y t') (hx : ev l x = some (.int k m)) (hy : ev l y = some (.int k' n)) (h0 : 0 ≤ n) : OpP C F l o (.int k (shlI k m n)) := fun a w r => by
  have h0' : ¬ n < 0 := by omega
  simp [execOp, ho, r.ev hx, r.ev hy, binOp, eqGuard, Op.shift, h0', shlI]
theorem P_shr {k' : IntKind} (ho : o.op = .binOp .shr t x y t') (hx : ev l x = some (.int k m)) (hy : ev l y = some (.int k' n)) (h0 : 0 ≤ n) : OpP C F l o (.int k (shrI k m n)) := fun a w r => by
  have h0' : ¬ n < 0 := by omega
  simp [execOp, ho, r.ev hx, r.ev hy, binOp, eqGuard, Op.shift, h0', shrI]
theorem P_lss (ho : o.op = .binOp .lss t x y t') (hx : ev l x = some (.int k m)) (hy : ev l y = some (.int k n)) : OpP C F l o (.bool (decide (m < n))) := fun a w r => by
  simp [execOp, ho, r.ev hx, r.ev hy, binOp, eqGuard, Op.intCmp]
theorem P_leq (ho : o.op = .binOp .leq t x y t') (hx : ev l x = some (.int k m)) (hy : ev l y = some (.int k n)) : OpP C F l o (.bool (decide (m ≤ n))) := fun a w r => by
  simp [execOp, ho, r.ev hx, r.ev hy, binOp, eqGuard, Op.intCmp]
theorem P_gtr (ho : o.op = .binOp .gtr t x y t') (hx : ev l x = some (.int k m)) (hy : ev l y = some (.int k n)) : OpP C F l o (.bool (decide (n < m))) := fun a w r => by
  simp [execOp, ho, r.ev hx, r.ev hy, binOp, eqGuard, Op.intCmp]
theorem P_geq (ho : o.op = .binOp .geq t x y t') (hx : ev l x = some (.int k m)) (hy : ev l y = some (.int k n)) : OpP C F l o (.bool (decide (n ≤ m))) := fun a w r => by
  simp [execOp, ho, r.ev hx, r.ev hy, binOp, eqGuard, Op.intCmp]
theorem P_eql (ho : o.op = .binOp .eql t x y t') (hx : ev l x = some (.int k m)) (hy : ev l y = some (.int k n)) : OpP C F l o (.bool (decide (m = n))) := fun a w r => by
  have : (m == n) = decide (m = n) := by by_cases h : m = n <;> simp [h]
  simp [execOp, ho, r.ev hx, r.ev hy, binOp, eqGuard, Op.intCmp, this]
theorem P_neq (ho : o.op = .binOp .neq t x y t') (hx : ev l x = some (.int k m)) (hy : ev l y = some (.int k n)) : OpP C F l o (.bool (decide (m ≠ n))) := fun a w r => by
  have : (m != n) = decide (m ≠ n) := by by_cases h : m = n <;> simp [h]
  simp [execOp, ho, r.ev hx, r.ev hy, binOp, eqGuard, Op.intCmp, this]
end
theorem P_conv {t t' : Nat} {x : Operand} {k k' : IntKind} {n : Int} (ho : o.op = .convert t t' x) (hs : C.P.underlying t = some (.int k)) (ht : C.P.underlying t' = some (.int k')) (hx : ev l x = some (.int k n)) : OpP C F l o (.int k' (k'.wrap n)) := fun a w r => by
  simp [execOp, ho, r.ev hx, convert, run_underlying hs, run_underlying ht, Conv.intToInt]
theorem P_convN {t t' : Nat} {x : Operand} {k k' : IntKind} {n : Int} (ho : o.op = .convert t t' x) (hs : C.P.underlying t = some (.int k)) (ht : C.P.underlying t' = some (.int k')) (hx : ev l x = some (.int k n)) (hf : fits k' n) : OpP C F l o (.int k' n) := by
  have := P_conv (C := C) (F := F) ho hs ht hx; rwa [wrap_fits hf] at this
theorem P_nil {x : Operand} {ad : Addr} (ho : o.op = .nilCheck x) (hx : ev l x = some (.pointer (some ad))) : OpP C F l o (.pointer (some ad)) := fun a w r => by
  simp [execOp, ho, r.ev hx]
theorem P_fld {s f off b j : Nat} {x : Operand} (ho : o.op = .fieldAddr s x f) (hs : flB C.P s f off = true) (hx : ev l x = some (.pointer (some ⟨b, j, none⟩))) : OpP C F l o (.pointer (some ⟨b, j + off, none⟩)) := fun a w r => by
  unfold flB at hs
  split at hs
  · rename_i fs hfs
    split at hs
    · rename_i fd hfd
      rw [Bool.and_eq_true] at hs
      obtain ⟨h1, h2⟩ := hs
      have hoff : fd.offset = off := by simpa using h1
      cases hi : C.P.info? fd.type with
      | none => simp [hi] at h2
      | some i =>
        have hne : ¬ i.size = 0 := by simpa [hi] using h2
        simp [execOp, ho, r.ev hx, Instr.fieldAt, run_underlying hfs, hfd, Instr.sureAddr, fieldPlace, sizeOf, typeInfo, hi, hne, hoff, add_zero_off]
    · cases hs
  · cases hs
theorem P_fld0 {s f off b : Nat} {x : Operand} (ho : o.op = .fieldAddr s x f) (hs : flB C.P s f off = true) (hx : ev l x = some (.pointer (some ⟨b, 0, none⟩))) : OpP C F l o (.pointer (some ⟨b, off, none⟩)) := by
  have := P_fld (C := C) (F := F) ho hs hx
  rwa [Nat.zero_add] at this
section
variable {t t' e : Nat} {x y : Operand}
theorem pointee_eq {P : Program} (ht : P.underlying t = some (.pointer e)) : P.underlying t = some (.pointer (P.pointee t)) := by
  unfold Program.pointee; rw [ht]
theorem run_guard_ptr {P : Program} {w : World} (op : BinOp) (t : TypeId) (x y : Operand) (p q : Option Addr) : (eqGuard op t x y (.pointer p) (.pointer q)).run P w = .ok () w := by
  unfold eqGuard; cases op <;> rfl
theorem P_neP {p : Option Addr} (ho : o.op = .binOp .neq t x y t') (ht : C.P.underlying t = some (.pointer e)) (hx : ev l x = some (.pointer p)) (hy : ev l y = some (.pointer none)) : OpP C F l o (.bool (!p.isNone)) := fun a w r => by
  simp only [execOp, ho, r.ev hx, r.ev hy, Sem.run_bind, run_guard_ptr, Result.andThen_ok, run_neq_pointer_nil w t p (pointee_eq ht), Sem.run_pure]
theorem P_eqP {p : Option Addr} (ho : o.op = .binOp .eql t x y t') (ht : C.P.underlying t = some (.pointer e)) (hx : ev l x = some (.pointer p)) (hy : ev l y = some (.pointer none)) : OpP C F l o (.bool p.isNone) := fun a w r => by
  simp only [execOp, ho, r.ev hx, r.ev hy, Sem.run_bind, run_guard_ptr, Result.andThen_ok, run_eql_pointer_nil w t p (pointee_eq ht), Sem.run_pure]
theorem P_neNil {ad : Addr} (ho : o.op = .binOp .neq t x y t') (ht : C.P.underlying t = some (.pointer e)) (hx : ev l x = some (.pointer (some ad))) (hy : ev l y = some (.pointer none)) : OpP C F l o (.bool true) := P_neP ho ht hx hy
theorem P_eqNil {ad : Addr} (ho : o.op = .binOp .eql t x y t') (ht : C.P.underlying t = some (.pointer e)) (hx : ev l x = some (.pointer (some ad))) (hy : ev l y = some (.pointer none)) : OpP C F l o (.bool false) := P_eqP ho ht hx hy
theorem P_neNil0 (ho : o.op = .binOp .neq t x y t') (ht : C.P.underlying t = some (.pointer e)) (hx : ev l x = some (.pointer none)) (hy : ev l y = some (.pointer none)) : OpP C F l o (.bool false) := P_neP ho ht hx hy
theorem P_eqNil0 (ho : o.op = .binOp .eql t x y t') (ht : C.P.underlying t = some (.pointer e)) (hx : ev l x = some (.pointer none)) (hy : ev l y = some (.pointer none)) : OpP C F l o (.bool true) := P_eqP ho ht hx hy
end
/-- &a[i], a an array in memory. -/
theorem P_ixa {t n e sz b j : Nat} {x ix : Operand} {k : IntKind} {m : Int} (i : Nat) (ho : o.op = .indexAddr t x ix) (ht : arB C.P t n e sz = true) (hx : ev l x = some (.pointer (some ⟨b, j, none⟩))) (hi : ev l ix = some (.int k m)) (he : m = i) (hn : i < n) :
    OpP C F l o (.pointer (some ⟨b, j + i * sz, none⟩)) := fun a w r => by
  obtain ⟨h1, h2⟩ := arB_spec ht
  subst he
  simp [execOp, ho, r.ev hx, r.ev hi, Instr.indexAt, asIntOf, run_underlying h1, Instr.sureAddr, run_size h2, add_zero_off]
  intro h; omega
/-- &s[i], s a slice. -/
theorem P_ixs {t e sz bytes b j n c : Nat} {x ix : Operand} {k : IntKind} {m : Int} (i : Nat) (ho : o.op = .indexAddr t x ix) (ht : slB C.P t e sz bytes = true) (hx : ev l x = some (.slice (some ⟨b, j, none⟩) n c)) (hi : ev l ix = some (.int k m)) (he : m = i) (hn : i < n) :
    OpP C F l o (.pointer (some ⟨b, j + i * sz, none⟩)) := fun a w r => by
  obtain ⟨h1, ti, h2, h3, _⟩ := slB_spec ht
  subst he
  simp [execOp, ho, r.ev hx, r.ev hi, Instr.indexAt, asIntOf, run_underlying h1, sizeOf, typeInfo, h2, h3, add_zero_off]
  intro h; omega
/-- a[i], a an array by value whose elements are one cell each. -/
theorem P_index {t n e : Nat} {x ix : Operand} {k : IntKind} {m : Int} {cs : List Value} {v : Value} (i : Nat) (ho : o.op = .index t x ix) (ht : arB C.P t n e 1 = true) (he1 : scB C.P e = true) (hx : ev l x = some (.agg cs.toArray)) (hi : ev l ix = some (.int k m)) (he : m = i) (hn : i < n) (hv : cs[i]? = some v) :
    OpP C F l o v := fun a w r => by
  obtain ⟨h1, h2⟩ := arB_spec ht
  subst he
  simp [execOp, ho, r.ev hx, r.ev hi, Instr.index, asIntOf, run_underlying h1, run_size h2, part, run_isAgg_sc he1, hv]
  intro h; omega
/-- x.f, x a struct by value, f of one cell. -/
theorem P_field {s f off ft : Nat} {x : Operand} {cs : List Value} {v : Value} (ho : o.op = .field s x f) (hf : fldB C.P s f = some (off, ft)) (h1 : scB C.P ft = true) (hx : ev l x = some (.agg cs.toArray)) (hv : cs[off]? = some v) : OpP C F l o v := fun a w r => by
  unfold fldB at hf
  split at hf
  · rename_i fs hu
    split at hf
    · rename_i fd hfd
      simp only [Option.some.injEq, Prod.mk.injEq] at hf
      obtain ⟨rfl, rfl⟩ := hf
      simp [execOp, ho, r.ev hx, Instr.field, run_underlying hu, hfd, part, asAgg, run_isAgg_sc h1, hv]
    · cases hf
  · cases hf
theorem P_fieldAgg {s f off ft n : Nat} {x : Operand} {cs : List Value} (ho : o.op = .field s x f) (hf : fldB C.P s f = some (off, ft)) (h1 : agB C.P ft n = true) (hx : ev l x = some (.agg cs.toArray)) : OpP C F l o (.agg ((cs.drop off).take n).toArray) := fun a w r => by
  unfold fldB at hf
  split at hf
  · rename_i fs hu
    split at hf
    · rename_i fd hfd
      simp only [Option.some.injEq, Prod.mk.injEq] at hf
      obtain ⟨rfl, rfl⟩ := hf
      simp [execOp, ho, r.ev hx, Instr.field, run_underlying hu, hfd, part, asAgg, run_isAgg_ag h1]
    · cases hf
  · cases hf
theorem P_extract {x : Operand} {i : Nat} {vs : List Value} {v : Value} (ho : o.op = .extract x i) (hx : ev l x = some (.tuple vs.toArray)) (hv : vs[i]? = some v) : OpP C F l o v := fun a w r => by
  simp [execOp, ho, r.ev hx, Instr.extract, hv]
theorem P_len {t e sz bytes : Nat} {x : Operand} {b : Option Addr} {n c : Nat} (ho : o.op = .call { callee := .builtin .len, args := #[x], argTypes := #[t] }) (ht : slB C.P t e sz bytes = true) (hx : ev l x = some (.slice b n c)) : OpP C F l o (.int .i64 n) := fun a w r => by
  obtain ⟨h1, _⟩ := slB_spec ht
  simp [execOp, ho, resolve, invoke, builtin, r.ev hx, Builtin.len_, run_underlying h1, goInt]
theorem P_lenStr {t : Nat} {x : Operand} {s : ByteArray} (ho : o.op = .call { callee := .builtin .len, args := #[x], argTypes := #[t] }) (ht : C.P.underlying t = some .string) (hx : ev l x = some (.string s)) : OpP C F l o (.int .i64 s.size) := fun a w r => by
  simp [execOp, ho, resolve, invoke, builtin, r.ev hx, Builtin.len_, run_underlying ht, goInt]
theorem P_func {fn : Fn} {first captured : Array Operand} {fi ca : List Value} (ho : o.op = .makeFunc fn first captured) (h1 : evL l first.toList = some fi) (h2 : evL l captured.toList = some ca) : OpP C F l o (.func fn fi.toArray ca.toArray) := fun a w r => by
  have e1 : first.map a.eval = fi.toArray := Array.ext' (by rw [Array.toList_map, r.evL h1])
  have e2 : captured.map a.eval = ca.toArray := Array.ext' (by rw [Array.toList_map, r.evL h2])
  simp [execOp, ho, Instr.makeFunc, e1, e2]
/-- x[lo:hi] of a slice. -/
theorem P_slice {t e sz bytes : Nat} {x : Operand} {lo hi : Option Operand} {b : Option Addr} {n c : Nat} (p q : Nat) (ho : o.op = .slice t x lo hi none) (ht : slB C.P t e sz bytes = true) (hx : ev l x = some (.slice b n c))
    (hlo : match lo with | none => p = 0 | some y => ∃ k, ev l y = some (.int k (p : Int))) (hhi : match hi with | none => q = n | some y => ∃ k, ev l y = some (.int k (q : Int))) (hpq : p ≤ q) (hq : q ≤ c) :
    OpP C F l o (sliced b p q c sz) := fun a w r => by
  obtain ⟨h1, ti, h2, h3, _⟩ := slB_spec ht
  have hpq' : (p : Int) ≤ q := by omega
  have hq' : (q : Int) ≤ c := by omega
  cases lo <;> cases hi <;> simp only at hlo hhi
  · subst hlo; subst hhi
    simp [execOp, ho, r.ev hx, Instr.sliceAt, Instr.slice, run_underlying h1, Instr.sliceBounds, sliced, sizeOf, typeInfo, h2]
  · obtain ⟨k, hk⟩ := hhi
    subst hlo
    simp [execOp, ho, r.ev hx, r.ev hk, Instr.sliceAt, Instr.slice, run_underlying h1, Instr.sliceBounds, run_sliceBound, sliced, sizeOf, typeInfo, h2, hq']
  · obtain ⟨k, hk⟩ := hlo
    subst hhi
    simp [execOp, ho, r.ev hx, r.ev hk, Instr.sliceAt, Instr.slice, run_underlying h1, Instr.sliceBounds, run_sliceBound, sliced, sizeOf, typeInfo, h2, h3, hpq']
  · obtain ⟨k, hk⟩ := hlo
    obtain ⟨k2, hk2⟩ := hhi
    simp [execOp, ho, r.ev hx, r.ev hk, r.ev hk2, Instr.sliceAt, Instr.slice, run_underlying h1, Instr.sliceBounds, run_sliceBound, sliced, sizeOf, typeInfo, h2, h3, hpq', hq']
/-- x[lo:hi:max] of a slice. -/
theorem P_slice3 {t e sz bytes : Nat} {x y z : Operand} {lo : Option Operand} {b : Option Addr} {n c : Nat} {km kh : IntKind} (p q m : Nat) (ho : o.op = .slice t x lo (some z) (some y)) (ht : slB C.P t e sz bytes = true) (hx : ev l x = some (.slice b n c))
    (hlo : match lo with | none => p = 0 | some y => ∃ k, ev l y = some (.int k (p : Int))) (hhi : ev l z = some (.int kh (q : Int))) (hmx : ev l y = some (.int km (m : Int))) (hpq : p ≤ q) (hq : q ≤ m) (hm : m ≤ c) :
    OpP C F l o (sliced b p q m sz) := fun a w r => by
  obtain ⟨h1, ti, h2, h3, _⟩ := slB_spec ht
  have hpq' : (p : Int) ≤ q := by omega
  have hq' : (q : Int) ≤ m := by omega
  have hm' : (m : Int) ≤ c := by omega
  cases lo <;> simp only at hlo
  · subst hlo
    simp [execOp, ho, r.ev hx, r.ev hhi, r.ev hmx, Instr.sliceAt, Instr.slice, run_underlying h1, Instr.sliceBounds, run_sliceBound, sliced, sizeOf, typeInfo, h2, h3, hq', hm']
  · obtain ⟨k, hk⟩ := hlo
    simp [execOp, ho, r.ev hx, r.ev hk, r.ev hhi, r.ev hmx, Instr.sliceAt, Instr.slice, run_underlying h1, Instr.sliceBounds, run_sliceBound, sliced, sizeOf, typeInfo, h2, h3, hpq', hq', hm']
/-- a[lo:] of an array in memory. -/
theorem P_sliceArr {t n e sz b j : Nat} {x : Operand} {lo hi : Option Operand} (p q : Nat) (ho : o.op = .slice t x lo hi none) (ht : arB C.P t n e sz = true) (hx : ev l x = some (.pointer (some ⟨b, j, none⟩)))
    (hlo : match lo with | none => p = 0 | some y => ∃ k, ev l y = some (.int k (p : Int))) (hhi : match hi with | none => q = n | some y => ∃ k, ev l y = some (.int k (q : Int))) (hpq : p ≤ q) (hq : q ≤ n) :
    OpP C F l o (.slice (some (if n = p then ⟨b, j, none⟩ else ⟨b, j + p * sz, none⟩)) (q - p) (n - p)) := fun a w r => by
  obtain ⟨h1, h2⟩ := arB_spec ht
  have hpq' : (p : Int) ≤ q := by omega
  have hq' : (q : Int) ≤ n := by omega
  cases lo <;> cases hi <;> simp only at hlo hhi
  · subst hlo; subst hhi
    simp [execOp, ho, r.ev hx, Instr.sliceAt, Instr.sureAddr, run_underlying h1, Instr.sliceBounds, run_size h2, add_zero_off]
  · obtain ⟨k, hk⟩ := hhi
    subst hlo
    simp [execOp, ho, r.ev hx, r.ev hk, Instr.sliceAt, Instr.sureAddr, run_underlying h1, Instr.sliceBounds, run_sliceBound, run_size h2, add_zero_off, hq']
  · obtain ⟨k, hk⟩ := hlo
    subst hhi
    simp [execOp, ho, r.ev hx, r.ev hk, Instr.sliceAt, Instr.sureAddr, run_underlying h1, Instr.sliceBounds, run_sliceBound, run_size h2, add_zero_off, hpq']
  · obtain ⟨k, hk⟩ := hlo
    obtain ⟨k2, hk2⟩ := hhi
    simp [execOp, ho, r.ev hx, r.ev hk, r.ev hk2, Instr.sliceAt, Instr.sureAddr, run_underlying h1, Instr.sliceBounds, run_sliceBound, run_size h2, add_zero_off, hpq', hq']
theorem P_sliceAll {t n e sz b j : Nat} {x : Operand} (ho : o.op = .slice t x none none none) (ht : arB C.P t n e sz = true) (hx : ev l x = some (.pointer (some ⟨b, j, none⟩))) : OpP C F l o (.slice (some ⟨b, j, none⟩) n n) := fun a w r => by
  have := P_sliceArr (C := C) (F := F) 0 n ho ht hx rfl rfl (Nat.zero_le _) (Nat.le_refl _) a w r
  simpa using this

theorem V_load {t : Nat} {x : Operand} {ad : Addr} {v : Value} (ho : o.op = .load t x) (hx : ev l x = some (.pointer (some ad))) (ht : scB C.P t = true) (hr : Rd C F rs ad v) : OpV C F l rs o v := fun a w r n => by
  simp [execOp, ho, r.ev hx, Instr.loadAt, Instr.sureAddr, Rd.loadVar ht hr w n]
theorem V_loadAgg {t n : Nat} {x : Operand} {ad : Addr} {cs : List Value} (ho : o.op = .load t x) (hx : ev l x = some (.pointer (some ad))) (ht : agB C.P t n = true) (hr : Rds C F rs ad cs) (hn : cs.length = n) : OpV C F l rs o (.agg cs.toArray) := fun a w r nw => by
  simp [execOp, ho, r.ev hx, Instr.loadAt, Instr.sureAddr, Rds.loadVar ht hr hn w nw]
end
end Go.Proofs.Ytfhjhaogmdaepaa
