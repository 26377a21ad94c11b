/- The seventh part of the program logic: rows of cells that a callee may read, wherever they lie; slices of bytes; small helpers. -/
import Derived.Test.YtfhjhaogmdaepaaEngF
set_option linter.unusedVariables false
set_option linter.unusedSimpArgs false
namespace Go.Proofs.Ytfhjhaogmdaepaa
open Go Go.RowKit

/-- A row that a callee may read: none of its cells lies in what the callee takes. -/
def Seen (w : World) (h : Heap) (base : Option Addr) (cs : List Value) : Prop := ∀ (j : Nat) (v : Value), cs[j]? = some v → ∃ ad, base = some ad ∧ w.cell? (ad.add j) = some v ∧ h ad.block = .none
theorem Seen.row {w : World} {h : Heap} {base : Option Addr} {cs : List Value} (s : Seen w h base cs) : Row w base cs := fun j v hv => (s j v hv).imp fun _ x => ⟨x.1, x.2.1⟩
theorem Row.seen {w : World} {base : Option Addr} {cs : List Value} (s : Row w base cs) : Seen w Heap.none base cs := fun j v hv => (s j v hv).imp fun _ x => ⟨x.1, x.2, rfl⟩
theorem add_block (ad : Addr) (n : Nat) : (ad.add n).block = ad.block := by unfold Addr.add; split <;> rfl
theorem cell_block_lt {w : World} {ad : Addr} {n : Nat} {v : Value} (h : w.cell? (ad.add n) = some v) : ad.block < w.heap.size := by
  have := block_lt_of_cell h; rwa [add_block] at this
theorem Seen.nil {w : World} {h : Heap} {base : Option Addr} : Seen w h base [] := fun _ _ h => by cases h
theorem Seen.part {w : World} {h : Heap} {base base' : Option Addr} {cs us : List Value} (s : Seen w h base cs) (f : ∀ (j : Nat) (v : Value), us[j]? = some v → ∃ ad ad', base = some ad ∧ base' = some ad' ∧ ad'.block = ad.block ∧ ∃ i, ad'.add j = ad.add i ∧ cs[i]? = some v) : Seen w h base' us := fun j v hv => by
  obtain ⟨ad, ad', e, e', eb, i, ea, hc⟩ := f j v hv
  obtain ⟨ad2, e2, h1, h2⟩ := s i v hc
  rw [e, Option.some.injEq] at e2
  subst e2
  exact ⟨ad', e', by rw [ea]; exact h1, by rw [eb]; exact h2⟩
/-- x[p:q] of a row. -/
theorem part_sliced {base : Option Addr} {cs : List Value} {sz p q c : Nat} (hq : q ≤ c) (hcs : cs.length = c * sz ∨ q * sz ≤ cs.length) (hb : ∀ (j : Nat) (v : Value), cs[j]? = some v → base ≠ none) :
    ∀ (j : Nat) (v : Value), ((cs.drop (p * sz)).take ((q - p) * sz))[j]? = some v → ∃ ad ad', base = some ad ∧ (if c = p then base else base.map (·.add (p * sz))) = some ad' ∧ ad'.block = ad.block ∧ ∃ i, ad'.add j = ad.add i ∧ cs[i]? = some v := fun j v hv => by
  rw [List.getElem?_take] at hv
  split at hv
  · rename_i hj
    rw [List.getElem?_drop] at hv
    cases base with
    | none => exact absurd rfl (hb _ v hv)
    | some ad =>
      have hne : ¬ c = p := by
        intro e; subst e
        have : (q - c) * sz = 0 := by rw [Nat.sub_eq_zero_of_le hq]; simp
        omega
      refine ⟨ad, ad.add (p * sz), rfl, by rw [if_neg hne]; rfl, add_block _ _, p * sz + j, ?_, hv⟩
      unfold Addr.add
      by_cases h1 : p * sz = 0 <;> by_cases h2 : j = 0 <;> simp [h1, h2, Nat.add_assoc]
  · cases hv
theorem Seen.sliced {w : World} {h : Heap} {base : Option Addr} {cs : List Value} {sz p q c : Nat} (s : Seen w h base cs) (hq : q ≤ c) (hcs : cs.length = c * sz ∨ q * sz ≤ cs.length) : Seen w h (if c = p then base else base.map (·.add (p * sz))) ((cs.drop (p * sz)).take ((q - p) * sz)) :=
  s.part (part_sliced hq hcs fun j v hv => by obtain ⟨ad, rfl, _⟩ := s j v hv; simp)

section
variable {C : Cx} {F : Fx} {l : Env} {rs rs' : List HP} {K : Act → World → Prop} {o : Oper} {Q : Exit → Act → World → Prop} {d : Nat}
/-- A row in every fitting world: it was there when the body was entered, or it lies in what the body owns. -/
def Sn (C : Cx) (F : Fx) (rs : List HP) (base : Option Addr) (cs : List Value) : Prop := ∀ w h, Sep rs h → Move C F.w F.h w h → ∀ (j : Nat) (v : Value), cs[j]? = some v →
  ∃ ad, base = some ad ∧ w.cell? (ad.add j) = some v ∧ ((ad.block < F.w.heap.size ∧ F.h ad.block = .none) ∨ h ad.block ≠ .none ∨ ad.block < C.ng)
theorem Sn.rw_ {base : Option Addr} {cs : List Value} (s : Sn C F rs base cs) : Rw C F rs base cs := fun w ⟨h, hs, m⟩ j v hv => (s w h hs m j v hv).imp fun _ x => ⟨x.1, x.2.1⟩
theorem Sn.old {base : Option Addr} {cs : List Value} (s : Seen F.w F.h base cs) : Sn C F rs base cs := fun w h hs m j v hv => by
  obtain ⟨ad, e, hc, hn⟩ := s j v hv
  have hlt := cell_block_lt hc
  refine ⟨ad, e, ?_, .inl ⟨hlt, hn⟩⟩
  rw [← hc]
  have hb := m.keep ad.block hlt hn
  simp only [World.cell?, add_block, hb]
theorem Sn.row {base : Option Addr} {cs : List Value} (s : Row F.w base cs) (hf : F.h = Heap.none) : Sn C F rs base cs := Sn.old (by rw [hf]; exact s.seen)
theorem Sn.nil {base : Option Addr} : Sn C F rs base [] := fun _ _ _ _ _ _ h => by cases h
theorem Sn.part {base base' : Option Addr} {cs us : List Value} (s : Sn C F rs base cs) (f : ∀ (j : Nat) (v : Value), us[j]? = some v → ∃ ad ad', base = some ad ∧ base' = some ad' ∧ ad'.block = ad.block ∧ ∃ i, ad'.add j = ad.add i ∧ cs[i]? = some v) : Sn C F rs base' us := fun w h hs m j v hv => by
  obtain ⟨ad, ad', e, e', eb, i, ea, hc⟩ := f j v hv
  obtain ⟨ad2, e2, h1, h2⟩ := s w h hs m i v hc
  rw [e, Option.some.injEq] at e2
  subst e2
  exact ⟨ad', e', by rw [ea]; exact h1, by rw [eb]; exact h2⟩
theorem Sn.ofBlk {b T : Nat} {cs : List Value} (m : Has rs (blk b cs T) (blk b cs T) rs) : Sn C F rs (some ⟨b, 0, none⟩) cs := fun w h hs mv j v hv => by
  obtain ⟨a, c, ⟨fr, hf, rfl⟩, dj, rfl, _⟩ := Sep.take m hs
  have hone : (Heap.one b (.cells cs.toArray T fr)).join c b = some (.cells cs.toArray T fr) := Heap.le_join_left _ _ b _ (Heap.one_same _ _)
  refine ⟨_, rfl, ?_, .inr (.inl (by rw [hone]; simp))⟩
  have := mv.sub b _ hone
  rw [add_zero_off]
  simp [World.cell?, this, hv]
theorem Sn.ofBlkAt {b T k : Nat} {cs us : List Value} (m : Has rs (blk b cs T) (blk b cs T) rs) (hu : ∀ (i : Nat) (v : Value), us[i]? = some v → cs[k + i]? = some v) : Sn C F rs (some ⟨b, k, none⟩) us :=
  (Sn.ofBlk (C := C) (F := F) m).part fun j v hv => ⟨_, _, rfl, rfl, rfl, k + j, by rw [add_zero_off, add_zero_off]; simp, hu j v hv⟩
theorem Sn.own {T sz n c : Nat} {base : Option Addr} {v : Value} {cs : List Value} (m : Has rs (ownS T sz v n cs) (ownS T sz v n cs) rs) (e : v = .slice base n c) : Sn C F rs base cs := fun w h hs mv j u hu => by
  obtain ⟨a, c', hv, dj, rfl, _⟩ := Sep.take m hs
  subst e
  rcases hv.2 with ⟨_, rfl, _⟩ | ⟨b, cap, junk, e, _, _, _, fr, hf, rfl⟩
  · have := hv.1
    have : cs = [] := List.eq_nil_of_length_eq_zero (by simpa using this)
    subst this; cases hu
  · simp only [Value.slice.injEq] at e
    obtain ⟨rfl, _, _⟩ := e
    have hone : (Heap.one b (.cells (cs ++ junk).toArray T fr)).join c' b = some (.cells (cs ++ junk).toArray T fr) := Heap.le_join_left _ _ b _ (Heap.one_same _ _)
    refine ⟨_, rfl, ?_, .inr (.inl (by rw [hone]; simp))⟩
    have h2 := mv.sub b _ hone
    have hj := (List.getElem?_eq_some_iff.1 hu).1
    rw [add_zero_off]
    simp only [World.cell?, h2]
    simp only [Option.isSome_none, Bool.false_eq_true, if_false, List.getElem?_toArray, Nat.zero_add]
    rw [List.getElem?_append_left hj]; exact hu
theorem Sn.sliced {base : Option Addr} {cs : List Value} {sz p q c : Nat} (s : Sn C F rs base cs) (hq : q ≤ c) (hcs : cs.length = c * sz ∨ q * sz ≤ cs.length) : Sn C F rs (if c = p then base else base.map (·.add (p * sz))) ((cs.drop (p * sz)).take ((q - p) * sz)) := fun w h hs m j v hv => by
  refine Sn.part (C := C) (F := F) (rs := rs) s (part_sliced (sz := sz) (p := p) hq hcs ?_) w h hs m j v hv
  intro i u hu
  obtain ⟨ad, rfl, _⟩ := s w h hs m i u hu
  simp
theorem Sn.take {base : Option Addr} {cs : List Value} (s : Sn C F rs base cs) (n : Nat) : Sn C F rs base (cs.take n) := fun w h hs m j v hv => by
  rw [List.getElem?_take] at hv
  split at hv
  · exact s w h hs m j v hv
  · cases hv
/-- What a call asks for. -/
theorem Sn.pre {R0 rest : List HP} {base : Option Addr} {cs : List Value} (s : Sn C F rest base cs) : ∀ w a b, Sep R0 a → Sep rest b → a.Disj b → Move C F.w F.h w (a.join b) → Seen w a base cs := fun w a b ha hb dj m j v hv => by
  obtain ⟨ad, e, hc, hx⟩ := s w b hb (m.le (Heap.le_join_right dj)) j v hv
  refine ⟨ad, e, hc, ?_⟩
  cases hq : a ad.block with
  | none => rfl
  | some o =>
    exfalso
    have hj := Heap.le_join_left a b _ _ hq
    rcases hx with ⟨h1, h2⟩ | h2 | h2
    · exact m.dom _ _ hj h1 h2
    · rcases dj ad.block with e1 | e1
      · rw [e1] at hq; cases hq
      · exact h2 e1
    · exact absurd (m.low _ _ hj) (by omega)

/-- A function whose value and whose resources behind it are known beforehand. -/
def SpecR (C : Cx) (f : FuncId) (args : List Value) (pre : World → Heap → Prop) (R0 : List HP) (v : Value) (RS : List HP) : Prop := Spec C f args pre R0 (fun u rs => u = v ∧ rs = RS)
theorem W_callR {xs : List Operand} {ts : Array TypeId} {f : FuncId} {vs : List Value} {v : Value} {pre : World → Heap → Prop} {R0 RS rest : List HP}
    (ho : o.op = .call { callee := .value (.func f), args := xs.toArray, argTypes := ts }) (hd : o.dst = some d) (hn : Nat.blt d F.n = true) (hx : evL l xs = some vs) (hc : callable C.P f = true) (hs : SpecR C f vs pre R0 v RS)
    (sp : Split rs R0 rest) (hp : ∀ w a b, Sep R0 a → Sep rest b → a.Disj b → Move C F.w F.h w (a.join b) → pre w a) (k : St C F ((d, v) :: l) (RS ++ rest) K) : OpW C F l rs o K Q :=
  W_call ho hd hn hx hc hs sp hp fun u rs1 ⟨h1, h2⟩ => by subst h1; subst h2; exact k
end

/-! ### Slices of bytes -/
/-- v is a slice of these bytes, in world w. -/
def Bytes (w : World) (v : Value) (xs : List Int) : Prop := ∃ base c, v = .slice base xs.length c ∧ xs.length ≤ c ∧ Row w base (ints .u8 xs)
/-- A row of slices of bytes. -/
def BytesL (w : World) (vs : List Value) (xss : List (List Int)) : Prop := vs.length = xss.length ∧ ∀ (i : Nat) (v : Value) (xs : List Int), vs[i]? = some v → xss[i]? = some xs → Bytes w v xs

theorem Row.some_ {w : World} {base : Option Addr} {cs : List Value} (h : Row w base cs) (hl : 0 < cs.length) : ∃ b j, base = some ⟨b, j, none⟩ ∧ RowAt w ⟨b, j, none⟩ cs := by
  rcases h.cases with rfl | h
  · cases hl
  · exact h
/-- The first k of n places are filled. -/
def fillN (f : Nat → Int) (n k : Nat) : List Int := (List.range n).map fun i => if i < k then f i else 0
theorem fillN_length (f : Nat → Int) (n k : Nat) : (fillN f n k).length = n := by simp [fillN]
theorem fillN_zero (f : Nat → Int) (n : Nat) : fillN f n 0 = List.replicate n 0 := by
  apply List.ext_getElem (by simp [fillN])
  intro i h1 h2; simp [fillN]
theorem fillN_full (f : Nat → Int) (n : Nat) : fillN f n n = (List.range n).map f := by
  apply List.ext_getElem (by simp [fillN])
  intro i h1 h2
  simp only [fillN, List.length_map, List.length_range] at h1
  simp [fillN, h1]
theorem fillN_set (f : Nat → Int) (n k : Nat) : (fillN f n k).set k (f k) = fillN f n (k + 1) := by
  apply List.ext_getElem (by simp [fillN])
  intro i h1 h2
  rw [List.getElem_set]
  by_cases hik : k = i
  · subst hik; simp [fillN]
  · have : (i < k) ↔ (i < k + 1) := by omega
    simp [fillN, hik, this]
end Go.Proofs.Ytfhjhaogmdaepaa
