/- Plain parts for the book beside the registries. Printed by gen.py. -/
import Derived.Test.YtnaadddnbfnahaaDoorU1
set_option linter.unusedVariables false
set_option linter.unusedSimpArgs false
set_option maxRecDepth 100000
namespace Go.Proofs.YtnaadddnbfnahaaDoor
open Go Go.RowKit Go.Proofs
theorem Spec.openEx {C : Cx} {f : FuncId} {args : List Value} {pre : World → Heap → Prop} {X : Type} {p : X → Prop} {s : X → List HP} {post : Value → List HP → Prop} (h : ∀ x, p x → Spec C f args pre (s x) post) : Spec C f args pre [ExP p fun x => bundle (s x)] post := fun w k hs hu hp => by
  obtain ⟨x, hx, hb⟩ := Sep.single.1 hs
  exact h x hx w k hb hu hp
def ptrs (sg : List (Int × Nat)) : List Value := sg.map fun x => .pointer (some ⟨x.2, 0, none⟩)
theorem enOf_len {sg tg : List (Int × Nat)} (h : enOf sg = enOf tg) : sg.length = tg.length := by rw [← enOf_length sg, h, enOf_length]
theorem isIn_iff (sg : List (Int × Nat)) (a : Int) : isIn sg a = true ↔ a ∈ enOf sg := by
  unfold isIn sgP enOf
  rw [Option.isSome_map, List.find?_isSome]
  simp [List.mem_map]
theorem snoc_le {α : Type} {l : List α} {x : α} {n : Nat} (h : l.length ≤ n) : (l ++ [x]).length ≤ n + 1 := by rw [List.length_append, List.length_singleton]; omega
theorem enOf_snoc (sg : List (Int × Nat)) (a : Int) (s : Nat) : enOf (sg ++ [(a, s)]) = enOf sg ++ [a] := by simp [enOf]
theorem ptrs_snoc (sg : List (Int × Nat)) (a : Int) (s : Nat) : ptrs sg ++ [.pointer (some ⟨s, 0, none⟩)] = ptrs (sg ++ [(a, s)]) := by simp [ptrs]
theorem ptrs_at {sg : List (Int × Nat)} {i : Nat} {a : Int} {s : Nat} (h : sg[i]? = some (a, s)) : (ptrs sg)[i]? = some (.pointer (some ⟨s, 0, none⟩)) := by simp [ptrs, h]
theorem enOf_at {sg tg : List (Int × Nat)} (h : enOf sg = enOf tg) {i : Nat} {a : Int} {s : Nat} (hs : sg[i]? = some (a, s)) : ∃ t, tg[i]? = some (a, t) := by
  have := congrArg (fun l => l[i]?) h
  simp only [enOf, List.getElem?_map, hs, Option.map_some] at this
  cases ht : tg[i]? with
  | none => rw [ht] at this; cases this
  | some y =>
    rw [ht] at this
    simp only [Option.map_some, Option.some.injEq] at this
    obtain ⟨b, t⟩ := y
    exact ⟨t, by simp at this; rw [this]⟩
theorem opC_tw {kd wh at_ a : Int} {base : Option Addr} {n c : Nat} {sl : List Int} {tw : Int} {lg : Bool} (h : sl.length = 16) : (opC kd wh at_ a base n c sl tw lg)[21]? = some (.int .i64 tw) := by
  unfold opC
  show (ints .u8 sl ++ [Value.int .i64 tw, .bool lg])[16]? = _
  rw [List.getElem?_append_right (by rw [ints_length]; omega), ints_length, h]; rfl
theorem opC_length {kd wh at_ a : Int} {base : Option Addr} {n c : Nat} {sl : List Int} {tw : Int} {lg : Bool} (h : sl.length = 16) : (opC kd wh at_ a base n c sl tw lg).length = 23 := by
  unfold opC; simp [ints_length, h]
theorem opC_seal {kd wh at_ a : Int} {base : Option Addr} {n c : Nat} {sl : List Int} {tw : Int} {lg : Bool} (h : sl.length = 16) (i : Nat) (v : Value) (hv : (ints .u8 sl)[i]? = some v) : (opC kd wh at_ a base n c sl tw lg)[5 + i]? = some v := by
  unfold opC
  rw [List.getElem?_append_right (by simp)]
  simp only [List.length_cons, List.length_nil]
  rw [show 5 + i - (0 + 1 + 1 + 1 + 1 + 1) = i by omega, List.getElem?_append_left (List.getElem?_eq_some_iff.1 hv).1]
  exact hv
theorem sn_head {C : Cx} {F : Fx} {rs : List HP} {base : Option Addr} {xs ys : List Int} (h : Sn C F rs base (ints .u8 (xs ++ ys))) : Sn C F rs base (ints .u8 xs) := by
  rw [← ints_append] at h; exact h.left
theorem and1 (x : Int) : bitI .and .i64 x 1 = 0 ∨ bitI .and .i64 x 1 = 1 := by
  have h : ∀ y : BitVec 64, (y &&& 1#64).toNat = 0 ∨ (y &&& 1#64).toNat = 1 := fun y => by
    rw [BitVec.toNat_and]
    have : (1#64).toNat = 1 := rfl
    rw [this, Nat.and_one_is_mod]; omega
  have e : bitI .and .i64 x 1 = IntKind.i64.wrap ((BitVec.ofInt 64 x &&& 1#64).toNat : Int) := rfl
  rcases h (BitVec.ofInt 64 x) with h | h
  · left; rw [e, h]; rfl
  · right; rw [e, h]; rfl
theorem isIn_eq {sg tg : List (Int × Nat)} (h : enOf sg = enOf tg) (a : Int) : (isIn sg a == decide (a ∈ enOf tg)) = true := by
  rw [← h]
  cases hi : isIn sg a with
  | true => rw [decide_eq_true ((isIn_iff _ _).1 hi)]; rfl
  | false => rw [decide_eq_false fun hm => by rw [(isIn_iff _ _).2 hm] at hi; cases hi]; rfl
theorem reg_fact {p : Nat} {sg : List (Int × Nat)} {rc : List Rcd} : ∀ h, REG p sg rc h → ∀ x ∈ rc, IsB x.2 ∧ x.2.length ≤ 1048576 := fun _ ⟨_, hx, _⟩ => hx.1
structure Opr where
  kd : Int
  wh : Int
  at_ : Int
  a : Int
  m : Sl Int
  sl : List Int
  tw : Int
  lg : Bool
def Opr.cells (o : Opr) : List Value := opC o.kd o.wh o.at_ o.a o.m.b o.m.xs.length o.m.c o.sl o.tw o.lg
def OprOK (w : World) (o : Opr) : Prop := Row w o.m.b (ints .u8 o.m.xs) ∧ IsB o.m.xs ∧ o.sl.length = 16
def opsC (l : List Opr) : List Value := l.flatMap Opr.cells
def ScriptOK (w : World) (base : Option Addr) (l : List Opr) : Prop := Row w base (opsC l) ∧ ∀ o ∈ l, OprOK w o
theorem opsC_at {l : List Opr} (hl : ∀ o ∈ l, o.sl.length = 16) {i : Nat} {o : Opr} (hi : l[i]? = some o) (j : Nat) (v : Value) (hj : o.cells[j]? = some v) : (opsC l)[i * 23 + j]? = some v :=
  rows_at (fun x hx => opC_length (hl x hx)) hi j v hj
theorem opC_one {kd wh at_ a : Int} {base : Option Addr} {n c : Nat} {sl : List Int} {tw : Int} {lg : Bool} : ∀ v ∈ opC kd wh at_ a base n c sl tw lg, v.oneCell' = true := fun v hv => by
  unfold opC at hv
  rcases List.mem_append.1 hv with hv | hv
  · simp only [List.mem_cons, List.not_mem_nil, or_false] at hv
    rcases hv with rfl | rfl | rfl | rfl | rfl <;> rfl
  · rcases List.mem_append.1 hv with hv | hv
    · exact ints_one v hv
    · simp only [List.mem_cons, List.not_mem_nil, or_false] at hv
      rcases hv with rfl | rfl <;> rfl
end Go.Proofs.YtnaadddnbfnahaaDoor
