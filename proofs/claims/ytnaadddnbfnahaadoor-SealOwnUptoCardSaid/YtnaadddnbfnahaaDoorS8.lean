/- Registries that no New made; signing once more. Printed by gen.py. -/
import Derived.Test.YtnaadddnbfnahaaDoorSStr
set_option linter.unusedVariables false
set_option linter.unusedSimpArgs false
set_option maxRecDepth 100000
namespace Go.Proofs.YtnaadddnbfnahaaDoor
open Go Go.RowKit Go.Proofs
/-- One record more, if it isn't there yet. -/
def addR (rc : List Rcd) (x : Rcd) : List Rcd := if x ∈ rc then rc else rc ++ [x]
theorem mem_addR {rc : List Rcd} {x y : Rcd} : y ∈ addR rc x ↔ y ∈ rc ∨ y = x := by
  unfold addR
  split
  · rename_i h
    constructor
    · exact .inl
    · rintro (h1 | rfl)
      · exact h1
      · exact h
  · simp
theorem addR_length (rc : List Rcd) (x : Rcd) : (addR rc x).length ≤ rc.length + 1 := by
  unfold addR; split <;> simp
theorem isB_wrap (x : Int) : 0 ≤ IntKind.u8.wrap x ∧ IntKind.u8.wrap x ≤ 255 := by
  simp only [IntKind.wrap, IntKind.signed, IntKind.bits, Bool.false_and, Bool.false_eq_true, if_false]; omega
def xorB (k x : Int) : Int := bitI .xor .u8 x k
theorem isB_xor (k x : Int) : 0 ≤ xorB k x ∧ xorB k x ≤ 255 := isB_wrap _
/-- The first i bytes are turned. -/
def xorP (k : Int) (l : List Int) (i : Nat) : List Int := (l.take i).map (xorB k) ++ l.drop i
theorem xorP_zero (k : Int) (l : List Int) : xorP k l 0 = l := by simp [xorP]
theorem xorP_full (k : Int) (l : List Int) : xorP k l l.length = l.map (xorB k) := by simp [xorP]
theorem xorP_length (k : Int) (l : List Int) (i : Nat) : (xorP k l i).length = l.length := by simp [xorP]; omega
theorem xorP_at (k : Int) {l : List Int} {i : Nat} (h : i < l.length) : (xorP k l i)[i]? = some (l[i]) := by
  unfold xorP
  rw [List.getElem?_append_right (by simp; omega)]
  simp [List.getElem?_drop, Nat.min_eq_left (Nat.le_of_lt h), h]
theorem xorP_next (k : Int) {l : List Int} {i : Nat} (h : i < l.length) : (xorP k l i).set i (xorB k l[i]) = xorP k l (i + 1) := by
  unfold xorP
  rw [List.set_append_right _ _ (by simp; omega)]
  simp only [List.length_map, List.length_take, Nat.min_eq_left (Nat.le_of_lt h), Nat.sub_self]
  rw [List.drop_eq_getElem_cons h, List.set_cons_zero, List.take_add_one, List.getElem?_eq_getElem h, List.map_append, List.append_assoc]
  rfl
theorem isB_xorP (k : Int) {l : List Int} (h : IsB l) (i : Nat) : IsB (xorP k l i) := fun x hx => by
  unfold xorP at hx
  rcases List.mem_append.1 hx with hx | hx
  · obtain ⟨y, _, rfl⟩ := List.mem_map.1 hx; exact isB_xor _ _
  · exact h x (List.mem_of_mem_drop hx)
theorem known_nil {gl : Nat → Obj} (a : Int) : SpecV (cx gl) 24 [.pointer none, .int .u64 a] noPre (.bool false) := by
  refine Spec.enterX (C := cx gl) Tryd.func24 rfl 21 rfl rfl fun w0 h0 hsep hsub hpre => ?_
  obtain rfl : h0 = Heap.none := hsep
  show St (cx gl) _ [(0, .pointer none), (1, .int .u64 a)] _ _
  refine R_seq ?_
  refine R_region ?_
  refine L_val rfl rfl rfl (OpP.v (P_assign rfl rfl)) ?_
  refine L_nil ?_
  refine Q_then ?_
  refine R_seq ?_
  refine R_seq ?_
  refine R_region ?_
  refine L_val rfl rfl rfl (OpP.v (P_move rfl rfl)) ?_
  refine L_op rfl (W_callV rfl rfl rfl rfl fn_ca_39 (missing_nil) (fun _ _ => trivial) ?_)
  refine E_true (t := 6) rfl (rfl) ?_
  refine L_nil ?_
  refine St.env (.cons (t := 0) rfl (.cons (t := 1) rfl (.cons (t := 4) rfl (.cons (t := 6) rfl .nil)))) ?_
  refine Q_then ?_
  refine R_condT rfl ?_
  refine R_seq ?_
  refine R_region ?_
  refine L_val rfl rfl rfl (OpP.v (P_assign rfl rfl)) ?_
  refine L_nil ?_
  refine St.env (.cons (t := 0) rfl (.cons (t := 1) rfl (.cons (t := 4) rfl .nil))) ?_
  refine Q_then ?_
  refine R_ret ?_
  refine Q_then_ret ?_
  exact R_endN (rs2 := _) rfl rfl (.tmp rfl .nil) (⟨rfl, rfl⟩) (Weak.refl _)
theorem known_raw {gl : Nat → Obj} (p : Nat) (a : Int) : SpecR (cx gl) 24 [.pointer (some ⟨p, 0, none⟩), .int .u64 a] (fun _ _ => True) [blk p [.int .i32 0, .int .u32 0, .map none, .map none, .map none] 97] (.bool false) [blk p [.int .i32 0, .int .u32 0, .map none, .map none, .map none] 97] := by
  refine Spec.enterX (C := cx gl) Tryd.func24 rfl 21 rfl rfl fun w0 h0 hsep hsub hpre => ?_
  show St (cx gl) _ [(0, .pointer (some ⟨p, 0, none⟩)), (1, .int .u64 a)] _ _
  refine R_seq ?_
  refine R_region ?_
  refine L_val rfl rfl rfl (OpP.v (P_assign rfl rfl)) ?_
  refine L_nil ?_
  refine Q_then ?_
  refine R_seq ?_
  refine R_seq ?_
  refine R_region ?_
  refine L_val rfl rfl rfl (OpP.v (P_move rfl rfl)) ?_
  refine L_op rfl (W_callR rfl rfl rfl rfl fn_ca_39 (missing_ok p (.int .i32 0) (.int .u32 0) (.map none) (.map none) none) (Split.one (p := [])) (fun _ _ _ _ _ _ _ => trivial) ?_)
  refine E_true (t := 6) rfl (rfl) ?_
  refine L_nil ?_
  refine St.env (.cons (t := 0) rfl (.cons (t := 1) rfl (.cons (t := 4) rfl (.cons (t := 6) rfl .nil)))) ?_
  refine Q_then ?_
  refine R_condT rfl ?_
  refine R_seq ?_
  refine R_region ?_
  refine L_val rfl rfl rfl (OpP.v (P_assign rfl rfl)) ?_
  refine L_nil ?_
  refine St.env (.cons (t := 0) rfl (.cons (t := 1) rfl (.cons (t := 4) rfl .nil))) ?_
  refine Q_then ?_
  refine R_ret ?_
  refine Q_then_ret ?_
  exact R_endN (rs2 := _) rfl rfl (.tmp rfl .nil) (⟨rfl, rfl⟩) (Weak.refl _)
theorem count_nil {gl : Nat → Obj} : SpecV (cx gl) 23 [.pointer none] noPre (.int .i64 0) := by
  refine Spec.enterX (C := cx gl) Tryd.func23 rfl 17 rfl rfl fun w0 h0 hsep hsub hpre => ?_
  obtain rfl : h0 = Heap.none := hsep
  show St (cx gl) _ [(0, .pointer none)] _ _
  refine R_seq ?_
  refine R_region ?_
  refine L_val rfl rfl rfl (OpP.v (P_assign rfl rfl)) ?_
  refine L_nil ?_
  refine Q_then ?_
  refine R_seq ?_
  refine R_seq ?_
  refine R_region ?_
  refine L_val rfl rfl rfl (OpP.v (P_move rfl rfl)) ?_
  refine L_op rfl (W_callV rfl rfl rfl rfl fn_ca_39 (missing_nil) (fun _ _ => trivial) ?_)
  refine E_true (t := 4) rfl (rfl) ?_
  refine L_nil ?_
  refine St.env (.cons (t := 0) rfl (.cons (t := 2) rfl (.cons (t := 4) rfl .nil))) ?_
  refine Q_then ?_
  refine R_condT rfl ?_
  refine R_seq ?_
  refine R_region ?_
  refine L_val rfl rfl rfl (OpP.v (P_assign rfl rfl)) ?_
  refine L_nil ?_
  refine St.env (.cons (t := 0) rfl (.cons (t := 2) rfl .nil)) ?_
  refine Q_then ?_
  refine R_ret ?_
  refine Q_then_ret ?_
  exact R_endN (rs2 := _) rfl rfl (.tmp rfl .nil) (⟨rfl, rfl⟩) (Weak.refl _)
theorem count_raw {gl : Nat → Obj} (p : Nat) : SpecR (cx gl) 23 [.pointer (some ⟨p, 0, none⟩)] (fun _ _ => True) [blk p [.int .i32 0, .int .u32 0, .map none, .map none, .map none] 97] (.int .i64 0) [blk p [.int .i32 0, .int .u32 0, .map none, .map none, .map none] 97] := by
  refine Spec.enterX (C := cx gl) Tryd.func23 rfl 17 rfl rfl fun w0 h0 hsep hsub hpre => ?_
  show St (cx gl) _ [(0, .pointer (some ⟨p, 0, none⟩))] _ _
  refine R_seq ?_
  refine R_region ?_
  refine L_val rfl rfl rfl (OpP.v (P_assign rfl rfl)) ?_
  refine L_nil ?_
  refine Q_then ?_
  refine R_seq ?_
  refine R_seq ?_
  refine R_region ?_
  refine L_val rfl rfl rfl (OpP.v (P_move rfl rfl)) ?_
  refine L_op rfl (W_callR rfl rfl rfl rfl fn_ca_39 (missing_ok p (.int .i32 0) (.int .u32 0) (.map none) (.map none) none) (Split.one (p := [])) (fun _ _ _ _ _ _ _ => trivial) ?_)
  refine E_true (t := 4) rfl (rfl) ?_
  refine L_nil ?_
  refine St.env (.cons (t := 0) rfl (.cons (t := 2) rfl (.cons (t := 4) rfl .nil))) ?_
  refine Q_then ?_
  refine R_condT rfl ?_
  refine R_seq ?_
  refine R_region ?_
  refine L_val rfl rfl rfl (OpP.v (P_assign rfl rfl)) ?_
  refine L_nil ?_
  refine St.env (.cons (t := 0) rfl (.cons (t := 2) rfl .nil)) ?_
  refine Q_then ?_
  refine R_ret ?_
  refine Q_then_ret ?_
  exact R_endN (rs2 := _) rfl rfl (.tmp rfl .nil) (⟨rfl, rfl⟩) (Weak.refl _)
theorem sign_any {gl : Nat → Obj} (hG : Globs gl) (p : Nat) (sg : List (Int × Nat)) (rc : List Rcd) (i : Nat) (a : Int) (s : Nat) (hi : sg[i]? = some (a, s)) (base : Option Addr) (c : Nat) (xs : List Int) (hb : IsB xs) (hmax : xs.length ≤ 1048576) (hrc : rc.length ≤ 4398046511104) : SpecR (cx gl) 18 [.pointer (some ⟨s, 0, none⟩), .slice base xs.length c] (fun w h => Seen w h base (ints .u8 xs)) [REG p sg rc] (.tuple #[.agg (ints .u8 (sealH a xs)).toArray, .int .i64 0]) [REG p sg (addR rc (a, xs))] := by
  unfold addR
  split
  · exact sign_old hG p sg rc i a s hi base c xs hb hmax ‹_›
  · exact sign_new hG p sg rc i a s hi base c xs hb hmax hrc ‹_›
end Go.Proofs.YtnaadddnbfnahaaDoor
