/- Registries that no New made; signing once more. Printed by gen.py. -/
import Derived.Test.YtnaadddnbfnahaaDoorSStr
set_option linter.unusedVariables false
set_option linter.unusedSimpArgs false
set_option maxRecDepth 100000
namespace Go.Proofs.YtnaadddnbfnahaaDoor
open Go Go.RowKit Go.Proofs
/-- One record more, if it isn't there yet. -/
def addR (rc : List Rcd) (x : Rcd) : List Rcd := if x ∈ rc then rc else rc ++ [x]
theorem addR_length (rc : List Rcd) (x : Rcd) : (addR rc x).length ≤ rc.length + 1 := by
  unfold addR; split <;> simp
def xorB (k x : Int) : Int := bitI .xor .u8 x k
/-- The first i bytes are turned. -/
def xorP (k : Int) (l : List Int) (i : Nat) : List Int := (l.take i).map (xorB k) ++ l.drop i
theorem xorP_zero (k : Int) (l : List Int) : xorP k l 0 = l := by simp [xorP]
theorem xorP_full (k : Int) (l : List Int) : xorP k l l.length = l.map (xorB k) := by simp [xorP]
theorem xorP_length (k : Int) (l : List Int) (i : Nat) : (xorP k l i).length = l.length := by simp [xorP]; omega
theorem xorP_at (k : Int) {l : List Int} {i : Nat} (h : i < l.length) : (xorP k l i)[i]? = some (l[i]) := by
  unfold xorP
  rw [List.getElem?_append_right (by simp; omega)]
  simp [List.getElem?_drop, Nat.min_eq_left (Nat.le_of_lt h), h]
theorem xorP_next (k : Int) {l : List Int} {i : Nat} (h : i < l.length) : (xorP k l i).set i (xorB k l[i]) = xorP k l (i + 1) := by
  unfold xorP
  rw [List.set_append_right _ _ (by simp; omega)]
  simp only [List.length_map, List.length_take, Nat.min_eq_left (Nat.le_of_lt h), Nat.sub_self]
  rw [List.drop_eq_getElem_cons h, List.set_cons_zero, List.take_add_one, List.getElem?_eq_getElem h, List.map_append, List.append_assoc]
  rfl
theorem sign_any {gl : Nat → Obj} (hG : Globs gl) (p : Nat) (sg : List (Int × Nat)) (rc : List Rcd) (i : Nat) (a : Int) (s : Nat) (hi : sg[i]? = some (a, s)) (base : Option Addr) (c : Nat) (xs : List Int) (hb : IsB xs) (hmax : xs.length ≤ 1048576) (hrc : rc.length ≤ 4398046511104) : SpecR (cx gl) 18 [.pointer (some ⟨s, 0, none⟩), .slice base xs.length c] (fun w h => Seen w h base (ints .u8 xs)) [REG p sg rc] (.tuple #[.agg (ints .u8 (sealH a xs)).toArray, .int .i64 0]) [REG p sg (addR rc (a, xs))] := by
  unfold addR
  split
  · exact sign_old hG p sg rc i a s hi base c xs hb hmax ‹_›
  · exact sign_new hG p sg rc i a s hi base c xs hb hmax hrc ‹_›
end Go.Proofs.YtnaadddnbfnahaaDoor
