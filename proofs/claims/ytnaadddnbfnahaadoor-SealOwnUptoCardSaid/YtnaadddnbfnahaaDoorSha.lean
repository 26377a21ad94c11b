/- Plain: how the digest is made of all bytes, piece by piece and at once. -/
import Derived.Test.YtnaadddnbfnahaaDoorD2
set_option linter.unusedVariables false
set_option linter.unusedSimpArgs false
set_option linter.unusedSectionVars false
namespace Go.Proofs.YtnaadddnbfnahaaDoor
open Go Go.RowKit

/-- k chunks worked in. -/
def cmpN : Nat → List Int → List Int → List Int
  | 0, s, _ => s
  | k + 1, s, xs => cmpN k (mixF addsK s (xs.take 64)) (xs.drop 64)
/-- all whole chunks -/
def cmp (xs : List Int) : List Int := cmpN (xs.length / 64) beginK xs
theorem cmpN_length (k : Nat) (s xs : List Int) : (cmpN k s xs).length = s.length := by
  induction k generalizing s xs with
  | zero => rfl
  | succ k ih => rw [cmpN, ih, mixF_length]
theorem cmp_length (xs : List Int) : (cmp xs).length = 8 := by rw [cmp, cmpN_length]; rfl
theorem cmpN_add (k m : Nat) (s xs : List Int) : cmpN (k + m) s xs = cmpN m (cmpN k s xs) (xs.drop (64 * k)) := by
  induction k generalizing s xs with
  | zero => simp [cmpN]
  | succ k ih =>
    rw [show k + 1 + m = (k + m) + 1 by omega, cmpN, ih, cmpN, List.drop_drop]
    congr 2
    omega
theorem cmpN_succ (k : Nat) (s xs : List Int) : cmpN (k + 1) s xs = mixF addsK (cmpN k s xs) ((xs.drop (64 * k)).take 64) := by
  rw [cmpN_add k 1]; rfl
theorem cmpN_append (k : Nat) (s xs ys : List Int) (h : 64 * k ≤ xs.length) : cmpN k s (xs ++ ys) = cmpN k s xs := by
  induction k generalizing s xs with
  | zero => rfl
  | succ k ih =>
    rw [cmpN, cmpN, List.take_append_of_le_length (by omega), List.drop_append_of_le_length (by omega), ih _ _ (by rw [List.length_drop]; omega)]
/-- What has not been worked in yet. -/
def rem64 (xs : List Int) : List Int := xs.drop (64 * (xs.length / 64))
theorem rem64_length (xs : List Int) : (rem64 xs).length = xs.length % 64 := by rw [rem64, List.length_drop]; omega
theorem cmp_small (xs zs : List Int) (h : xs.length % 64 + zs.length < 64) : cmp (xs ++ zs) = cmp xs ∧ rem64 (xs ++ zs) = rem64 xs ++ zs ∧ (xs ++ zs).length % 64 = xs.length % 64 + zs.length := by
  have e : (xs ++ zs).length / 64 = xs.length / 64 := by rw [List.length_append]; omega
  refine ⟨?_, ?_, by rw [List.length_append]; omega⟩
  · rw [cmp, e, cmpN_append _ _ _ _ (by omega)]; rfl
  · rw [rem64, e, List.drop_append_of_le_length (by omega)]; rfl
theorem cmp_full (xs zs : List Int) (h : xs.length % 64 + zs.length = 64) : cmp (xs ++ zs) = mixF addsK (cmp xs) (rem64 xs ++ zs) ∧ rem64 (xs ++ zs) = [] ∧ (xs ++ zs).length % 64 = 0 := by
  have e : (xs ++ zs).length / 64 = xs.length / 64 + 1 := by rw [List.length_append]; omega
  refine ⟨?_, ?_, by rw [List.length_append]; omega⟩
  · rw [cmp, e, cmpN_succ, cmpN_append _ _ _ _ (by omega), List.drop_append_of_le_length (by omega), List.take_of_length_le (by rw [List.length_append, List.length_drop]; omega)]; rfl
  · rw [rem64, e]
    apply List.drop_eq_nil_of_le
    rw [List.length_append]; omega
/-- How many zero bytes. -/
def padZ (n : Nat) : Nat := (119 - n % 64) % 64
/-- The eight bytes of the length in bits. -/
def lenB (n : Nat) : List Int := (List.range 8).map fun (j : Nat) => IntKind.u8.wrap (shrI .u64 (IntKind.u64.wrap (IntKind.u64.wrap (n : Int) * 8)) (56 - 8 * (j : Int)))
def padded (xs : List Int) : List Int := xs ++ [128] ++ List.replicate (padZ xs.length) 0 ++ lenB xs.length
theorem lenB_length (n : Nat) : (lenB n).length = 8 := by simp [lenB]
/-- The words as bytes. -/
def outB (ws : List Int) : List Int := (List.range 32).map fun (i : Nat) => IntKind.u8.wrap (shrI .u32 (ws.getD (i / 4) 0) (24 - 8 * ((i % 4 : Nat) : Int)))
theorem outB_length (ws : List Int) : (outB ws).length = 32 := by simp [outB]
/-- The digest of bytes. -/
def sha (xs : List Int) : List Int := outB (cmp (padded xs))
theorem sha_length (xs : List Int) : (sha xs).length = 32 := outB_length _
theorem wrap64_add (a b : Int) : IntKind.u64.wrap (IntKind.u64.wrap a + IntKind.u64.wrap b) = IntKind.u64.wrap (a + b) := by
  simp [IntKind.wrap, IntKind.signed, IntKind.bits]

/-- A Hasher's cells. -/
def hcells (made : Bool) (ws part : List Int) (held taken : Int) : List Value := [.bool made] ++ ints .u32 ws ++ ints .u8 part ++ [.int .i64 held, .int .u64 taken]
section
variable {made : Bool} {ws part : List Int} {held taken : Int} (hw : ws.length = 8) (hp : part.length = 64)
include hw hp
theorem hcells_length : (hcells made ws part held taken).length = 75 := by simp [hcells, ints, hw, hp]
theorem hcells_73 : (hcells made ws part held taken)[73]? = some (.int .i64 held) := by
  simp only [hcells]
  rw [List.getElem?_append_right (by simp [ints, hw, hp])]
  simp [ints, hw, hp]
theorem hcells_74 : (hcells made ws part held taken)[74]? = some (.int .u64 taken) := by
  simp only [hcells]
  rw [List.getElem?_append_right (by simp [ints, hw, hp])]
  simp [ints, hw, hp]
theorem hcells_set73 (n : Int) : (hcells made ws part held taken).set 73 (.int .i64 n) = hcells made ws part n taken := by
  simp only [hcells]
  rw [List.set_append_right _ _ (by simp [ints, hw, hp])]
  simp [ints, hw, hp]
theorem hcells_set74 (n : Int) : (hcells made ws part held taken).set 74 (.int .u64 n) = hcells made ws part held n := by
  simp only [hcells]
  rw [List.set_append_right _ _ (by simp [ints, hw, hp])]
  simp [ints, hw, hp]
theorem hcells_words (i : Nat) (v : Value) (h : (ints .u32 ws)[i]? = some v) : (hcells made ws part held taken)[1 + i]? = some v := by
  have hi : i < 8 := by have := (List.getElem?_eq_some_iff.1 h).1; rwa [ints_length, hw] at this
  simp only [hcells]
  rw [List.append_assoc, List.append_assoc, List.getElem?_append_right (by simp), List.getElem?_append_left (by simp [ints, hw]; omega)]
  simpa using h
theorem hcells_part (i : Nat) (v : Value) (h : (ints .u8 part)[i]? = some v) : (hcells made ws part held taken)[9 + i]? = some v := by
  have hi : i < 64 := by have := (List.getElem?_eq_some_iff.1 h).1; rwa [ints_length, hp] at this
  simp only [hcells]
  rw [List.append_assoc, List.getElem?_append_right (by simp [ints, hw]), List.getElem?_append_left (by simp [ints, hw, hp]; omega)]
  simp [ints, hw] at h ⊢
  exact h
theorem hcells_setWords (us : List Int) (hu : us.length = 8) : splice (hcells made ws part held taken) 1 (ints .u32 us) = hcells made us part held taken := by
  simp [splice, hcells, ints, hw, hu, List.drop_append]
theorem hcells_setPart (o : Nat) (us : List Int) (hu : o + us.length ≤ 64) : splice (hcells made ws part held taken) (9 + o) (ints .u8 us) = hcells made ws (part.take o ++ us ++ part.drop (o + us.length)) held taken := by
  have e : hcells made ws part held taken = ([.bool made] ++ ints .u32 ws) ++ (ints .u8 part ++ [.int .i64 held, .int .u64 taken]) := by simp [hcells]
  have l1 : ([Value.bool made] ++ ints .u32 ws).length = 9 := by simp [ints, hw]
  rw [e, splice, List.take_append, List.drop_append, l1]
  simp only [ints_length, Nat.add_sub_cancel_left, show 9 + o + us.length - 9 = o + us.length by omega]
  rw [List.take_of_length_le (by rw [l1]; omega), List.drop_eq_nil_of_le (by rw [l1]; omega), List.take_append_of_le_length (by rw [ints_length, hp]; omega), List.drop_append_of_le_length (by rw [ints_length, hp]; omega), ints_take, ints_drop]
  simp [hcells, ints]
end
end Go.Proofs.YtnaadddnbfnahaaDoor
