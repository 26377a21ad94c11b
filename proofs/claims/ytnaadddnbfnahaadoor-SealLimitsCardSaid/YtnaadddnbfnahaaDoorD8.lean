/- Walks: the texts under a digest, by the reference. Printed by gen.py. -/
import Derived.Test.YtnaadddnbfnahaaDoorD7
import Derived.Test.YtnaadddnbfnahaaDoorEngH
set_option linter.unusedVariables false
set_option linter.unusedSimpArgs false
set_option maxRecDepth 100000
namespace Go.Proofs.YtnaadddnbfnahaaDoor
open Go Go.RowKit Go.Proofs
theorem app_at {us junk : List Value} (i : Nat) (v : Value) (h : us[i]? = some v) : (us ++ junk)[0 + i]? = some v := by
  rw [Nat.zero_add, List.getElem?_append_left (List.getElem?_eq_some_iff.1 h).1]; exact h
theorem ints_pre (k : IntKind) (xs ys : List Int) (junk : List Value) (i : Nat) (v : Value) (h : (ints k xs)[i]? = some v) : (ints k (xs ++ ys) ++ junk)[0 + i]? = some v := by
  rw [← ints_append, List.append_assoc]; exact app_at i v h
theorem kept_at (k : IntKind) (xs : List Int) (a b : Int) : (ints k (xs ++ [a, b]))[xs.length]? = some (.int k a) ∧ (ints k (xs ++ [a, b]))[xs.length + 1]? = some (.int k b) := by
  constructor <;> simp [ints]
end Go.Proofs.YtnaadddnbfnahaaDoor
