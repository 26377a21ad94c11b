/- The twentieth part of the program logic: rows of records of whatever make. -/
import Derived.Test.YtfhjhaogmdaepaaRead
set_option linter.unusedVariables false
set_option linter.unusedSimpArgs false
set_option linter.unusedSectionVars false
namespace Go.Proofs.Ytfhjhaogmdaepaa
open Go Go.RowKit
/-- A record that lies in n cells. -/
class Rec (α : Type) where
  cells : α → List Value
  n : Nat
  len : ∀ x, (cells x).length = n
  one : ∀ x, ∀ v ∈ cells x, v.oneCell' = true
/-- The cells of a row of records. -/
def rc {α : Type} [Rec α] (l : List α) : List Value := l.flatMap Rec.cells
section
variable {α : Type} [Rec α]
theorem rc_nil : rc ([] : List α) = [] := rfl
theorem rc_len (l : List α) : ∀ x ∈ l, (Rec.cells x).length = Rec.n α := fun x _ => Rec.len x
theorem rc_length (l : List α) : (rc l).length = l.length * Rec.n α := rows_length (rc_len l)
theorem rc_append (l k : List α) : rc (l ++ k) = rc l ++ rc k := by simp [rc]
theorem rc_snoc (l : List α) (x : α) : rc l ++ Rec.cells x = rc (l ++ [x]) := rows_snoc l x
theorem rc_single (x : α) : rc [x] = Rec.cells x := by simp [rc]
theorem rc_one (l : List α) : ∀ v ∈ rc l, v.oneCell' = true := rows_one fun x _ => Rec.one x
theorem rc_at {l : List α} {i j : Nat} {x : α} {v : Value} (h : l[i]? = some x) (hv : (Rec.cells x)[j]? = some v) : (rc l)[i * Rec.n α + j]? = some v := rows_at (rc_len l) h j v hv
theorem rc_drop (l : List α) (p : Nat) : (rc l).drop (p * Rec.n α) = rc (l.drop p) := rows_drop (rc_len l) p
theorem rc_take (l : List α) (p : Nat) : (rc l).take (p * Rec.n α) = rc (l.take p) := rows_take (rc_len l) p
theorem rc_splice {l : List α} {i : Nat} (x : α) (h : i < l.length) : splice (rc l) (i * Rec.n α) (Rec.cells x) = rc (l.set i x) := rows_splice (rc_len l) h (Rec.len x)
theorem rc_set {l : List α} {i j : Nat} {x y : α} {v : Value} (h : l[i]? = some x) (hj : j < Rec.n α) (hy : Rec.cells y = (Rec.cells x).set j v) : (rc l).set (i * Rec.n α + j) v = rc (l.set i y) := rows_set (rc_len l) h hj hy
section
variable {C : Cx} {F : Fx} {rs : List HP}
/-- A record of a row that was there is read. -/
theorem rds_rc {b j i : Nat} {l : List α} {x : α} (h : Rds C F rs ⟨b, j, none⟩ (rc l)) (hx : l[i]? = some x) : Rds C F rs ⟨b, j + i * Rec.n α, none⟩ (Rec.cells x) := h.part (i * Rec.n α) fun m v hv => rc_at hx hv
theorem rd_rc {b j i k : Nat} {l : List α} {x : α} {v : Value} (h : Rds C F rs ⟨b, j, none⟩ (rc l)) (hx : l[i]? = some x) (hv : (Rec.cells x)[k]? = some v) : Rd C F rs ⟨b, j + i * Rec.n α + k, none⟩ v := by
  have := h.at_ (rc_at hx hv)
  rwa [← Nat.add_assoc] at this
theorem rds_row {b j : Nat} {l : List α} (hp : RowAt F.w ⟨b, j, none⟩ (rc l)) (hf : F.h = Heap.none) : Rds C F rs ⟨b, j, none⟩ (rc l) := Rds.row hp (by rw [hf]; rfl)
theorem rds_own {T sz n c b : Nat} {l : List α} (m : Has rs (ownS T sz (.slice (some ⟨b, 0, none⟩) n c) n (rc l)) (ownS T sz (.slice (some ⟨b, 0, none⟩) n c) n (rc l)) rs) : Rds C F rs ⟨b, 0, none⟩ (rc l) := by
  have h := Rds.sn (C := C) (F := F) (k := 0) (us := rc l) (Sn.own m rfl) fun i v hv => by rw [Nat.zero_add]; exact hv
  exact h
end
end
theorem Rec.cells_inj_of {α : Type} [Rec α] {x y : α} (inj : Rec.cells x = Rec.cells y → x = y) : Rec.cells x = Rec.cells y ↔ x = y := ⟨inj, fun h => by rw [h]⟩
end Go.Proofs.Ytfhjhaogmdaepaa
