/- Plain: sets of places, and the power in them. -/
import Derived.Test.YtjhhpagcejgclaaMade
set_option linter.unusedVariables false
set_option linter.unusedSimpArgs false
namespace Go.Proofs.Ytjhhpagcejgclaa
open Go Go.RowKit
def mskV (s : BitVec 64) : Value := .int .u64 (s.toNat : Int)
theorem ofInt_toNat (x : BitVec 64) : BitVec.ofInt 64 (x.toNat : Int) = x := by
  rw [BitVec.ofInt_natCast, BitVec.ofNat_toNat, BitVec.setWidth_eq]
theorem wrap_bv (x : BitVec 64) : IntKind.u64.wrap (x.toNat : Int) = x.toNat := wrap_fits (by simp only [fits]; have := x.isLt; omega)
theorem and_bv (x y : BitVec 64) : bitI .and .u64 (x.toNat : Int) (y.toNat : Int) = ((x &&& y).toNat : Int) := by
  show IntKind.u64.wrap (BitVec.ofInt 64 _ &&& BitVec.ofInt 64 _).toNat = _
  rw [ofInt_toNat, ofInt_toNat, wrap_bv]
theorem compl_bv (x : BitVec 64) : bitI .xor .u64 (if IntKind.u64.signed then -1 else IntKind.u64.max) (x.toNat : Int) = ((~~~x).toNat : Int) := by
  show IntKind.u64.wrap (BitVec.ofInt 64 IntKind.u64.max ^^^ BitVec.ofInt 64 _).toNat = _
  rw [ofInt_toNat, wrap_bv]
  have : BitVec.ofInt 64 IntKind.u64.max = BitVec.allOnes 64 := by decide
  rw [this, BitVec.allOnes_xor]
def inB (s : BitVec 64) (i : Nat) : Bool := s.getLsbD i
theorem inB_high {s : BitVec 64} {i : Nat} (h : ¬ i < 64) : inB s i = false := BitVec.getLsbD_of_ge s i (by omega)
theorem shr_bit (s : BitVec 64) (i : Nat) (h : i < 64) : decide (bitI .and .u64 (shrI .u64 (s.toNat : Int) (i : Int)) 1 = 1) = inB s i := by
  have h1 : shrI .u64 (s.toNat : Int) (i : Int) = ((s >>> i).toNat : Int) := by
    show (s.toNat : Int).fdiv (2 ^ min (i : Int).toNat 64) = _
    rw [Int.toNat_natCast, Nat.min_eq_left (by omega), BitVec.toNat_ushiftRight, Nat.shiftRight_eq_div_pow]
    rw [Int.fdiv_eq_ediv_of_nonneg _ (by exact_mod_cast Nat.zero_le (2 ^ i))]
    push_cast; rfl
  have h2 : (1 : Int) = ((1#64).toNat : Int) := by decide
  rw [h1, h2, and_bv]
  unfold inB
  rw [Bool.eq_iff_iff, decide_eq_true_eq]
  constructor
  · intro e
    have e : (s >>> i &&& 1#64) = 1#64 := BitVec.eq_of_toNat_eq (by exact_mod_cast e)
    have := congrArg (fun b : BitVec 64 => b.getLsbD 0) e
    simpa using this
  · intro e
    have : (s >>> i &&& 1#64) = 1#64 := by
      apply BitVec.eq_of_getLsbD_eq
      intro j hj
      by_cases h0 : j = 0
      · subst h0; simpa using e
      · simp [BitVec.getLsbD_one, h0]
    rw [this]
def powG (s : BitVec 64) : Nat → List Mem → Int
  | _, [] => 0
  | i, m :: l => (if inB s i then m.p else 0) + powG s (i + 1) l
def powV (s : BitVec 64) (l : List Mem) : Int := powG s 0 l
theorem powG_bd {s : BitVec 64} : ∀ {l : List Mem} (i : Nat), (∀ m ∈ l, 0 ≤ m.p) → 0 ≤ powG s i l ∧ powG s i l ≤ sumP l
  | [], _, _ => ⟨Int.le_refl _, Int.le_refl _⟩
  | m :: l, i, h => by
    have h0 := h m (by simp)
    have := powG_bd (s := s) (l := l) (i + 1) fun x hx => h x (by simp [hx])
    rw [sumP_cons]; unfold powG
    split <;> omega
theorem powG_share {x y : BitVec 64} : ∀ {l : List Mem} (i : Nat), (∀ m ∈ l, 0 ≤ m.p) → powG x i l + powG y i l ≤ sumP l + powG (x &&& y) i l
  | [], _, _ => by simp [powG, sumP]
  | m :: l, i, h => by
    have h0 := h m (by simp)
    have := powG_share (x := x) (y := y) (l := l) (i + 1) fun z hz => h z (by simp [hz])
    rw [sumP_cons]; unfold powG
    have e : inB (x &&& y) i = (inB x i && inB y i) := BitVec.getLsbD_and ..
    rw [e]
    cases inB x i <;> cases inB y i <;> simp <;> omega
theorem powG_compl {x : BitVec 64} : ∀ {l : List Mem} (i : Nat), i + l.length ≤ 64 → powG x i l + powG (~~~x) i l = sumP l
  | [], _, _ => by simp [powG, sumP]
  | m :: l, i, h => by
    have h' : i + (l.length + 1) ≤ 64 := h
    have := powG_compl (x := x) (l := l) (i + 1) (by omega)
    rw [sumP_cons]; unfold powG
    have e : inB (~~~x) i = !inB x i := by unfold inB; rw [BitVec.getLsbD_not, decide_eq_true (by omega)]; rfl
    rw [e]
    cases inB x i <;> simp <;> omega
theorem powG_drop {s : BitVec 64} {l : List Mem} {i : Nat} {m : Mem} (h : l[i]? = some m) : powG s i (l.drop i) = (if inB s i then m.p else 0) + powG s (i + 1) (l.drop (i + 1)) := by
  rw [drop_at h]; rfl
end Go.Proofs.Ytjhhpagcejgclaa
