/- Plain: dividing two words by a small number; rules for functions that the model stands in for. -/
import Derived.Test.YtfhjhaogmdaepaaRenew
import Derived.Test.YtfhjhaogmdaepaaEngR
import Derived.Laws.Externs
set_option linter.unusedVariables false
set_option linter.unusedSimpArgs false
namespace Go.Proofs.Ytfhjhaogmdaepaa
open Go Go.RowKit
section
variable {C : Cx} {F : Fx} {l : Env} {o : Oper}
/-- A call that runs here and now. -/
theorem P_indexStr {t : Nat} {x ix : Operand} {k : IntKind} {m : Int} {s : ByteArray} {b : UInt8} (ho : o.op = .index t x ix) (ht : C.P.underlying t = some .string) (hx : ev l x = some (.string s)) (hi : ev l ix = some (.int k m)) (h0 : 0 ≤ m) (hv : s[m.toNat]? = some b) : OpP C F l o (.int .u8 (b.toNat : Int)) := fun a w r => by
  simp [execOp, ho, r.ev hx, r.ev hi, Instr.index, asIntOf, run_underlying ht, h0, hv]
end
def sub64E : Array Value → Sem Value := fun args => do
  let (x, y, b) ← Extern.MathBitsCarry.three "Sub64" args
  pure (Extern.MathBitsCarry.pair ((x + Extern.MathBitsCarry.m64 - y - b) % Extern.MathBitsCarry.m64) (if x < y + b then 1 else 0))
theorem run_sub64E {P : Program} (x y b : Nat) (hb : b ≤ 1) (w : World) :
    (sub64E #[.int .u64 x, .int .u64 y, .int .u64 b]).run P w = .ok (.tuple #[.int .u64 (((x + 18446744073709551616 - y - b) % 18446744073709551616 : Nat) : Int), .int .u64 ((if x < y + b then 1 else 0 : Nat) : Int)]) w := by
  have : b = 0 ∨ b = 1 := by omega
  rcases this with rfl | rfl <;> rfl
/-! ### Lengths -/
def lenI (n : Nat) : Nat := if n < 1 then 0 else if n < 2 then 1 else if n < 4 then 2 else if n < 8 then 3 else if n < 16 then 4 else if n < 32 then 5 else if n < 64 then 6 else 7
def tabB (s : ByteArray) : Bool := (List.range 65).all fun i => s[i]? == some (UInt8.ofNat (lenI i))
theorem tab_at {s : ByteArray} (h : tabB s = true) {m : Int} (h0 : 0 ≤ m) (h1 : m ≤ 64) : s[m.toNat]? = some (UInt8.ofNat (lenI m.toNat)) := by
  have := List.all_eq_true.1 h m.toNat (by simp; omega)
  simpa using this
theorem lenI_le (n : Nat) : lenI n ≤ 7 := by unfold lenI; repeat' split
                                             all_goals omega
theorem len_u8 (n : Nat) : ((UInt8.ofNat (lenI n)).toNat : Int) = lenI n := by
  have := lenI_le n
  rw [UInt8.toNat_ofNat']; omega
/-! ### Dividing -/
structure DivS (hi lo n : Int) (s : Nat) (p q v U u : Int) : Prop where
  s0 : 57 ≤ s
  s1 : s ≤ 63
  len : (lenI n.toNat : Int) = 64 - s
  pw : (2 : Int) ^ s = p * 4294967296
  qw : (2 : Int) ^ (64 - s) = q
  p0 : 0 < p
  q0 : 0 < q
  pq : p * q = 4294967296
  hv : v = n * p
  v0 : 2147483648 ≤ v
  v1 : v < 4294967296
  hU : U = hi * (p * 4294967296) + lo / q
  A0 : 0 ≤ hi * (p * 4294967296)
  A1 : hi * (p * 4294967296) < 18446744073709551616
  L0 : 0 ≤ lo / q
  L1 : lo / q < p * 4294967296
  hu : u = lo % q * p
  U0 : 0 ≤ U
  U1 : U < v * 4294967296
  u0 : 0 ≤ u
  u1 : u < 4294967296
  tot : U * 4294967296 + u = (hi * 18446744073709551616 + lo) * p
theorem div_len {n : Int} (h1 : 1 ≤ n) (h2 : n ≤ 64) : ∃ (s : Nat) (p q : Int), 57 ≤ s ∧ s ≤ 63 ∧ (lenI n.toNat : Int) = 64 - s ∧ (2 : Int) ^ s = p * 4294967296 ∧ (2 : Int) ^ (64 - s) = q ∧ 0 < p ∧ 0 < q ∧ p * q = 4294967296 ∧ 2147483648 ≤ n * p ∧ n * p < 4294967296 := by
  obtain ⟨k, rfl⟩ : ∃ k : Nat, n = k := ⟨n.toNat, by omega⟩
  rw [Int.toNat_natCast]
  unfold lenI
  rw [if_neg (by omega)]
  by_cases a1 : k < 2
  · exact ⟨63, 2147483648, 2, by omega, by omega, by rw [if_pos a1]; rfl, by decide, by decide, by decide, by decide, by decide, by omega, by omega⟩
  rw [if_neg a1]
  by_cases a2 : k < 4
  · exact ⟨62, 1073741824, 4, by omega, by omega, by rw [if_pos a2]; rfl, by decide, by decide, by decide, by decide, by decide, by omega, by omega⟩
  rw [if_neg a2]
  by_cases a3 : k < 8
  · exact ⟨61, 536870912, 8, by omega, by omega, by rw [if_pos a3]; rfl, by decide, by decide, by decide, by decide, by decide, by omega, by omega⟩
  rw [if_neg a3]
  by_cases a4 : k < 16
  · exact ⟨60, 268435456, 16, by omega, by omega, by rw [if_pos a4]; rfl, by decide, by decide, by decide, by decide, by decide, by omega, by omega⟩
  rw [if_neg a4]
  by_cases a5 : k < 32
  · exact ⟨59, 134217728, 32, by omega, by omega, by rw [if_pos a5]; rfl, by decide, by decide, by decide, by decide, by decide, by omega, by omega⟩
  rw [if_neg a5]
  by_cases a6 : k < 64
  · exact ⟨58, 67108864, 64, by omega, by omega, by rw [if_pos a6]; rfl, by decide, by decide, by decide, by decide, by decide, by omega, by omega⟩
  rw [if_neg a6]
  exact ⟨57, 33554432, 128, by omega, by omega, by rfl, by decide, by decide, by decide, by decide, by decide, by omega, by omega⟩
theorem div_ex {hi lo n : Int} (h1 : 1 ≤ n) (h2 : n ≤ 64) (h3 : 0 ≤ hi) (h4 : hi < n) (h5 : 0 ≤ lo) (h6 : lo < 18446744073709551616) : ∃ s p q v U u, DivS hi lo n s p q v U u := by
  obtain ⟨s, p, q, s0, s1, hl, pw, qw, p0, q0, pq, v0, v1⟩ := div_len h1 h2
  have l0 : 0 ≤ lo / q := Int.ediv_nonneg h5 (by omega)
  have m0 := Int.emod_nonneg lo (show q ≠ 0 by omega)
  have m1 := Int.emod_lt_of_pos lo q0
  have e1 := Int.mul_ediv_add_emod lo q
  have l1 : lo / q < p * 4294967296 := by
    rw [Int.ediv_lt_iff_lt_mul q0, Int.mul_assoc, Int.mul_comm 4294967296 q, ← Int.mul_assoc, pq]; omega
  have a0 : 0 ≤ hi * (p * 4294967296) := Int.mul_nonneg h3 (by omega)
  have a1 : hi * (p * 4294967296) ≤ (n - 1) * (p * 4294967296) := Int.mul_le_mul_of_nonneg_right (by omega) (by omega)
  have a2 : (n - 1) * (p * 4294967296) = n * p * 4294967296 - p * 4294967296 := by rw [Int.sub_mul, ← Int.mul_assoc]; omega
  have b0 : 0 ≤ lo % q * p := Int.mul_nonneg m0 (by omega)
  have b1 : lo % q * p ≤ (q - 1) * p := Int.mul_le_mul_of_nonneg_right (by omega) (by omega)
  have b2 : (q - 1) * p = p * q - p := by rw [Int.sub_mul, Int.mul_comm q]; omega
  refine ⟨s, p, q, n * p, _, _, s0, s1, hl, pw, qw, p0, q0, pq, rfl, v0, v1, rfl, a0, by omega, l0, l1, rfl, by omega, by omega, b0, by omega, ?_⟩
  have c1 : lo * p = q * (lo / q) * p + lo % q * p := by rw [← Int.add_mul, e1]
  have c2 : q * (lo / q) * p = lo / q * 4294967296 := by rw [← pq, Int.mul_comm q, Int.mul_assoc, Int.mul_comm q p]
  have c3 : hi * (p * 4294967296) * 4294967296 = hi * 18446744073709551616 * p := by
    rw [Int.mul_assoc hi (p * 4294967296), Int.mul_assoc hi]; congr 1; omega
  rw [Int.add_mul (hi * 18446744073709551616), c1, c2, Int.add_mul, c3]; omega
theorem wrap_e (x : Int) : IntKind.u64.wrap x = x % 18446744073709551616 := by unfold IntKind.wrap; simp [IntKind.signed, IntKind.bits]
theorem u64_fit {x : Int} (h0 : 0 ≤ x) (h1 : x < 18446744073709551616) : IntKind.u64.wrap x = x := by rw [wrap_e]; omega
theorem shl_s {s : Nat} {p x : Int} (hs : s ≤ 63) (pw : (2 : Int) ^ s = p * 4294967296) : shlI .u64 x (s : Int) = IntKind.u64.wrap (x * (p * 4294967296)) := by
  unfold shlI
  rw [Int.toNat_natCast, Nat.min_eq_left (by show s ≤ 64; omega), pw]
theorem shr_s {s : Nat} {p x : Int} (hs : s ≤ 63) (pw : (2 : Int) ^ s = p * 4294967296) (hx : 0 ≤ x) : shrI .u64 x (s : Int) = x / (p * 4294967296) := by
  unfold shrI
  rw [Int.toNat_natCast, Nat.min_eq_left (by show s ≤ 64; omega), pw, Int.fdiv_eq_ediv_of_nonneg _ (by rw [← pw]; exact Int.pow_nonneg (by decide))]
theorem shr_q {s : Nat} {q x : Int} (h0 : 57 ≤ s) (hs : s ≤ 63) (qw : (2 : Int) ^ (64 - s) = q) (hq : 0 < q) : shrI .u64 x (64 - (s : Int)) = x / q := by
  unfold shrI
  have e : (64 - (s : Int)).toNat = 64 - s := by omega
  rw [e, Nat.min_eq_left (by show 64 - s ≤ 64; omega), qw, Int.fdiv_eq_ediv_of_nonneg _ (by omega)]
theorem shr_32 (x : Int) : shrI .u64 x 32 = x / 4294967296 := by
  unfold shrI
  show x.fdiv (2 ^ 32) = _
  rw [Int.fdiv_eq_ediv_of_nonneg _ (by decide)]; rfl
theorem and_mask {x : Int} (h0 : 0 ≤ x) (h1 : x < 18446744073709551616) : bitI .and .u64 x 4294967295 = x % 4294967296 := by
  obtain ⟨k, rfl⟩ : ∃ k : Nat, x = k := ⟨x.toNat, by omega⟩
  show IntKind.u64.wrap (BitVec.ofInt 64 _ &&& BitVec.ofInt 64 _).toNat = _
  rw [BitVec.ofInt_natCast]
  have e : BitVec.ofInt 64 (4294967295 : Int) = BitVec.ofNat 64 4294967295 := by decide
  rw [e, BitVec.toNat_and, BitVec.toNat_ofNat, BitVec.toNat_ofNat, Nat.mod_eq_of_lt (show k < 2 ^ 64 by omega), Nat.mod_eq_of_lt (show 4294967295 < 2 ^ 64 by decide)]
  have e2 : k &&& 4294967295 = k % 4294967296 := Nat.and_two_pow_sub_one_eq_mod k 32
  rw [e2, u64_fit (by omega) (by omega)]; omega
theorem or_sum {s : Nat} {p hi y : Int} (hs : s ≤ 63) (pw : (2 : Int) ^ s = p * 4294967296) (h0 : 0 ≤ hi) (a1 : hi * (p * 4294967296) < 18446744073709551616) (y0 : 0 ≤ y) (y1 : y < p * 4294967296) (hs2 : hi * (p * 4294967296) + y < 18446744073709551616) : bitI .or .u64 (hi * (p * 4294967296)) y = hi * (p * 4294967296) + y := by
  obtain ⟨a, rfl⟩ : ∃ k : Nat, hi = k := ⟨hi.toNat, by omega⟩
  obtain ⟨b, rfl⟩ : ∃ k : Nat, y = k := ⟨y.toNat, by omega⟩
  rw [← pw] at *
  have e1 : (a : Int) * 2 ^ s = ((2 ^ s * a : Nat) : Int) := by push_cast; rw [Int.mul_comm]
  rw [e1] at a1 hs2 ⊢
  have hb : b < 2 ^ s := by exact_mod_cast y1
  have hor : 2 ^ s * a ||| b = 2 ^ s * a + b := (Nat.two_pow_add_eq_or_of_lt hb a).symm
  clear e1 y1
  generalize 2 ^ s * a = X at *
  show IntKind.u64.wrap (BitVec.ofInt 64 _ ||| BitVec.ofInt 64 _).toNat = _
  rw [BitVec.ofInt_natCast, BitVec.ofInt_natCast, BitVec.toNat_or, BitVec.toNat_ofNat, BitVec.toNat_ofNat, Nat.mod_eq_of_lt (show X < 2 ^ 64 by omega), Nat.mod_eq_of_lt (show b < 2 ^ 64 by omega), hor]
  rw [u64_fit (by omega) (by omega)]; omega
theorem shl_lo {s : Nat} {p q lo : Int} (hs : s ≤ 63) (pw : (2 : Int) ^ s = p * 4294967296) (p0 : 0 < p) (q0 : 0 < q) (pq : p * q = 4294967296) : shlI .u64 lo (s : Int) = lo % q * p * 4294967296 := by
  rw [shl_s hs pw, wrap_e]
  have e1 := Int.mul_ediv_add_emod lo q
  have m0 := Int.emod_nonneg lo (show q ≠ 0 by omega)
  have m1 := Int.emod_lt_of_pos lo q0
  have b0 : 0 ≤ lo % q * p := Int.mul_nonneg m0 (by omega)
  have b1 : lo % q * p ≤ (q - 1) * p := Int.mul_le_mul_of_nonneg_right (by omega) (by omega)
  have b2 : (q - 1) * p = p * q - p := by rw [Int.sub_mul, Int.mul_comm q]; omega
  have e2 : lo * (p * 4294967296) = lo / q * 18446744073709551616 + lo % q * p * 4294967296 := by
    have c1 : lo * p = q * (lo / q) * p + lo % q * p := by rw [← Int.add_mul, e1]
    have c2 : q * (lo / q) * p = lo / q * 4294967296 := by rw [← pq, Int.mul_comm q, Int.mul_assoc, Int.mul_comm q p]
    rw [← Int.mul_assoc, c1, c2]; omega
  rw [e2]; omega
theorem sub_w {a b c x : Int} (h : a + b - c = x) (h0 : 0 ≤ x) (h1 : x < 18446744073709551616) : IntKind.u64.wrap (IntKind.u64.wrap (IntKind.u64.wrap a + b) - IntKind.u64.wrap c) = x := by
  rw [wrap_e, wrap_e, wrap_e, wrap_e]; omega
/-- What comes out. -/
theorem div_end {hi lo n : Int} {s : Nat} {p q v U u : Int} (d : DivS hi lo n s p q v U u) (h1 : 1 ≤ n) :
    U / v * 4294967296 + (U % v * 4294967296 + u) / v = (hi * 18446744073709551616 + lo) / n ∧ (U % v * 4294967296 + u) % v / p = (hi * 18446744073709551616 + lo) % n := by
  have e1 := Int.mul_ediv_add_emod U v
  have hv0 : 0 < v := by have := d.v0; omega
  have e2 := Int.mul_ediv_add_emod (U % v * 4294967296 + u) v
  have r0 := Int.emod_nonneg (U % v * 4294967296 + u) (show v ≠ 0 by omega)
  have r1 := Int.emod_lt_of_pos (U % v * 4294967296 + u) hv0
  have ht := d.tot
  generalize (U % v * 4294967296 + u) / v = b at *
  generalize (U % v * 4294967296 + u) % v = r at *
  generalize U / v = a at *
  generalize hi * 18446744073709551616 + lo = N at *
  have h3 : N * p = v * (a * 4294967296 + b) + r := by rw [Int.mul_add, ← Int.mul_assoc]; omega
  have h4 : r = (N - n * (a * 4294967296 + b)) * p := by
    rw [Int.sub_mul, h3, d.hv, Int.mul_right_comm]; omega
  have p0 := d.p0
  generalize a * 4294967296 + b = Q at *
  have hpos : 0 ≤ N - n * Q := by
    rcases Int.lt_or_le (N - n * Q) 0 with h | h
    · have : (N - n * Q) * p < 0 := Int.mul_neg_of_neg_of_pos h p0
      omega
    · exact h
  have hlt : N - n * Q < n := by
    have : (N - n * Q) * p < n * p := by rw [← h4, ← d.hv]; exact r1
    exact Int.lt_of_mul_lt_mul_right this (by omega)
  have := (Int.ediv_emod_unique (show 0 < n by omega)).2 ⟨show N - n * Q + n * Q = N by omega, hpos, hlt⟩
  refine ⟨this.1.symm, ?_⟩
  rw [h4, Int.mul_ediv_cancel _ (by omega), this.2]
/-! ### A sum in two words -/
def loW (S : Int) : Int := S % 18446744073709551616
def hiW (S : Int) : Int := S / 18446744073709551616 % 18446744073709551616
theorem loW_bd (S : Int) : 0 ≤ loW S ∧ loW S < 18446744073709551616 := by unfold loW; omega
theorem hiW_bd (S : Int) : 0 ≤ hiW S ∧ hiW S < 18446744073709551616 := by unfold hiW; omega
theorem lo_step (S q : Int) : (loW S + IntKind.u64.wrap q + 0) % 18446744073709551616 = loW (S + q) := by rw [wrap_e]; unfold loW; omega
theorem shr_sign {q : Int} (h0 : -9223372036854775808 ≤ q) (h1 : q ≤ 9223372036854775807) : shrI .i64 q 63 = if q < 0 then -1 else 0 := by
  unfold shrI
  show q.fdiv (2 ^ 63) = _
  rw [Int.fdiv_eq_ediv_of_nonneg _ (by decide)]
  split <;> omega
theorem hi_step {S q : Int} (h0 : -9223372036854775808 ≤ q) (h1 : q ≤ 9223372036854775807) : (hiW S + IntKind.u64.wrap (shrI .i64 q 63) + (loW S + IntKind.u64.wrap q + 0) / 18446744073709551616) % 18446744073709551616 = hiW (S + q) := by
  rw [wrap_e, wrap_e, shr_sign h0 h1]
  unfold hiW loW
  split <;> omega
theorem carry_bd (S q : Int) : 0 ≤ (loW S + IntKind.u64.wrap q + 0) / 18446744073709551616 ∧ (loW S + IntKind.u64.wrap q + 0) / 18446744073709551616 ≤ 1 := by
  rw [wrap_e]; unfold loW; omega
theorem below_eq {S : Int} (h0 : -516508834063867444800 ≤ S) (h1 : S ≤ 516508834063867444800) : decide (IntKind.i64.wrap (hiW S) < 0) = decide (S < 0) := by
  have e : IntKind.i64.wrap (hiW S) = if hiW S % 18446744073709551616 ≥ 9223372036854775808 then hiW S % 18446744073709551616 - 18446744073709551616 else hiW S % 18446744073709551616 := by
    unfold IntKind.wrap; simp [IntKind.signed, IntKind.bits]
  rw [e, decide_eq_decide]
  unfold hiW
  split <;> omega
theorem lo_neg (S : Int) : (18446744073709551616 - loW S - 0) % 18446744073709551616 = loW (-S) := by unfold loW; omega
theorem hi_neg (S : Int) : (18446744073709551616 - hiW S - (if 0 < loW S + 0 then 1 else 0)) % 18446744073709551616 = hiW (-S) := by
  unfold hiW loW
  split <;> omega
theorem words {b : Int} (h0 : 0 ≤ b) (h1 : b ≤ 516508834063867444800) : hiW b * 18446744073709551616 + loW b = b := by unfold hiW loW; omega
theorem hi_small {b n : Int} (h0 : 0 ≤ b) (h2 : b ≤ n * 8070450532247928825) (hn : 0 < n) (h3 : n ≤ 64) : hiW b < n := by unfold hiW; omega
/-- The floored mean, out of the amount. -/
theorem mean_pos {l : List Mem} {b : Int} (hb : b = sumQ l) : b / (l.length : Int) = meanQ l := by rw [hb]; rfl
theorem mean_neg {l : List Mem} {b : Int} (hl : 0 < l.length) (hb : b = -sumQ l) : meanQ l = if 0 < b % (l.length : Int) then -(b / (l.length : Int)) - 1 else -(b / (l.length : Int)) := by
  unfold meanQ
  have hn : (0 : Int) < l.length := by omega
  generalize (l.length : Int) = n at *
  have e := Int.mul_ediv_add_emod b n
  have r0 := Int.emod_nonneg b (show n ≠ 0 by omega)
  have r1 := Int.emod_lt_of_pos b hn
  have es : sumQ l = -b := by omega
  rw [es]
  split
  · refine ((Int.ediv_emod_unique hn).2 ⟨show n - b % n + n * (-(b / n) - 1) = -b by rw [Int.mul_sub, Int.mul_neg]; omega, by omega, by omega⟩).1
  · refine ((Int.ediv_emod_unique hn).2 ⟨show 0 + n * (-(b / n)) = -b by rw [Int.mul_neg]; omega, by omega, by omega⟩).1
theorem sumQ_abs {l : List Mem} (h : ∀ m ∈ l, -(7 * msK) ≤ m.q ∧ m.q ≤ 7 * msK) : -(l.length * 8070450532247928825) ≤ sumQ l ∧ sumQ l ≤ l.length * 8070450532247928825 := by
  have hms : msK = 1152921504606846975 := rfl
  have h3 := sumQ_le (A := 8070450532247928825) fun m hm => by have := h m hm; omega
  have h4 := sumQ_ge (A := -8070450532247928825) fun m hm => by have := h m hm; omega
  rw [Int.mul_neg] at h4
  exact ⟨h4, h3⟩
theorem ratQ_half {T : Int} {l : List Mem} (hT : 0 < T) (hs : 2 * T < spanQ l) : 2 * ratQ T l ≤ spanQ l + 2 := by
  have h1 := Int.mul_ediv_add_emod (spanQ l) (2 * T)
  have h2 := Int.emod_nonneg (spanQ l) (show 2 * T ≠ 0 by omega)
  have h4 : 0 ≤ spanQ l / (2 * T) := Int.ediv_nonneg (by omega) (by omega)
  have h5 : 2 * (spanQ l / (2 * T)) ≤ 2 * T * (spanQ l / (2 * T)) := Int.mul_le_mul_of_nonneg_right (by omega) (by omega)
  unfold ratQ
  split <;> omega
end Go.Proofs.Ytfhjhaogmdaepaa
