/- Walks: Len64, LeadingZeros64, Div64, Add64, Sub64. Printed by gen.py. -/
import Derived.Test.YtjhhpagcejgclaaCPw
import Derived.Test.YtjhhpagcejgclaaDiv
set_option linter.unusedVariables false
set_option linter.unusedSimpArgs false
set_option maxRecDepth 100000
namespace Go.Proofs.Ytjhhpagcejgclaa
open Go Go.RowKit Go.Proofs
theorem add64_run (x y c : Int) (hx : 0 ≤ x) (hy : 0 ≤ y) (hc0 : 0 ≤ c) (hc : c ≤ 1) (w : World) : (callFunc 66 #[.int .u64 x, .int .u64 y, .int .u64 c]).run Try.prog w = .ok (.value (.tuple #[.int .u64 ((x + y + c) % 18446744073709551616), .int .u64 ((x + y + c) / 18446744073709551616)])) w := by
  rw [run_callFunc_extern (fn := Try.f66) Try.func66 (by kernel_rfl) (by kernel_rfl) (by kernel_rfl) (e := add64Entry) (by kernel_rfl), run_add64 x y c hx hy hc0 hc]; rfl
theorem sub64_run (y b : Int) (hy : 0 ≤ y) (hy1 : y < 18446744073709551616) (hb0 : 0 ≤ b) (hb : b ≤ 1) (w : World) : (callFunc 67 #[.int .u64 0, .int .u64 y, .int .u64 b]).run Try.prog w = .ok (.value (.tuple #[.int .u64 ((18446744073709551616 - y - b) % 18446744073709551616), .int .u64 (if 0 < y + b then 1 else 0)])) w := by
  obtain ⟨k, rfl⟩ : ∃ k : Nat, y = k := ⟨y.toNat, by omega⟩
  obtain ⟨c, rfl⟩ : ∃ k : Nat, b = k := ⟨b.toNat, by omega⟩
  have h := run_sub64E (P := Try.prog) 0 k c (by omega) w
  rw [run_callFunc_extern (fn := Try.f67) Try.func67 (by kernel_rfl) (by kernel_rfl) (by kernel_rfl) (e := sub64E) (by kernel_rfl)]
  have h' : (sub64E #[.int .u64 0, .int .u64 (k : Int), .int .u64 (c : Int)]).run Try.prog w = _ := h
  rw [h']
  simp only [Result.andThen]
  have e1 : ((((0 + 18446744073709551616 - k - c) % 18446744073709551616 : Nat)) : Int) = (18446744073709551616 - (k : Int) - c) % 18446744073709551616 := by omega
  have e2 : ((if 0 < k + c then 1 else 0 : Nat) : Int) = if 0 < (k : Int) + c then 1 else 0 := by split <;> split <;> omega
  rw [e1, e2]
theorem len64_ok {gl : Nat → Obj} (n : Int) (h0 : 0 ≤ n) (h1 : n ≤ 64) : SpecV (cx gl) 73 [.int .u64 n] noPre (.int .i64 (lenI n.toNat : Int)) := by
  refine Spec.enter (C := cx gl) Try.func73 rfl 25 rfl rfl fun w0 h0 hsep hsub hpre => ?_
  obtain rfl : h0 = Heap.none := hsep
  show St (cx gl) _ [(0, .int .u64 n)] _ _
  have hl7 := lenI_le n.toNat
  refine R_seq ?_
  refine R_region ?_
  refine L_val rfl rfl rfl (OpP.v (P_assign rfl rfl)) ?_
  refine L_nil ?_
  refine Q_then ?_
  refine R_seq ?_
  refine R_seq ?_
  refine R_region ?_
  refine L_val rfl rfl rfl (OpP.v (P_move rfl rfl)) ?_
  refine L_val rfl rfl rfl (OpP.v (P_geq rfl rfl rfl)) ?_
  refine L_nil ?_
  refine St.env (.cons (t := 0) rfl (.cons (t := 2) rfl (.cons (t := 4) rfl .nil))) ?_
  refine Q_then ?_
  refine R_condP rfl (fun hx => ?_) (fun hx => ?_)
  · skip
    exact absurd (show (4294967296 : Int) ≤ n from hx) (by omega)
  · skip
    refine R_skip ?_
    refine Q_then ?_
    refine R_seq ?_
    refine R_seq ?_
    refine R_region ?_
    refine L_val rfl rfl rfl (OpP.v (P_move rfl rfl)) ?_
    refine L_val rfl rfl rfl (OpP.v (P_geq rfl rfl rfl)) ?_
    refine L_nil ?_
    refine St.env (.cons (t := 0) rfl (.cons (t := 2) rfl (.cons (t := 8) rfl .nil))) ?_
    refine Q_then ?_
    refine R_condP rfl (fun hx => ?_) (fun hx => ?_)
    · skip
      exact absurd (show (65536 : Int) ≤ n from hx) (by omega)
    · skip
      refine R_skip ?_
      refine Q_then ?_
      refine R_seq ?_
      refine R_seq ?_
      refine R_region ?_
      refine L_val rfl rfl rfl (OpP.v (P_move rfl rfl)) ?_
      refine L_val rfl rfl rfl (OpP.v (P_geq rfl rfl rfl)) ?_
      refine L_nil ?_
      refine St.env (.cons (t := 0) rfl (.cons (t := 2) rfl (.cons (t := 14) rfl .nil))) ?_
      refine Q_then ?_
      refine R_condP rfl (fun hx => ?_) (fun hx => ?_)
      · skip
        exact absurd (show (256 : Int) ≤ n from hx) (by omega)
      · skip
        refine R_skip ?_
        refine Q_then ?_
        refine R_seq ?_
        refine R_region ?_
        refine L_val rfl rfl rfl (OpP.v (P_move rfl rfl)) ?_
        refine L_val rfl rfl rfl (OpP.v (P_move rfl rfl)) ?_
        refine L_val rfl rfl rfl (OpP.v (P_convN rfl ty_int_32 ty_int_5 rfl (by simp only [fits]; omega))) ?_
        refine L_op rfl (W_val rfl rfl (OpP.v (P_indexStr rfl ty_str_9 rfl rfl h0 (tab_at (by kernel_rfl) h0 h1))) ?_)
        refine E_as (t := 22) (v' := .int .u8 (lenI n.toNat : Int)) rfl (by rw [len_u8]) ?_
        refine L_val rfl rfl rfl (OpP.v (P_convN rfl ty_int_5 ty_int_3 rfl (by simp only [fits]; omega))) ?_
        refine L_val rfl rfl rfl (OpP.v (P_addN rfl rfl rfl (by simp only [fits]; omega))) ?_
        refine L_val rfl rfl rfl (OpP.v (P_assign rfl rfl)) ?_
        refine L_nil ?_
        refine St.env (.cons (t := 2) rfl .nil) ?_
        refine Q_then ?_
        refine R_ret ?_
        exact R_endV rfl rfl (.tmp rfl .nil) (by rw [Int.zero_add]; rfl)
theorem lz64_ok {gl : Nat → Obj} (n : Int) (s : Nat) (h0 : 0 ≤ n) (h1 : n ≤ 64) (hs : (lenI n.toNat : Int) = 64 - s) : SpecV (cx gl) 72 [.int .u64 n] noPre (.int .i64 (s : Int)) := by
  refine Spec.enter (C := cx gl) Try.func72 rfl 6 rfl rfl fun w0 h0 hsep hsub hpre => ?_
  obtain rfl : h0 = Heap.none := hsep
  show St (cx gl) _ [(0, .int .u64 n)] _ _
  have hl7 := lenI_le n.toNat
  refine R_seq ?_
  refine R_region ?_
  refine L_val rfl rfl rfl (OpP.v (P_assign rfl rfl)) ?_
  refine L_nil ?_
  refine Q_then ?_
  refine R_seq ?_
  refine R_region ?_
  refine L_val rfl rfl rfl (OpP.v (P_move rfl rfl)) ?_
  refine L_op rfl (W_callV rfl rfl rfl rfl fn_ca_73 (len64_ok n h0 h1) (fun _ _ => trivial) ?_)
  refine L_val rfl rfl rfl (OpP.v (P_subN rfl rfl rfl (by simp only [fits]; omega))) ?_
  refine L_val rfl rfl rfl (OpP.v (P_assign rfl rfl)) ?_
  refine L_nil ?_
  refine St.env (.cons (t := 2) rfl .nil) ?_
  refine Q_then ?_
  refine R_ret ?_
  exact R_endV rfl rfl (.tmp rfl .nil) (by rw [show (64 : Int) - (lenI n.toNat : Int) = s by omega]; rfl)
theorem div64_ok {gl : Nat → Obj} (hi lo n : Int) (hn0 : 0 < n) (hn1 : n ≤ 64) (h0 : 0 ≤ hi) (h1 : hi < n) (l0 : 0 ≤ lo) (l1 : lo < 18446744073709551616) : SpecV (cx gl) 68 [.int .u64 hi, .int .u64 lo, .int .u64 n] noPre (.tuple #[.int .u64 ((hi * 18446744073709551616 + lo) / n), .int .u64 ((hi * 18446744073709551616 + lo) % n)]) := by
  refine Spec.enter (C := cx gl) Try.func68 rfl 135 rfl rfl fun w0 h0 hsep hsub hpre => ?_
  obtain rfl : h0 = Heap.none := hsep
  show St (cx gl) _ [(0, .int .u64 hi), (1, .int .u64 lo), (2, .int .u64 n)] _ _
  refine R_seq ?_
  refine R_region ?_
  refine L_val rfl rfl rfl (OpP.v (P_assign rfl rfl)) ?_
  refine L_val rfl rfl rfl (OpP.v (P_assign rfl rfl)) ?_
  refine L_nil ?_
  refine Q_then ?_
  refine R_seq ?_
  refine R_seq ?_
  refine R_region ?_
  refine L_val rfl rfl rfl (OpP.v (P_move rfl rfl)) ?_
  refine L_val rfl rfl rfl (OpP.v (P_eql rfl rfl rfl)) ?_
  refine L_nil ?_
  refine St.env (.cons (t := 0) rfl (.cons (t := 1) rfl (.cons (t := 2) rfl (.cons (t := 6) rfl (.cons (t := 7) rfl (.cons (t := 20) rfl .nil)))))) ?_
  refine Q_then ?_
  refine R_condP rfl (fun hz => ?_) (fun hz => ?_)
  · skip
    exact absurd (show n = 0 from hz) (by omega)
  · skip
    refine R_skip ?_
    refine Q_then ?_
    refine R_seq ?_
    refine R_seq ?_
    refine R_region ?_
    refine L_val rfl rfl rfl (OpP.v (P_move rfl rfl)) ?_
    refine L_val rfl rfl rfl (OpP.v (P_move rfl rfl)) ?_
    refine L_val rfl rfl rfl (OpP.v (P_leq rfl rfl rfl)) ?_
    refine L_nil ?_
    refine St.env (.cons (t := 0) rfl (.cons (t := 1) rfl (.cons (t := 2) rfl (.cons (t := 6) rfl (.cons (t := 7) rfl (.cons (t := 24) rfl .nil)))))) ?_
    refine Q_then ?_
    refine R_condP rfl (fun hz => ?_) (fun hz => ?_)
    · skip
      exact absurd (show n ≤ hi from hz) (by omega)
    · skip
      refine R_skip ?_
      refine Q_then ?_
      refine R_seq ?_
      refine R_seq ?_
      refine R_region ?_
      refine L_val rfl rfl rfl (OpP.v (P_move rfl rfl)) ?_
      refine L_val rfl rfl rfl (OpP.v (P_eql rfl rfl rfl)) ?_
      refine L_nil ?_
      refine St.env (.cons (t := 0) rfl (.cons (t := 1) rfl (.cons (t := 2) rfl (.cons (t := 6) rfl (.cons (t := 7) rfl (.cons (t := 27) rfl .nil)))))) ?_
      refine Q_then ?_
      refine R_condP rfl (fun hz => ?_) (fun hz => ?_)
      · skip
        have hz : hi = 0 := hz
        have hd0 : 0 ≤ lo / n := Int.ediv_nonneg (by omega) (by omega)
        have hd1 : lo / n ≤ lo := Int.ediv_le_self _ (by omega)
        refine R_seq ?_
        refine R_open [(0, 0), (1, 0), (2, 0), (3, 0), (4, 0), (5, 0), (6, 0), (7, 0)] mixed (by kernel_rfl) (QOk.then (QOk.then QOk.body)) ?_
        refine O_pure rfl rfl rfl rfl (P_move rfl rfl) ?_
        refine O_pure rfl rfl rfl rfl (P_move rfl rfl) ?_
        refine O_pure rfl rfl rfl rfl (P_quo rfl rfl rfl (by omega)) ?_
        refine E_as (t := 30) (v' := .int .u64 (lo / n)) rfl (by rw [Int.tdiv_eq_ediv_of_nonneg (by omega), wrap_fits (by simp only [fits]; omega)]) ?_
        refine O_pure rfl rfl rfl rfl (P_move rfl rfl) ?_
        refine O_pure rfl rfl rfl rfl (P_move rfl rfl) ?_
        refine O_pure rfl rfl rfl rfl (P_rem rfl rfl rfl (by omega)) ?_
        refine E_as (t := 33) (v' := .int .u64 (lo % n)) rfl (by rw [Int.tmod_eq_emod_of_nonneg (by omega)]) ?_
        refine O_pure rfl rfl rfl rfl (P_assign rfl rfl) ?_
        refine O_pure rfl rfl rfl rfl (P_assign rfl rfl) ?_
        refine O_nil ?_
        refine St.env (.cons (t := 0) rfl (.cons (t := 1) rfl (.cons (t := 2) rfl (.cons (t := 6) rfl (.cons (t := 7) rfl .nil))))) ?_
        refine Q_then ?_
        refine R_ret ?_
        refine Q_then_ret ?_
        exact R_endV rfl rfl (.tmp rfl (.tmp rfl .nil)) (by rw [hz, show (0 : Int) * 18446744073709551616 + lo = lo by omega]; rfl)
      · skip
        refine R_skip ?_
        refine Q_then ?_
        refine R_seq ?_
        obtain ⟨s, p, q, v, U, u, d⟩ := div_ex (hi := hi) (lo := lo) (n := n) (by omega) hn1 h0 h1 l0 (by omega)
        have s0 := d.s0; have s1 := d.s1; have p0 := d.p0; have q0 := d.q0; have v0 := d.v0; have v1 := d.v1; have A0 := d.A0; have A1 := d.A1; have L0 := d.L0; have L1 := d.L1; have U0 := d.U0; have U1 := d.U1; have u0 := d.u0; have u1 := d.u1; have hU := d.hU; have hu := d.hu; have hv := d.hv
        have hY : (n * (p * 4294967296)) = v * 4294967296 := by rw [hv, Int.mul_assoc]
        have hUv := Int.mul_ediv_add_emod U v
        have hUr0 := Int.emod_nonneg U (show v ≠ 0 by omega)
        have hUr1 := Int.emod_lt_of_pos U (show 0 < v by omega)
        have hUq0 : 0 ≤ U / v := Int.ediv_nonneg U0 (by omega)
        have hUq1 : U / v < 4294967296 := by rw [Int.ediv_lt_iff_lt_mul (by omega), Int.mul_comm]; exact U1
        have hUc : U / v * v = v * (U / v) := Int.mul_comm _ _
        have hUp : 0 ≤ v * (U / v) := Int.mul_nonneg (by omega) hUq0
        obtain ⟨D, hD⟩ : ∃ D, D = (U % v * 4294967296 + u) := ⟨_, rfl⟩
        have D1 : D < v * 4294967296 := by omega
        have hDv := Int.mul_ediv_add_emod D v
        have hDr0 := Int.emod_nonneg D (show v ≠ 0 by omega)
        have hDr1 := Int.emod_lt_of_pos D (show 0 < v by omega)
        have hDq0 : 0 ≤ D / v := Int.ediv_nonneg (by omega) (by omega)
        have hDq1 : D / v < 4294967296 := by rw [Int.ediv_lt_iff_lt_mul (by omega), Int.mul_comm]; exact D1
        have hDc : D / v * v = v * (D / v) := Int.mul_comm _ _
        have hDp : 0 ≤ v * (D / v) := Int.mul_nonneg (by omega) hDq0
        have hYq : ∀ x, x * (v * 4294967296) = x * v * 4294967296 := fun x => by rw [Int.mul_assoc]
        obtain ⟨he1, he2⟩ := div_end d (by omega)
        rw [← hD] at he1 he2
        refine R_region ?_
        refine L_val rfl rfl rfl (OpP.v (P_move rfl rfl)) ?_
        refine L_op rfl (W_callV rfl rfl rfl rfl fn_ca_72 (lz64_ok n s (by omega) hn1 d.len) (fun _ _ => trivial) ?_)
        refine L_val rfl rfl rfl (OpP.v (P_convN rfl ty_int_3 ty_int_80 rfl (by simp only [fits]; omega))) ?_
        refine L_val rfl rfl rfl (OpP.v (P_assign rfl rfl)) ?_
        refine L_nil ?_
        refine St.env (.cons (t := 0) rfl (.cons (t := 1) rfl (.cons (t := 2) rfl (.cons (t := 6) rfl (.cons (t := 7) rfl (.cons (t := 8) rfl .nil)))))) ?_
        refine Q_then ?_
        refine R_seq ?_
        refine R_region ?_
        refine L_val rfl rfl rfl (OpP.v (P_move rfl rfl)) ?_
        refine L_val rfl rfl rfl (OpP.v (P_move rfl rfl)) ?_
        refine L_val rfl rfl rfl (OpP.v (P_shl rfl rfl rfl (by omega))) ?_
        refine E_as (t := 39) (v' := .int .u64 (v * 4294967296)) rfl (by rw [shl_s s1 d.pw, hY, u64_fit (by omega) (by omega)]) ?_
        refine L_val rfl rfl rfl (OpP.v (P_assign rfl rfl)) ?_
        refine L_nil ?_
        refine St.env (.cons (t := 0) rfl (.cons (t := 1) rfl (.cons (t := 2) rfl (.cons (t := 6) rfl (.cons (t := 7) rfl (.cons (t := 8) rfl .nil)))))) ?_
        refine Q_then ?_
        refine R_seq ?_
        refine R_region ?_
        refine L_val rfl rfl rfl (OpP.v (P_move rfl rfl)) ?_
        refine L_val rfl rfl rfl (OpP.v (P_shr rfl rfl rfl (by omega))) ?_
        refine E_as (t := 41) (v' := .int .u64 v) rfl (by rw [shr_32, Int.mul_ediv_cancel _ (by decide)]) ?_
        refine L_val rfl rfl rfl (OpP.v (P_assign rfl rfl)) ?_
        refine L_nil ?_
        refine St.env (.cons (t := 0) rfl (.cons (t := 1) rfl (.cons (t := 2) rfl (.cons (t := 6) rfl (.cons (t := 7) rfl (.cons (t := 8) rfl (.cons (t := 9) rfl .nil))))))) ?_
        refine Q_then ?_
        refine R_seq ?_
        refine R_region ?_
        refine L_val rfl rfl rfl (OpP.v (P_move rfl rfl)) ?_
        refine L_val rfl rfl rfl (OpP.v (P_bit (op := .and) rfl rfl rfl rfl)) ?_
        refine E_as (t := 43) (v' := .int .u64 0) rfl (by rw [and_mask (by omega) (by omega), Int.mul_emod_left]) ?_
        refine L_val rfl rfl rfl (OpP.v (P_assign rfl rfl)) ?_
        refine L_nil ?_
        refine St.env (.cons (t := 0) rfl (.cons (t := 1) rfl (.cons (t := 2) rfl (.cons (t := 6) rfl (.cons (t := 7) rfl (.cons (t := 8) rfl (.cons (t := 9) rfl (.cons (t := 10) rfl .nil)))))))) ?_
        refine Q_then ?_
        refine R_seq ?_
        refine R_region ?_
        refine L_val rfl rfl rfl (OpP.v (P_move rfl rfl)) ?_
        refine L_val rfl rfl rfl (OpP.v (P_move rfl rfl)) ?_
        refine L_val rfl rfl rfl (OpP.v (P_shl rfl rfl rfl (by omega))) ?_
        refine E_as (t := 46) (v' := .int .u64 (hi * (p * 4294967296))) rfl (by rw [shl_s s1 d.pw, u64_fit (by omega) (by omega)]) ?_
        refine L_val rfl rfl rfl (OpP.v (P_move rfl rfl)) ?_
        refine L_val rfl rfl rfl (OpP.v (P_move rfl rfl)) ?_
        refine L_val rfl rfl rfl (OpP.v (P_subN rfl rfl rfl (by simp only [fits]; omega))) ?_
        refine L_val rfl rfl rfl (OpP.v (P_shr rfl rfl rfl (by omega))) ?_
        refine E_as (t := 50) (v' := .int .u64 (lo / q)) rfl (by rw [shr_q s0 s1 d.qw q0]) ?_
        refine L_val rfl rfl rfl (OpP.v (P_bit (op := .or) rfl rfl rfl rfl)) ?_
        refine E_as (t := 51) (v' := .int .u64 U) rfl (by rw [or_sum s1 d.pw h0 A1 L0 L1 (by omega), ← hU]) ?_
        refine L_val rfl rfl rfl (OpP.v (P_assign rfl rfl)) ?_
        refine L_nil ?_
        refine St.env (.cons (t := 1) rfl (.cons (t := 2) rfl (.cons (t := 6) rfl (.cons (t := 7) rfl (.cons (t := 8) rfl (.cons (t := 9) rfl (.cons (t := 10) rfl (.cons (t := 11) rfl .nil)))))))) ?_
        refine Q_then ?_
        refine R_seq ?_
        refine R_region ?_
        refine L_val rfl rfl rfl (OpP.v (P_move rfl rfl)) ?_
        refine L_val rfl rfl rfl (OpP.v (P_move rfl rfl)) ?_
        refine L_val rfl rfl rfl (OpP.v (P_shl rfl rfl rfl (by omega))) ?_
        refine E_as (t := 54) (v' := .int .u64 (u * 4294967296)) rfl (by rw [shl_lo s1 d.pw p0 q0 d.pq, ← hu]) ?_
        refine L_val rfl rfl rfl (OpP.v (P_assign rfl rfl)) ?_
        refine L_nil ?_
        refine St.env (.cons (t := 2) rfl (.cons (t := 6) rfl (.cons (t := 7) rfl (.cons (t := 8) rfl (.cons (t := 9) rfl (.cons (t := 10) rfl (.cons (t := 11) rfl (.cons (t := 12) rfl .nil)))))))) ?_
        refine Q_then ?_
        refine R_seq ?_
        refine R_region ?_
        refine L_val rfl rfl rfl (OpP.v (P_move rfl rfl)) ?_
        refine L_val rfl rfl rfl (OpP.v (P_shr rfl rfl rfl (by omega))) ?_
        refine E_as (t := 56) (v' := .int .u64 u) rfl (by rw [shr_32, Int.mul_ediv_cancel _ (by decide)]) ?_
        refine L_val rfl rfl rfl (OpP.v (P_assign rfl rfl)) ?_
        refine L_nil ?_
        refine St.env (.cons (t := 2) rfl (.cons (t := 6) rfl (.cons (t := 7) rfl (.cons (t := 8) rfl (.cons (t := 9) rfl (.cons (t := 10) rfl (.cons (t := 11) rfl (.cons (t := 12) rfl (.cons (t := 13) rfl .nil))))))))) ?_
        refine Q_then ?_
        refine R_seq ?_
        refine R_region ?_
        refine L_val rfl rfl rfl (OpP.v (P_move rfl rfl)) ?_
        refine L_val rfl rfl rfl (OpP.v (P_bit (op := .and) rfl rfl rfl rfl)) ?_
        refine E_as (t := 58) (v' := .int .u64 0) rfl (by rw [and_mask (by omega) (by omega), Int.mul_emod_left]) ?_
        refine L_val rfl rfl rfl (OpP.v (P_assign rfl rfl)) ?_
        refine L_nil ?_
        refine St.env (.cons (t := 2) rfl (.cons (t := 6) rfl (.cons (t := 7) rfl (.cons (t := 8) rfl (.cons (t := 9) rfl (.cons (t := 10) rfl (.cons (t := 11) rfl (.cons (t := 13) rfl (.cons (t := 14) rfl .nil))))))))) ?_
        refine Q_then ?_
        refine R_seq ?_
        refine R_region ?_
        refine L_val rfl rfl rfl (OpP.v (P_move rfl rfl)) ?_
        refine L_val rfl rfl rfl (OpP.v (P_move rfl rfl)) ?_
        refine L_val rfl rfl rfl (OpP.v (P_quo rfl rfl rfl (by omega))) ?_
        refine E_as (t := 61) (v' := .int .u64 (U / v)) rfl (by rw [Int.tdiv_eq_ediv_of_nonneg (by omega), wrap_fits (by simp only [fits]; omega)]) ?_
        refine L_val rfl rfl rfl (OpP.v (P_assign rfl rfl)) ?_
        refine L_nil ?_
        refine St.env (.cons (t := 2) rfl (.cons (t := 6) rfl (.cons (t := 7) rfl (.cons (t := 8) rfl (.cons (t := 9) rfl (.cons (t := 10) rfl (.cons (t := 11) rfl (.cons (t := 13) rfl (.cons (t := 14) rfl (.cons (t := 15) rfl .nil)))))))))) ?_
        refine Q_then ?_
        refine R_seq ?_
        refine R_region ?_
        refine L_val rfl rfl rfl (OpP.v (P_move rfl rfl)) ?_
        refine L_val rfl rfl rfl (OpP.v (P_move rfl rfl)) ?_
        refine L_val rfl rfl rfl (OpP.v (P_move rfl rfl)) ?_
        refine L_val rfl rfl rfl (OpP.v (P_mulN rfl rfl rfl (by simp only [fits]; omega))) ?_
        refine L_val rfl rfl rfl (OpP.v (P_subN rfl rfl rfl (by simp only [fits]; omega))) ?_
        refine E_as (t := 66) (v' := .int .u64 (U % v)) rfl (by congr 1; omega) ?_
        refine L_val rfl rfl rfl (OpP.v (P_assign rfl rfl)) ?_
        refine L_nil ?_
        refine St.env (.cons (t := 2) rfl (.cons (t := 6) rfl (.cons (t := 7) rfl (.cons (t := 8) rfl (.cons (t := 9) rfl (.cons (t := 10) rfl (.cons (t := 11) rfl (.cons (t := 13) rfl (.cons (t := 14) rfl (.cons (t := 15) rfl (.cons (t := 16) rfl .nil))))))))))) ?_
        refine Q_then ?_
        refine R_seq ?_
        refine R_block ?_
        refine R_loopE (G := Unit) (.cons (t := 2) rfl (.cons (t := 6) rfl (.cons (t := 7) rfl (.cons (t := 8) rfl (.cons (t := 9) rfl (.cons (t := 10) rfl (.cons (t := 11) rfl (.cons (t := 13) rfl (.cons (t := 14) rfl (.cons (t := 15) rfl (.cons (t := 16) rfl .nil))))))))))) (fun g => []) (fun _ => _) (fun g => True) (fun g => 0) (()) (trivial) (by repeat (first | exact .nil | refine .cons rfl ?_ | refine .consE rfl (by first | rfl | (congr 1; omega) | (congr 1; push_cast; omega)) ?_)) (Weak.refl _) ?_
        intro z hinv
        replace hinv : True := hinv
        show St (cx gl) _ _ _ _
        refine R_seq ?_
        refine R_seq ?_
        refine R_region ?_
        refine L_val rfl rfl rfl (OpP.v (P_move rfl rfl)) ?_
        refine L_val rfl rfl rfl (OpP.v (P_geq rfl rfl rfl)) ?_
        refine E_false (t := 68) rfl (decide_eq_false (by omega)) ?_
        refine L_val rfl rfl rfl (OpP.v (P_move rfl rfl)) ?_
        refine L_val rfl rfl rfl (OpP.v (P_move rfl rfl)) ?_
        refine L_val rfl rfl rfl (OpP.v (P_move rfl rfl)) ?_
        refine L_val rfl rfl rfl (OpP.v (P_mulN rfl rfl rfl (by rw [Int.mul_zero]; simp only [fits]; omega))) ?_
        refine L_val rfl rfl rfl (OpP.v (P_move rfl rfl)) ?_
        refine L_val rfl rfl rfl (OpP.v (P_mulN rfl rfl rfl (by simp only [fits]; omega))) ?_
        refine L_val rfl rfl rfl (OpP.v (P_move rfl rfl)) ?_
        refine L_val rfl rfl rfl (OpP.v (P_addN rfl rfl rfl (by simp only [fits]; omega))) ?_
        refine L_val rfl rfl rfl (OpP.v (P_gtr rfl rfl rfl)) ?_
        refine E_false (t := 77) rfl (decide_eq_false (by rw [Int.mul_zero]; omega)) ?_
        refine L_val rfl rfl rfl (OpP.v (P_pick rfl rfl rfl)) ?_
        refine L_nil ?_
        refine Q_then ?_
        refine R_condF rfl ?_
        refine R_exit ?_
        refine Q_then_exit ?_
        refine Q_then_exit ?_
        refine Q_block_eq ?_
        refine St.env (.cons (t := 2) rfl (.cons (t := 6) rfl (.cons (t := 7) rfl (.cons (t := 8) rfl (.cons (t := 9) rfl (.cons (t := 10) rfl (.cons (t := 11) rfl (.cons (t := 13) rfl (.cons (t := 14) rfl (.cons (t := 15) rfl (.cons (t := 16) rfl .nil))))))))))) ?_
        refine Q_then ?_
        refine R_seq ?_
        refine R_region ?_
        refine L_val rfl rfl rfl (OpP.v (P_move rfl rfl)) ?_
        refine L_val rfl rfl rfl (OpP.v (P_mul rfl rfl rfl)) ?_
        refine L_val rfl rfl rfl (OpP.v (P_move rfl rfl)) ?_
        refine L_val rfl rfl rfl (OpP.v (P_add rfl rfl rfl)) ?_
        refine L_val rfl rfl rfl (OpP.v (P_move rfl rfl)) ?_
        refine L_val rfl rfl rfl (OpP.v (P_move rfl rfl)) ?_
        refine L_val rfl rfl rfl (OpP.v (P_mul rfl rfl rfl)) ?_
        refine L_val rfl rfl rfl (OpP.v (P_sub rfl rfl rfl)) ?_
        refine E_as (t := 93) (v' := .int .u64 D) rfl (by rw [sub_w (x := D) (by rw [hYq]; omega) (by omega) (by omega)]) ?_
        refine L_val rfl rfl rfl (OpP.v (P_assign rfl rfl)) ?_
        refine L_nil ?_
        refine St.env (.cons (t := 2) rfl (.cons (t := 6) rfl (.cons (t := 7) rfl (.cons (t := 8) rfl (.cons (t := 9) rfl (.cons (t := 10) rfl (.cons (t := 14) rfl (.cons (t := 15) rfl (.cons (t := 16) rfl (.cons (t := 17) rfl .nil)))))))))) ?_
        refine Q_then ?_
        refine R_seq ?_
        refine R_region ?_
        refine L_val rfl rfl rfl (OpP.v (P_move rfl rfl)) ?_
        refine L_val rfl rfl rfl (OpP.v (P_move rfl rfl)) ?_
        refine L_val rfl rfl rfl (OpP.v (P_quo rfl rfl rfl (by omega))) ?_
        refine E_as (t := 96) (v' := .int .u64 (D / v)) rfl (by rw [Int.tdiv_eq_ediv_of_nonneg (by omega), wrap_fits (by simp only [fits]; omega)]) ?_
        refine L_val rfl rfl rfl (OpP.v (P_assign rfl rfl)) ?_
        refine L_nil ?_
        refine St.env (.cons (t := 2) rfl (.cons (t := 6) rfl (.cons (t := 7) rfl (.cons (t := 8) rfl (.cons (t := 9) rfl (.cons (t := 10) rfl (.cons (t := 14) rfl (.cons (t := 15) rfl (.cons (t := 16) rfl (.cons (t := 17) rfl (.cons (t := 18) rfl .nil))))))))))) ?_
        refine Q_then ?_
        refine R_seq ?_
        refine R_region ?_
        refine L_val rfl rfl rfl (OpP.v (P_move rfl rfl)) ?_
        refine L_val rfl rfl rfl (OpP.v (P_move rfl rfl)) ?_
        refine L_val rfl rfl rfl (OpP.v (P_move rfl rfl)) ?_
        refine L_val rfl rfl rfl (OpP.v (P_mulN rfl rfl rfl (by simp only [fits]; omega))) ?_
        refine L_val rfl rfl rfl (OpP.v (P_subN rfl rfl rfl (by simp only [fits]; omega))) ?_
        refine E_as (t := 101) (v' := .int .u64 (D % v)) rfl (by congr 1; omega) ?_
        refine L_val rfl rfl rfl (OpP.v (P_assign rfl rfl)) ?_
        refine L_nil ?_
        refine St.env (.cons (t := 2) rfl (.cons (t := 6) rfl (.cons (t := 7) rfl (.cons (t := 8) rfl (.cons (t := 9) rfl (.cons (t := 10) rfl (.cons (t := 14) rfl (.cons (t := 15) rfl (.cons (t := 16) rfl (.cons (t := 17) rfl (.cons (t := 18) rfl .nil))))))))))) ?_
        refine Q_then ?_
        refine R_seq ?_
        refine R_block ?_
        refine R_loopE (G := Unit) (.cons (t := 2) rfl (.cons (t := 6) rfl (.cons (t := 7) rfl (.cons (t := 8) rfl (.cons (t := 9) rfl (.cons (t := 10) rfl (.cons (t := 14) rfl (.cons (t := 15) rfl (.cons (t := 16) rfl (.cons (t := 17) rfl (.cons (t := 18) rfl .nil))))))))))) (fun g => []) (fun _ => _) (fun g => True) (fun g => 0) (()) (trivial) (by repeat (first | exact .nil | refine .cons rfl ?_ | refine .consE rfl (by first | rfl | (congr 1; omega) | (congr 1; push_cast; omega)) ?_)) (Weak.refl _) ?_
        intro z hinv
        replace hinv : True := hinv
        show St (cx gl) _ _ _ _
        refine R_seq ?_
        refine R_seq ?_
        refine R_region ?_
        refine L_val rfl rfl rfl (OpP.v (P_move rfl rfl)) ?_
        refine L_val rfl rfl rfl (OpP.v (P_geq rfl rfl rfl)) ?_
        refine E_false (t := 103) rfl (decide_eq_false (by omega)) ?_
        refine L_val rfl rfl rfl (OpP.v (P_move rfl rfl)) ?_
        refine L_val rfl rfl rfl (OpP.v (P_move rfl rfl)) ?_
        refine L_val rfl rfl rfl (OpP.v (P_move rfl rfl)) ?_
        refine L_val rfl rfl rfl (OpP.v (P_mulN rfl rfl rfl (by rw [Int.mul_zero]; simp only [fits]; omega))) ?_
        refine L_val rfl rfl rfl (OpP.v (P_move rfl rfl)) ?_
        refine L_val rfl rfl rfl (OpP.v (P_mulN rfl rfl rfl (by simp only [fits]; omega))) ?_
        refine L_val rfl rfl rfl (OpP.v (P_move rfl rfl)) ?_
        refine L_val rfl rfl rfl (OpP.v (P_addN rfl rfl rfl (by simp only [fits]; omega))) ?_
        refine L_val rfl rfl rfl (OpP.v (P_gtr rfl rfl rfl)) ?_
        refine E_false (t := 112) rfl (decide_eq_false (by rw [Int.mul_zero]; omega)) ?_
        refine L_val rfl rfl rfl (OpP.v (P_pick rfl rfl rfl)) ?_
        refine L_nil ?_
        refine Q_then ?_
        refine R_condF rfl ?_
        refine R_exit ?_
        refine Q_then_exit ?_
        refine Q_then_exit ?_
        refine Q_block_eq ?_
        refine St.env (.cons (t := 2) rfl (.cons (t := 6) rfl (.cons (t := 7) rfl (.cons (t := 8) rfl (.cons (t := 14) rfl (.cons (t := 15) rfl (.cons (t := 17) rfl (.cons (t := 18) rfl .nil)))))))) ?_
        refine Q_then ?_
        refine R_seq ?_
        refine R_region ?_
        refine L_val rfl rfl rfl (OpP.v (P_move rfl rfl)) ?_
        refine L_val rfl rfl rfl (OpP.v (P_mulN rfl rfl rfl (by simp only [fits]; omega))) ?_
        refine L_val rfl rfl rfl (OpP.v (P_move rfl rfl)) ?_
        refine L_val rfl rfl rfl (OpP.v (P_addN rfl rfl rfl (by simp only [fits]; omega))) ?_
        refine L_val rfl rfl rfl (OpP.v (P_move rfl rfl)) ?_
        refine L_val rfl rfl rfl (OpP.v (P_mul rfl rfl rfl)) ?_
        refine L_val rfl rfl rfl (OpP.v (P_move rfl rfl)) ?_
        refine L_val rfl rfl rfl (OpP.v (P_add rfl rfl rfl)) ?_
        refine L_val rfl rfl rfl (OpP.v (P_move rfl rfl)) ?_
        refine L_val rfl rfl rfl (OpP.v (P_move rfl rfl)) ?_
        refine L_val rfl rfl rfl (OpP.v (P_mul rfl rfl rfl)) ?_
        refine L_val rfl rfl rfl (OpP.v (P_sub rfl rfl rfl)) ?_
        refine E_as (t := 132) (v' := .int .u64 (D % v * 4294967296)) rfl (by rw [sub_w (x := D % v * 4294967296) (by rw [hYq]; omega) (by omega) (by omega)]) ?_
        refine L_val rfl rfl rfl (OpP.v (P_move rfl rfl)) ?_
        refine L_val rfl rfl rfl (OpP.v (P_shr rfl rfl rfl (by omega))) ?_
        refine E_as (t := 134) (v' := .int .u64 (D % v / p)) rfl (by rw [shr_s s1 d.pw (by omega), Int.mul_ediv_mul_of_pos_left _ _ (by decide)]) ?_
        refine L_val rfl rfl rfl (OpP.v (P_assign rfl rfl)) ?_
        refine L_val rfl rfl rfl (OpP.v (P_assign rfl rfl)) ?_
        refine L_nil ?_
        refine St.env (.cons (t := 6) rfl (.cons (t := 7) rfl .nil)) ?_
        refine Q_then ?_
        refine R_ret ?_
        exact R_endV rfl rfl (.tmp rfl (.tmp rfl .nil)) (by rw [he1, he2]; rfl)
end Go.Proofs.Ytjhhpagcejgclaa
