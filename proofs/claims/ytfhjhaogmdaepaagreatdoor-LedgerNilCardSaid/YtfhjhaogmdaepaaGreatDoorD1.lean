/- Walks: rotations and splits. Printed by gen.py. -/
import Derived.Test.YtfhjhaogmdaepaaGreatDoorTy
set_option linter.unusedVariables false
set_option linter.unusedSimpArgs false
set_option maxRecDepth 100000
namespace Go.Proofs.YtfhjhaogmdaepaaGreatDoor
open Go Go.RowKit Go.Proofs
theorem bitI_nn {op : BinOp} {k : IntKind} (hk : k.signed = false) (a b : Int) : 0 ≤ bitI op k a b := by
  unfold bitI
  cases k <;> simp [IntKind.signed] at hk <;> cases op <;> simp [IntKind.wrap, IntKind.signed, IntKind.bits] <;> omega
theorem wrap_nn {k : IntKind} (hk : k.signed = false) (a : Int) : 0 ≤ k.wrap a := by
  cases k <;> simp [IntKind.signed] at hk <;> simp [IntKind.wrap, IntKind.signed, IntKind.bits] <;> omega
def rotS (k : Int) : Int := bitI .and .u64 (IntKind.u64.wrap k) 31
/-- math/bits.RotateLeft32 -/
def rotlI (x k : Int) : Int := bitI .or .u32 (shlI .u32 x (rotS k)) (shrI .u32 x (IntKind.u64.wrap (32 - rotS k)))
/-- the reference's turn -/
def turnI (x n : Int) : Int := bitI .or .u32 (shrI .u32 x n) (shlI .u32 x (IntKind.u64.wrap (32 - n)))
/-- the greatest power of two below n (n above 1) -/
def splitF : Nat → Nat → Nat → Nat
  | 0, k, _ => k
  | f + 1, k, n => if 2 * k < n then splitF f (2 * k) n else k
def splitN (n : Nat) : Nat := splitF n 1 n
theorem splitF_step {f k n : Nat} (hk : 0 < k) (h : n < f + k) : splitF f k n = if 2 * k < n then splitF f (2 * k) n else k := by
  induction f generalizing k with
  | zero => unfold splitF; rw [if_neg (by omega)]
  | succ f ih =>
    rw [splitF]
    by_cases h2 : 2 * k < n
    · rw [if_pos h2, if_pos h2]
      by_cases h3 : n < f + 2 * k
      · rw [ih (by omega) h3, splitF]
      · omega
    · rw [if_neg h2, if_neg h2]
theorem rotl_ok (gl : Nat → Obj) (x k : Int) : SpecV (cx gl) 231 [.int .u32 x, .int .i64 k] noPre (.int .u32 (rotlI x k)) := by
  refine Spec.enter (C := cx gl) Tryz.func231 rfl 17 rfl rfl fun w0 h0 hsep hsub hpre => ?_
  obtain rfl : h0 = Heap.none := hsep
  show St (cx gl) _ [(0, .int .u32 x), (1, .int .i64 k)] _ _
  refine R_seq ?_
  refine R_region ?_
  refine L_val rfl rfl rfl (OpP.v (P_assign rfl rfl)) ?_
  refine L_nil ?_
  refine Q_then ?_
  refine R_seq ?_
  refine R_region ?_
  refine L_val rfl rfl rfl (OpP.v (P_move rfl rfl)) ?_
  refine L_val rfl rfl rfl (OpP.v (P_conv rfl ty_int_3 ty_int_133 rfl)) ?_
  refine L_val rfl rfl rfl (OpP.v (P_bit (op := .and) rfl rfl rfl rfl)) ?_
  refine L_val rfl rfl rfl (OpP.v (P_assign rfl rfl)) ?_
  refine L_nil ?_
  refine St.env (.cons (t := 0) rfl (.cons (t := 4) rfl (.cons (t := 5) rfl .nil))) ?_
  refine Q_then ?_
  refine R_seq ?_
  refine R_region ?_
  refine L_val rfl rfl rfl (OpP.v (P_move rfl rfl)) ?_
  refine L_val rfl rfl rfl (OpP.v (P_move rfl rfl)) ?_
  refine L_val rfl rfl rfl (OpP.v (P_shl rfl rfl rfl (bitI_nn rfl _ _))) ?_
  refine L_val rfl rfl rfl (OpP.v (P_move rfl rfl)) ?_
  refine L_val rfl rfl rfl (OpP.v (P_move rfl rfl)) ?_
  refine L_val rfl rfl rfl (OpP.v (P_sub rfl rfl rfl)) ?_
  refine L_val rfl rfl rfl (OpP.v (P_shr rfl rfl rfl (wrap_nn rfl _))) ?_
  refine L_val rfl rfl rfl (OpP.v (P_bit (op := .or) rfl rfl rfl rfl)) ?_
  refine L_val rfl rfl rfl (OpP.v (P_assign rfl rfl)) ?_
  refine L_nil ?_
  refine St.env (.cons (t := 4) rfl .nil) ?_
  refine Q_then ?_
  refine R_ret ?_
  exact R_endV rfl rfl (.tmp rfl .nil) (rfl)
theorem turn_ok (gl : Nat → Obj) (x n : Int) (hn : 0 ≤ n) : SpecV (cx gl) 130 [.int .u32 x, .int .u64 n] noPre (.int .u32 (turnI x n)) := by
  refine Spec.enter (C := cx gl) Tryz.func130 rfl 13 rfl rfl fun w0 h0 hsep hsub hpre => ?_
  obtain rfl : h0 = Heap.none := hsep
  show St (cx gl) _ [(0, .int .u32 x), (1, .int .u64 n)] _ _
  refine R_seq ?_
  refine R_region ?_
  refine L_val rfl rfl rfl (OpP.v (P_assign rfl rfl)) ?_
  refine L_nil ?_
  refine Q_then ?_
  refine R_seq ?_
  refine R_region ?_
  refine L_val rfl rfl rfl (OpP.v (P_move rfl rfl)) ?_
  refine L_val rfl rfl rfl (OpP.v (P_move rfl rfl)) ?_
  refine L_val rfl rfl rfl (OpP.v (P_shr rfl rfl rfl (hn))) ?_
  refine L_val rfl rfl rfl (OpP.v (P_move rfl rfl)) ?_
  refine L_val rfl rfl rfl (OpP.v (P_move rfl rfl)) ?_
  refine L_val rfl rfl rfl (OpP.v (P_sub rfl rfl rfl)) ?_
  refine L_val rfl rfl rfl (OpP.v (P_shl rfl rfl rfl (wrap_nn rfl _))) ?_
  refine L_val rfl rfl rfl (OpP.v (P_bit (op := .or) rfl rfl rfl rfl)) ?_
  refine L_val rfl rfl rfl (OpP.v (P_assign rfl rfl)) ?_
  refine L_nil ?_
  refine St.env (.cons (t := 4) rfl .nil) ?_
  refine Q_then ?_
  refine R_ret ?_
  exact R_endV rfl rfl (.tmp rfl .nil) (rfl)
theorem split_ok (gl : Nat → Obj) (n : Nat) (hn : n ≤ 70368744177664) : SpecV (cx gl) 144 [.int .i64 (n : Int)] noPre (.int .i64 (splitN n : Nat)) := by
  refine Spec.enter (C := cx gl) Tryz.func144 rfl 11 rfl rfl fun w0 h0 hsep hsub hpre => ?_
  obtain rfl : h0 = Heap.none := hsep
  show St (cx gl) _ [(0, .int .i64 (n : Int))] _ _
  refine R_seq ?_
  refine R_region ?_
  refine L_val rfl rfl rfl (OpP.v (P_assign rfl rfl)) ?_
  refine L_nil ?_
  refine Q_then ?_
  refine R_seq ?_
  refine R_region ?_
  refine L_val rfl rfl rfl (OpP.v (P_assign rfl rfl)) ?_
  refine L_nil ?_
  refine Q_then ?_
  refine R_seq ?_
  refine R_block ?_
  refine R_loop (G := Nat) (fun k => [(0, .int .i64 (n : Int)), (2, .int .i64 0), (3, .int .i64 (k : Int))]) (fun k => []) (fun k => 0 < k ∧ k < n + 2 ∧ splitN n = splitF n k n) (fun k => n - k) (1) (⟨by omega, by omega, rfl⟩) (by repeat (first | exact .nil | refine .cons rfl ?_)) (Weak.refl _) ?_
  intro k hinv
  obtain ⟨hk, hk2, hs⟩ := hinv
  refine R_seq ?_
  refine R_seq ?_
  refine R_region ?_
  refine L_val rfl rfl rfl (OpP.v (P_move rfl rfl)) ?_
  first | (refine L_val rfl rfl rfl (OpP.v (P_mulN rfl rfl rfl (by simp only [fits]; omega))) ?_) | (refine L_val rfl rfl rfl (OpP.v (P_mul rfl rfl rfl)) ?_)
  refine L_val rfl rfl rfl (OpP.v (P_move rfl rfl)) ?_
  refine L_val rfl rfl rfl (OpP.v (P_lss rfl rfl rfl)) ?_
  refine L_nil ?_
  refine Q_then ?_
  refine R_condP rfl (fun hlt => ?_) (fun hlt => ?_)
  · skip
    refine R_skip ?_
    refine Q_then ?_
    refine R_block ?_
    refine R_region ?_
    refine L_val rfl rfl rfl (OpP.v (P_move rfl rfl)) ?_
    first | (refine L_val rfl rfl rfl (OpP.v (P_mulN rfl rfl rfl (by simp only [fits]; omega))) ?_) | (refine L_val rfl rfl rfl (OpP.v (P_mul rfl rfl rfl)) ?_)
    refine L_val rfl rfl rfl (OpP.v (P_assign rfl rfl)) ?_
    refine L_nil ?_
    refine Q_block ?_
    refine E_as (t := 3) (v' := .int .i64 ((2 * k : Nat) : Int)) rfl (by congr 1; omega) ?_
    exact Q_round (2 * k) (⟨by omega, by omega, by rw [hs, splitF_step hk (by omega), if_pos (by omega)]⟩) (by omega) (by repeat (first | exact .nil | refine .cons rfl ?_)) (Weak.refl _)
  · skip
    refine R_exit ?_
    refine Q_then_exit ?_
    refine Q_then_exit ?_
    refine Q_block_eq ?_
    refine St.env (.cons (t := 2) rfl (.cons (t := 3) rfl .nil)) ?_
    refine Q_then ?_
    refine R_seq ?_
    refine R_region ?_
    refine L_val rfl rfl rfl (OpP.v (P_move rfl rfl)) ?_
    refine L_val rfl rfl rfl (OpP.v (P_assign rfl rfl)) ?_
    refine L_nil ?_
    refine St.env (.cons (t := 2) rfl .nil) ?_
    refine Q_then ?_
    refine R_ret ?_
    exact R_endV rfl rfl (.tmp rfl .nil) (by rw [hs, splitF_step hk (by omega), if_neg (by omega)]; rfl)
end Go.Proofs.YtfhjhaogmdaepaaGreatDoor
