/- Walks: rotations and splits. Printed by gen.py. -/
import Derived.Test.YtnaadddnbfnahaaDoorTy
set_option linter.unusedVariables false
set_option linter.unusedSimpArgs false
set_option maxRecDepth 100000
namespace Go.Proofs.YtnaadddnbfnahaaDoor
open Go Go.RowKit Go.Proofs
theorem bitI_nn {op : BinOp} {k : IntKind} (hk : k.signed = false) (a b : Int) : 0 ≤ bitI op k a b := by
  unfold bitI
  cases k <;> simp [IntKind.signed] at hk <;> cases op <;> simp [IntKind.wrap, IntKind.signed, IntKind.bits] <;> omega
theorem wrap_nn {k : IntKind} (hk : k.signed = false) (a : Int) : 0 ≤ k.wrap a := by
  cases k <;> simp [IntKind.signed] at hk <;> simp [IntKind.wrap, IntKind.signed, IntKind.bits] <;> omega
def rotS (k : Int) : Int := bitI .and .u64 (IntKind.u64.wrap k) 31
/-- math/bits.RotateLeft32 -/
def rotlI (x k : Int) : Int := bitI .or .u32 (shlI .u32 x (rotS k)) (shrI .u32 x (IntKind.u64.wrap (32 - rotS k)))
/-- the reference's turn -/
def turnI (x n : Int) : Int := bitI .or .u32 (shrI .u32 x n) (shlI .u32 x (IntKind.u64.wrap (32 - n)))
theorem rotl_ok (gl : Nat → Obj) (x k : Int) : SpecV (cx gl) 93 [.int .u32 x, .int .i64 k] noPre (.int .u32 (rotlI x k)) := by
  refine Spec.enter (C := cx gl) Tryd.func93 rfl 17 rfl rfl fun w0 h0 hsep hsub hpre => ?_
  obtain rfl : h0 = Heap.none := hsep
  show St (cx gl) _ [(0, .int .u32 x), (1, .int .i64 k)] _ _
  refine R_seq ?_
  refine R_region ?_
  refine L_val rfl rfl rfl (OpP.v (P_assign rfl rfl)) ?_
  refine L_nil ?_
  refine Q_then ?_
  refine R_seq ?_
  refine R_region ?_
  refine L_val rfl rfl rfl (OpP.v (P_move rfl rfl)) ?_
  refine L_val rfl rfl rfl (OpP.v (P_conv rfl ty_int_3 ty_int_105 rfl)) ?_
  refine L_val rfl rfl rfl (OpP.v (P_bit (op := .and) rfl rfl rfl rfl)) ?_
  refine L_val rfl rfl rfl (OpP.v (P_assign rfl rfl)) ?_
  refine L_nil ?_
  refine St.env (.cons (t := 0) rfl (.cons (t := 4) rfl (.cons (t := 5) rfl .nil))) ?_
  refine Q_then ?_
  refine R_seq ?_
  refine R_region ?_
  refine L_val rfl rfl rfl (OpP.v (P_move rfl rfl)) ?_
  refine L_val rfl rfl rfl (OpP.v (P_move rfl rfl)) ?_
  refine L_val rfl rfl rfl (OpP.v (P_shl rfl rfl rfl (bitI_nn rfl _ _))) ?_
  refine L_val rfl rfl rfl (OpP.v (P_move rfl rfl)) ?_
  refine L_val rfl rfl rfl (OpP.v (P_move rfl rfl)) ?_
  refine L_val rfl rfl rfl (OpP.v (P_sub rfl rfl rfl)) ?_
  refine L_val rfl rfl rfl (OpP.v (P_shr rfl rfl rfl (wrap_nn rfl _))) ?_
  refine L_val rfl rfl rfl (OpP.v (P_bit (op := .or) rfl rfl rfl rfl)) ?_
  refine L_val rfl rfl rfl (OpP.v (P_assign rfl rfl)) ?_
  refine L_nil ?_
  refine St.env (.cons (t := 4) rfl .nil) ?_
  refine Q_then ?_
  refine R_ret ?_
  exact R_endV rfl rfl (.tmp rfl .nil) (rfl)
theorem turn_ok (gl : Nat → Obj) (x n : Int) (hn : 0 ≤ n) : SpecV (cx gl) 79 [.int .u32 x, .int .u64 n] noPre (.int .u32 (turnI x n)) := by
  refine Spec.enter (C := cx gl) Tryd.func79 rfl 13 rfl rfl fun w0 h0 hsep hsub hpre => ?_
  obtain rfl : h0 = Heap.none := hsep
  show St (cx gl) _ [(0, .int .u32 x), (1, .int .u64 n)] _ _
  refine R_seq ?_
  refine R_region ?_
  refine L_val rfl rfl rfl (OpP.v (P_assign rfl rfl)) ?_
  refine L_nil ?_
  refine Q_then ?_
  refine R_seq ?_
  refine R_region ?_
  refine L_val rfl rfl rfl (OpP.v (P_move rfl rfl)) ?_
  refine L_val rfl rfl rfl (OpP.v (P_move rfl rfl)) ?_
  refine L_val rfl rfl rfl (OpP.v (P_shr rfl rfl rfl (hn))) ?_
  refine L_val rfl rfl rfl (OpP.v (P_move rfl rfl)) ?_
  refine L_val rfl rfl rfl (OpP.v (P_move rfl rfl)) ?_
  refine L_val rfl rfl rfl (OpP.v (P_sub rfl rfl rfl)) ?_
  refine L_val rfl rfl rfl (OpP.v (P_shl rfl rfl rfl (wrap_nn rfl _))) ?_
  refine L_val rfl rfl rfl (OpP.v (P_bit (op := .or) rfl rfl rfl rfl)) ?_
  refine L_val rfl rfl rfl (OpP.v (P_assign rfl rfl)) ?_
  refine L_nil ?_
  refine St.env (.cons (t := 4) rfl .nil) ?_
  refine Q_then ?_
  refine R_ret ?_
  exact R_endV rfl rfl (.tmp rfl .nil) (rfl)
end Go.Proofs.YtnaadddnbfnahaaDoor
