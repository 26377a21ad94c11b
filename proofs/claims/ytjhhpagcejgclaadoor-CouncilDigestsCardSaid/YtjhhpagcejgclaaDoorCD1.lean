/- Walks: word, Items. Printed by gen.py. -/
import Derived.Test.YtjhhpagcejgclaaDoorD13
import Derived.Test.YtjhhpagcejgclaaDoorCAl
import Derived.Test.YtjhhpagcejgclaaDoorEngM
set_option linter.unusedVariables false
set_option linter.unusedSimpArgs false
set_option maxRecDepth 100000
namespace Go.Proofs.YtjhhpagcejgclaaDoor
open Go Go.RowKit Go.Proofs
def w8 (x : Int) (i : Nat) : Int := IntKind.u8.wrap (shrI .u64 x (8 * (i : Int)))
def word8 (x : Int) (n : Nat) : List Int := (List.range n).map (w8 x)
theorem word8_succ (x : Int) (n : Nat) : word8 x (n + 1) = word8 x n ++ [w8 x n] := by simp [word8, List.range_succ]
theorem word8_length (x : Int) (n : Nat) : (word8 x n).length = n := by simp [word8]
def itemB (m : Mem) : List Int := word8 m.a 8 ++ word8 m.p 8
theorem itemB_length (m : Mem) : (itemB m).length = 16 := by simp [itemB, word8]
/-- Bytes of the call's own. -/
structure Ob where
  b : Option Addr
  c : Nat
  xs : List Int
def Ob.val (u : Ob) : Value := .slice u.b u.xs.length u.c
def Ob.own (u : Ob) : HP := ownS 5 1 u.val u.xs.length (ints .u8 u.xs)
theorem word_ok {gl : Nat → Obj} (v0 : Value) (n : Nat) (xs : List Int) (x : Int) (hn : n ≤ 1024) : Spec (cx gl) 32 [v0, .int .u64 x] (fun _ _ => True) [ownS 5 1 (v0) (n) (ints .u8 (xs))] (fun v rs => rs = [ownS 5 1 (v) (n + 8) (ints .u8 (xs ++ word8 x 8))]) := by
  refine Spec.enter (C := cx gl) Tryd.func32 rfl 20 rfl rfl fun w0 h0 hsep hsub hpre => ?_
  show St (cx gl) _ [(0, v0), (1, .int .u64 x)] _ _
  refine R_seq ?_
  refine R_region ?_
  refine L_val rfl rfl rfl (OpP.v (P_assign rfl rfl)) ?_
  refine L_nil ?_
  refine Q_then ?_
  refine R_seq ?_
  refine R_seq ?_
  refine R_region ?_
  refine L_val rfl rfl rfl (OpP.v (P_assign rfl rfl)) ?_
  refine L_nil ?_
  refine Q_then ?_
  refine R_block ?_
  refine R_loopE (G := Nat × Value) (.cons (t := 1) rfl (.cons (t := 4) rfl .nil)) (fun g => [(0, g.2), (5, .int .i64 (g.1 : Int))]) (fun g => [ownS 5 1 (g.2) (n + g.1) (ints .u8 (xs ++ word8 x g.1))]) (fun g => g.1 ≤ 8) (fun g => 8 - g.1) (0, v0) (Nat.zero_le _) (by repeat (first | exact .nil | refine .cons rfl ?_ | refine .consE rfl (by first | rfl | (congr 1; omega) | (congr 1; push_cast; omega)) ?_)) (ownS.to1 rfl (by simp [word8])) ?_
  rintro ⟨i, v⟩ hinv
  replace hinv : i ≤ 8 := hinv
  show St (cx gl) _ ((0, v) :: (5, .int .i64 (i : Int)) :: _) [ownS 5 1 (v) (n + i) (ints .u8 (xs ++ word8 x i))] _
  refine R_seq ?_
  refine R_seq ?_
  refine R_region ?_
  refine L_val rfl rfl rfl (OpP.v (P_move rfl rfl)) ?_
  refine L_val rfl rfl rfl (OpP.v (P_lss rfl rfl rfl)) ?_
  refine L_nil ?_
  refine Q_then ?_
  refine R_condP rfl (fun hlt => ?_) (fun hlt => ?_)
  · skip
    refine R_skip ?_
    refine Q_then ?_
    refine R_seq ?_
    refine R_block ?_
    refine R_region ?_
    refine L_val rfl rfl rfl (OpP.v (P_move rfl rfl)) ?_
    refine L_val rfl rfl rfl (OpP.v (P_move rfl rfl)) ?_
    refine L_val rfl rfl rfl (OpP.v (P_move rfl rfl)) ?_
    refine L_val rfl rfl rfl (OpP.v (P_mulN rfl rfl rfl (by simp only [fits]; omega))) ?_
    refine L_val rfl rfl rfl (OpP.v (P_convN rfl ty_int_3 ty_int_91 rfl (by simp only [fits]; omega))) ?_
    refine L_val rfl rfl rfl (OpP.v (P_shr rfl rfl rfl (by omega))) ?_
    refine L_val rfl rfl rfl (OpP.v (P_conv rfl ty_int_34 ty_int_5 rfl)) ?_
    refine E_as (t := 16) (v' := .int .u8 (w8 x i)) rfl (rfl) ?_
    refine L_op rfl (W_lit (z := .nilIface) ([.int .u8 (w8 x i)]) rfl rfl rfl ty_sl_46 ty_lz_46 rfl rfl rfl (by decide) (by decide) (by simp [Value.cells]) (rfl) fun b17 => ?_)
    refine L_op rfl (W_append (p := [_]) rfl rfl rfl ty_sl_46 ty_ap_46 ty_src_46 rfl rfl rfl (Src.slice (sz := 1) (m := 1) (news := [.int .u8 (w8 x i)]) (Rds.blk .h0) rfl (by intro v hv; simp only [List.mem_singleton] at hv; subst hv; rfl)) (by omega) (by simp only [maxLen]; omega) fun v18 => ?_)
    refine L_val rfl rfl rfl (OpP.v (P_assign rfl rfl)) ?_
    refine L_nil ?_
    refine Q_block ?_
    refine Q_then ?_
    refine R_region ?_
    refine L_val rfl rfl rfl (OpP.v (P_move rfl rfl)) ?_
    first | (refine L_val rfl rfl rfl (OpP.v (P_addN rfl rfl rfl (by simp only [fits]; omega))) ?_) | (refine L_val rfl rfl rfl (OpP.v (P_add rfl rfl rfl)) ?_)
    refine L_val rfl rfl rfl (OpP.v (P_assign rfl rfl)) ?_
    refine L_nil ?_
    exact Q_round (i + 1, v18) (by omega) (by show 8 - (i + 1) < 8 - i; omega) (by repeat (first | exact .nil | refine .cons rfl ?_ | refine .consE rfl (by first | rfl | (congr 1; omega) | (congr 1; push_cast; omega)) ?_)) (Weak.drop (ownS.to1 rfl (by rw [word8_succ, ← List.append_assoc]; simp [ints])))
  · skip
    obtain rfl : i = 8 := by omega
    refine R_exit ?_
    refine Q_then_exit ?_
    refine Q_then_exit ?_
    refine Q_block_eq ?_
    refine St.env (.cons (t := 0) rfl (.cons (t := 4) rfl .nil)) ?_
    refine Q_then ?_
    refine R_seq ?_
    refine R_region ?_
    refine L_val rfl rfl rfl (OpP.v (P_move rfl rfl)) ?_
    refine L_val rfl rfl rfl (OpP.v (P_assign rfl rfl)) ?_
    refine L_nil ?_
    refine St.env (.cons (t := 4) rfl .nil) ?_
    refine Q_then ?_
    refine R_ret ?_
    exact R_end (rs2 := _) rfl rfl (.tmp rfl .nil) (rfl) (Weak.refl _)
end Go.Proofs.YtjhhpagcejgclaaDoor
