/- The mutex. Printed by gen.py. -/
import Derived.Test.YtnaadddnbfnahaaDoorS0
set_option linter.unusedVariables false
set_option linter.unusedSimpArgs false
set_option maxRecDepth 100000
namespace Go.Proofs.YtnaadddnbfnahaaDoor
open Go Go.RowKit Go.Proofs
theorem ilock_ok {gl : Nat → Obj} (p T : Nat) (cs : List Value) : SpecR (cx gl) 56 [.pointer (some ⟨p, 0, none⟩)] (fun _ _ => True) [blk p (.int .i32 0 :: cs) T] (.tuple #[]) [blk p (.int .i32 1 :: cs) T] := by
  refine Spec.enter (C := cx gl) Tryd.func56 rfl 13 rfl rfl fun w0 h0 hsep hsub hpre => ?_
  show St (cx gl) _ [(0, .pointer (some ⟨p, 0, none⟩))] _ _
  refine R_seq ?_
  refine R_region ?_
  refine L_val rfl rfl rfl (OpP.v (P_ext rfl rfl (disable_run))) ?_
  refine L_nil ?_
  refine St.env (.cons (t := 0) rfl .nil) ?_
  refine Q_then ?_
  refine R_seq ?_
  refine R_seq ?_
  refine R_region ?_
  refine L_val rfl rfl rfl (OpP.v (P_move rfl rfl)) ?_
  refine L_val rfl rfl rfl (OpP.v (P_nil rfl rfl)) ?_
  refine L_val rfl rfl rfl (OpP.v (P_fld0 rfl ty_fl_90_0 rfl)) ?_
  refine L_op rfl (W_extSet (j := 0) rfl rfl rfl rfl rfl (fun w hc hz => cas_run hc hz) .h0 ?_)
  refine E_true (t := 6) rfl (rfl) ?_
  refine L_nil ?_
  refine St.env (.cons (t := 0) rfl (.cons (t := 6) rfl .nil)) ?_
  refine Q_then ?_
  refine R_condT rfl ?_
  refine R_seq ?_
  refine R_condT rfl ?_
  refine R_seq ?_
  refine R_region ?_
  refine L_val rfl rfl rfl (OpP.v (P_ext rfl rfl (enable_run))) ?_
  refine L_nil ?_
  refine St.env (.cons (t := 0) rfl .nil) ?_
  refine Q_then ?_
  refine R_region ?_
  refine L_val rfl rfl rfl (OpP.v (P_move rfl rfl)) ?_
  refine L_val rfl rfl rfl (V_toUnsafe rfl ty_ptr_136 und_uns sz_mu rfl .h0 rfl) ?_
  refine L_val rfl rfl rfl (OpP.v (P_ext rfl rfl (acquire_run _))) ?_
  refine L_nil ?_
  refine St.env (.cons (t := 0) rfl .nil) ?_
  refine Q_then ?_
  refine R_ret ?_
  refine Q_then_ret ?_
  exact R_end (rs2 := _) rfl rfl (.nil) (⟨rfl, rfl⟩) (Weak.refl _)
theorem iunlock_ok {gl : Nat → Obj} (p T : Nat) (cs : List Value) : SpecR (cx gl) 57 [.pointer (some ⟨p, 0, none⟩)] (fun _ _ => True) [blk p (.int .i32 1 :: cs) T] (.tuple #[]) [blk p (.int .i32 0 :: cs) T] := by
  refine Spec.enter (C := cx gl) Tryd.func57 rfl 21 rfl rfl fun w0 h0 hsep hsub hpre => ?_
  show St (cx gl) _ [(0, .pointer (some ⟨p, 0, none⟩))] _ _
  refine R_seq ?_
  refine R_condT rfl ?_
  refine R_seq ?_
  refine R_region ?_
  refine L_val rfl rfl rfl (OpP.v (P_move rfl rfl)) ?_
  refine L_val rfl rfl rfl (OpP.v (P_nil rfl rfl)) ?_
  refine L_val rfl rfl rfl (OpP.v (P_fld0 rfl ty_fl_90_0 rfl)) ?_
  refine L_val rfl rfl rfl (V_load rfl rfl ty_sc_21 (by first | exact Rd.blk .h0 rfl | exact Rd.blk .h1 rfl | exact Rd.blk .h2 rfl | exact Rd.blk .h3 rfl | exact Rd.blk .h4 rfl | exact Rd.blk .h5 rfl | exact Rd.blk .h6 rfl | exact Rd.blk .h7 rfl)) ?_
  refine L_nil ?_
  refine St.env (.cons (t := 0) rfl .nil) ?_
  refine Q_then ?_
  refine R_seq ?_
  refine R_region ?_
  refine L_val rfl rfl rfl (OpP.v (P_move rfl rfl)) ?_
  refine L_val rfl rfl rfl (V_toUnsafe rfl ty_ptr_136 und_uns sz_mu rfl .h0 rfl) ?_
  refine L_val rfl rfl rfl (OpP.v (P_ext rfl rfl (relMerge_run _))) ?_
  refine L_nil ?_
  refine St.env (.cons (t := 0) rfl .nil) ?_
  refine Q_then ?_
  refine R_region ?_
  refine L_val rfl rfl rfl (OpP.v (P_ext rfl rfl (disable_run))) ?_
  refine L_nil ?_
  refine St.env (.cons (t := 0) rfl .nil) ?_
  refine Q_then ?_
  refine R_seq ?_
  refine R_region ?_
  refine L_val rfl rfl rfl (OpP.v (P_move rfl rfl)) ?_
  refine L_val rfl rfl rfl (OpP.v (P_nil rfl rfl)) ?_
  refine L_val rfl rfl rfl (OpP.v (P_fld0 rfl ty_fl_90_0 rfl)) ?_
  refine L_op rfl (W_extSet (j := 0) rfl rfl rfl rfl rfl (fun w hc hz => add_run hc hz) .h0 ?_)
  refine L_val rfl rfl rfl (OpP.v (P_assign rfl rfl)) ?_
  refine L_nil ?_
  refine St.env (.cons (t := 0) rfl (.cons (t := 2) rfl .nil)) ?_
  refine Q_then ?_
  refine R_seq ?_
  refine R_seq ?_
  refine R_region ?_
  refine L_val rfl rfl rfl (OpP.v (P_move rfl rfl)) ?_
  refine L_val rfl rfl rfl (OpP.v (P_neq rfl rfl rfl)) ?_
  refine E_false (t := 16) rfl (rfl) ?_
  refine L_nil ?_
  refine St.env (.cons (t := 0) rfl (.cons (t := 2) rfl (.cons (t := 16) rfl .nil))) ?_
  refine Q_then ?_
  refine R_condF rfl ?_
  refine R_skip ?_
  refine Q_then ?_
  refine R_region ?_
  refine L_val rfl rfl rfl (OpP.v (P_ext rfl rfl (enable_run))) ?_
  refine L_nil ?_
  refine St.env (.nil) ?_
  exact R_end0 (rs2 := _) rfl rfl (.nil) (⟨rfl, rfl⟩) (Weak.refl _)
theorem lock_ok {gl : Nat → Obj} (p T : Nat) (cs : List Value) : SpecR (cx gl) 40 [.pointer (some ⟨p, 0, none⟩)] (fun _ _ => True) [blk p (.int .i32 0 :: cs) T] (.tuple #[]) [blk p (.int .i32 1 :: cs) T] := by
  refine Spec.enter (C := cx gl) Tryd.func40 rfl 6 rfl rfl fun w0 h0 hsep hsub hpre => ?_
  show St (cx gl) _ [(0, .pointer (some ⟨p, 0, none⟩))] _ _
  refine R_region ?_
  refine L_val rfl rfl rfl (OpP.v (P_move rfl rfl)) ?_
  refine L_val rfl rfl rfl (OpP.v (P_nil rfl rfl)) ?_
  refine L_val rfl rfl rfl (OpP.v (P_fld0 rfl ty_fl_92_1 rfl)) ?_
  refine L_op rfl (W_callR rfl rfl rfl rfl fn_ca_56 (ilock_ok p T cs) (Split.one (p := [])) (fun _ _ _ _ _ _ _ => trivial) ?_)
  refine L_nil ?_
  refine St.env (.nil) ?_
  exact R_end0 (rs2 := _) rfl rfl (.nil) (⟨rfl, rfl⟩) (Weak.refl _)
theorem unlockD_ok {gl : Nat → Obj} (p T : Nat) (cs : List Value) : SpecD (cx gl) 41 [.pointer (some ⟨p, 0, none⟩)] (fun _ _ => True) [blk p (.int .i32 1 :: cs) T] [blk p (.int .i32 0 :: cs) T] := by
  refine SpecD.enter (post := fun _ rs => rs = [blk p (.int .i32 0 :: cs) T]) (fun _ _ h => h) (C := cx gl) Tryd.func41 rfl 6 rfl rfl fun w0 h0 hsep hsub hpre => ?_
  show St (cx gl) _ [(0, .pointer (some ⟨p, 0, none⟩))] _ _
  refine R_region ?_
  refine L_val rfl rfl rfl (OpP.v (P_move rfl rfl)) ?_
  refine L_val rfl rfl rfl (OpP.v (P_nil rfl rfl)) ?_
  refine L_val rfl rfl rfl (OpP.v (P_fld0 rfl ty_fl_92_1 rfl)) ?_
  refine L_op rfl (W_callR rfl rfl rfl rfl fn_ca_57 (iunlock_ok p T cs) (Split.one (p := [])) (fun _ _ _ _ _ _ _ => trivial) ?_)
  refine L_nil ?_
  refine St.env (.nil) ?_
  exact R_end0 (rs2 := _) rfl rfl (.nil) (rfl) (Weak.refl _)
end Go.Proofs.YtnaadddnbfnahaaDoor
