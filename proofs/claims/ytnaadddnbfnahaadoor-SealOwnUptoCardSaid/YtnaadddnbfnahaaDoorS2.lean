/- A registry: New, Known, Count. Printed by gen.py. -/
import Derived.Test.YtnaadddnbfnahaaDoorS1
set_option linter.unusedVariables false
set_option linter.unusedSimpArgs false
set_option maxRecDepth 100000
namespace Go.Proofs.YtnaadddnbfnahaaDoor
open Go Go.RowKit Go.Proofs
theorem snew_ok {gl : Nat → Obj} : Spec (cx gl) 15 [] (fun _ _ => True) [] (fun v rs => ∃ p, v = .pointer (some ⟨p, 0, none⟩) ∧ rs = [REG p [] []]) := by
  refine Spec.enter (C := cx gl) Tryd.func15 rfl 6 rfl rfl fun w0 h0 hsep hsub hpre => ?_
  obtain rfl : h0 = Heap.none := hsep
  show St (cx gl) _ [] _ _
  refine R_seq ?_
  refine R_region ?_
  refine L_val rfl rfl rfl (OpP.v (P_assign rfl rfl)) ?_
  refine L_nil ?_
  refine Q_then ?_
  refine R_seq ?_
  refine R_region ?_
  refine L_op rfl (W_makeMapK (kU64) rfl rfl rfl fun m1 => ?_)
  refine L_op rfl (W_makeMapK (recK) rfl rfl rfl fun m2 => ?_)
  refine L_op rfl (W_makeMapK (kU64) rfl rfl rfl fun m3 => ?_)
  refine L_val rfl rfl rfl (OpP.v (P_buildStruct rfl ty_pl_97 ty_ze_97 rfl rfl (rfl))) ?_
  refine L_op rfl (W_box (_) rfl rfl rfl rfl rfl fun b5 => ?_)
  refine L_val rfl rfl rfl (OpP.v (P_assign rfl rfl)) ?_
  refine L_nil ?_
  refine St.env (.cons (t := 0) rfl .nil) ?_
  refine Q_then ?_
  refine R_ret ?_
  refine St.res (rs' := [blk b5 [.int .i32 0, .int .u32 0, .map (some m1), .map (some m2), .map (some m3)] 97, mapK kU64 m1 (sgM []), mapK recK m2 (rcM []), mapK kU64 m3 (sdM []), fam (sgH b5) [], fam sdH []]) ((Weak.keep (Weak.p2 (Weak.p1 (Weak.keep (Weak.famNil.trans (Weak.keep Weak.famNil))))))) ?_
  exact R_end (rs2 := _) rfl rfl (.tmp rfl .nil) (⟨b5, rfl, rfl⟩) (reg_close (rs := []) ⟨fun _ h => (by cases h), fun a => rfl⟩)
theorem missing_ok {gl : Nat → Obj} (p : Nat) (mu x m2 m3 : Value) (m : Option Nat) : SpecR (cx gl) 39 [.pointer (some ⟨p, 0, none⟩)] (fun _ _ => True) [blk p [mu, x, .map m, m2, m3] 97] (.bool m.isNone) [blk p [mu, x, .map m, m2, m3] 97] := by
  refine Spec.enter (C := cx gl) Tryd.func39 rfl 12 rfl rfl fun w0 h0 hsep hsub hpre => ?_
  show St (cx gl) _ [(0, .pointer (some ⟨p, 0, none⟩))] _ _
  refine R_seq ?_
  refine R_region ?_
  refine L_val rfl rfl rfl (OpP.v (P_assign rfl rfl)) ?_
  refine L_nil ?_
  refine Q_then ?_
  refine R_seq ?_
  refine R_region ?_
  refine L_val rfl rfl rfl (OpP.v (P_move rfl rfl)) ?_
  refine L_val rfl rfl rfl (OpP.v (P_eqNil rfl ty_ptr_25 rfl rfl)) ?_
  refine L_val rfl rfl rfl (OpP.v (P_move rfl rfl)) ?_
  refine L_val rfl rfl rfl (OpP.v (P_move rfl rfl)) ?_
  refine L_val rfl rfl rfl (OpP.v (P_nil rfl rfl)) ?_
  refine L_val rfl rfl rfl (OpP.v (P_fld0 rfl ty_fl_97_1 rfl)) ?_
  refine L_val rfl rfl rfl (V_load rfl rfl ty_sc_93 (by first | exact Rd.blk .h0 rfl | exact Rd.blk .h1 rfl | exact Rd.blk .h2 rfl | exact Rd.blk .h3 rfl | exact Rd.blk .h4 rfl | exact Rd.blk .h5 rfl | exact Rd.blk .h6 rfl | exact Rd.blk .h7 rfl)) ?_
  refine L_val rfl rfl rfl (OpP.v (P_eqlMap rfl ty_map_93 rfl rfl)) ?_
  refine L_val rfl rfl rfl (OpP.v (P_pick rfl rfl rfl)) ?_
  refine L_val rfl rfl rfl (OpP.v (P_assign rfl rfl)) ?_
  refine L_nil ?_
  refine St.env (.cons (t := 2) rfl .nil) ?_
  refine Q_then ?_
  refine R_ret ?_
  exact R_end (rs2 := _) rfl rfl (.tmp rfl .nil) (⟨rfl, rfl⟩) (Weak.refl _)
theorem known_ok {gl : Nat → Obj} (p : Nat) (sg : List (Int × Nat)) (rc : List Rcd) (a : Int) : SpecR (cx gl) 24 [.pointer (some ⟨p, 0, none⟩), .int .u64 a] (fun _ _ => True) [REG p sg rc] (.bool (isIn sg a)) [REG p sg rc] := by
  refine Spec.enterX (C := cx gl) Tryd.func24 rfl 21 rfl rfl fun w0 h0 hsep hsub hpre => ?_
  show St (cx gl) _ [(0, .pointer (some ⟨p, 0, none⟩)), (1, .int .u64 a)] _ _
  refine St.openP (p := []) (fun ⟨m1, m2, m3, sd⟩ hreg => ?_)
  refine St.unbundle [] ?_
  refine R_seq ?_
  refine R_region ?_
  refine L_val rfl rfl rfl (OpP.v (P_assign rfl rfl)) ?_
  refine L_nil ?_
  refine Q_then ?_
  refine R_seq ?_
  refine R_seq ?_
  refine R_region ?_
  refine L_val rfl rfl rfl (OpP.v (P_move rfl rfl)) ?_
  refine L_op rfl (W_callR rfl rfl rfl rfl fn_ca_39 (missing_ok p (.int .i32 0) (.int .u32 0) (.map (some m2)) (.map (some m3)) (some m1)) (Split.one (p := [])) (fun _ _ _ _ _ _ _ => trivial) ?_)
  refine St.res (rs' := [blk p [.int .i32 0, .int .u32 0, .map (some m1), .map (some m2), .map (some m3)] 97, mapK kU64 m1 (sgM sg), mapK recK m2 (rcM rc), mapK kU64 m3 (sdM sd), fam (sgH p) sg, fam sdH sd]) (Weak.refl _) ?_
  refine E_false (t := 6) rfl (rfl) ?_
  refine L_nil ?_
  refine St.env (.cons (t := 0) rfl (.cons (t := 1) rfl (.cons (t := 4) rfl (.cons (t := 6) rfl .nil)))) ?_
  refine Q_then ?_
  refine R_condF rfl ?_
  refine R_skip ?_
  refine Q_then ?_
  refine R_seq ?_
  refine R_region ?_
  refine L_val rfl rfl rfl (OpP.v (P_move rfl rfl)) ?_
  refine L_val rfl rfl rfl (OpP.v (P_nil rfl rfl)) ?_
  refine L_val rfl rfl rfl (OpP.v (P_fld0 rfl ty_fl_97_0 rfl)) ?_
  refine L_op rfl (W_callR rfl rfl rfl rfl fn_ca_40 (lock_ok p 97 [.int .u32 0, .map (some m1), .map (some m2), .map (some m3)]) (Split.one (p := [])) (fun _ _ _ _ _ _ _ => trivial) ?_)
  refine St.res (rs' := [blk p [.int .i32 1, .int .u32 0, .map (some m1), .map (some m2), .map (some m3)] 97, mapK kU64 m1 (sgM sg), mapK recK m2 (rcM rc), mapK kU64 m3 (sdM sd), fam (sgH p) sg, fam sdH sd]) (Weak.refl _) ?_
  refine L_nil ?_
  refine St.env (.cons (t := 0) rfl (.cons (t := 1) rfl (.cons (t := 4) rfl .nil))) ?_
  refine Q_then ?_
  refine R_seq ?_
  refine R_region ?_
  refine L_val rfl rfl rfl (OpP.v (P_move rfl rfl)) ?_
  refine L_val rfl rfl rfl (OpP.v (P_nil rfl rfl)) ?_
  refine L_val rfl rfl rfl (OpP.v (P_fld0 rfl ty_fl_97_0 rfl)) ?_
  refine L_op rfl (W_defer rfl rfl rfl ?_)
  refine L_nil ?_
  refine St.env (.cons (t := 0) rfl (.cons (t := 1) rfl (.cons (t := 4) rfl .nil))) ?_
  refine Q_then ?_
  refine R_seq ?_
  refine R_region ?_
  refine L_val rfl rfl rfl (OpP.v (P_move rfl rfl)) ?_
  refine L_val rfl rfl rfl (OpP.v (P_nil rfl rfl)) ?_
  refine L_val rfl rfl rfl (OpP.v (P_fld0 rfl ty_fl_97_1 rfl)) ?_
  refine L_val rfl rfl rfl (V_load rfl rfl ty_sc_93 (by first | exact Rd.blk .h0 rfl | exact Rd.blk .h1 rfl | exact Rd.blk .h2 rfl | exact Rd.blk .h3 rfl | exact Rd.blk .h4 rfl | exact Rd.blk .h5 rfl | exact Rd.blk .h6 rfl | exact Rd.blk .h7 rfl)) ?_
  refine L_val rfl rfl rfl (OpP.v (P_move rfl rfl)) ?_
  refine L_val rfl rfl rfl (V_lookupK rfl ty_map_93 (keyU64 ty_int_23) rfl rfl (trivial) (fun _ _ => trivial) .h1 (run_zeroValue_of ty_zv_27)) ?_
  refine E_as (t := 19) (v' := .pointer (sgP sg a)) rfl (look_sg sg a) ?_
  refine L_val rfl rfl rfl (OpP.v (P_neP rfl ty_ptr_27 rfl rfl)) ?_
  refine E_as (t := 20) (v' := .bool (isIn sg a)) rfl (by simp [isIn]) ?_
  refine L_val rfl rfl rfl (OpP.v (P_assign rfl rfl)) ?_
  refine L_nil ?_
  refine St.env (.cons (t := 4) rfl .nil) ?_
  refine Q_then ?_
  refine R_ret ?_
  exact R_endX (rs2 := [REG p sg rc]) rfl fn_ca_41 (unlockD_ok p 97 [.int .u32 0, .map (some m1), .map (some m2), .map (some m3)]) (Split.one (p := [])) (fun _ _ _ _ _ _ _ => trivial) rfl (.tmp rfl .nil) (⟨rfl, rfl⟩) (reg_close (rs := []) hreg)
theorem count_ok {gl : Nat → Obj} (p : Nat) (sg : List (Int × Nat)) (rc : List Rcd) : SpecR (cx gl) 23 [.pointer (some ⟨p, 0, none⟩)] (fun _ _ => True) [REG p sg rc] (.int .i64 (rc.length : Int)) [REG p sg rc] := by
  refine Spec.enterX (C := cx gl) Tryd.func23 rfl 17 rfl rfl fun w0 h0 hsep hsub hpre => ?_
  show St (cx gl) _ [(0, .pointer (some ⟨p, 0, none⟩))] _ _
  refine St.openP (p := []) (fun ⟨m1, m2, m3, sd⟩ hreg => ?_)
  refine St.unbundle [] ?_
  refine R_seq ?_
  refine R_region ?_
  refine L_val rfl rfl rfl (OpP.v (P_assign rfl rfl)) ?_
  refine L_nil ?_
  refine Q_then ?_
  refine R_seq ?_
  refine R_seq ?_
  refine R_region ?_
  refine L_val rfl rfl rfl (OpP.v (P_move rfl rfl)) ?_
  refine L_op rfl (W_callR rfl rfl rfl rfl fn_ca_39 (missing_ok p (.int .i32 0) (.int .u32 0) (.map (some m2)) (.map (some m3)) (some m1)) (Split.one (p := [])) (fun _ _ _ _ _ _ _ => trivial) ?_)
  refine St.res (rs' := [blk p [.int .i32 0, .int .u32 0, .map (some m1), .map (some m2), .map (some m3)] 97, mapK kU64 m1 (sgM sg), mapK recK m2 (rcM rc), mapK kU64 m3 (sdM sd), fam (sgH p) sg, fam sdH sd]) (Weak.refl _) ?_
  refine E_false (t := 4) rfl (rfl) ?_
  refine L_nil ?_
  refine St.env (.cons (t := 0) rfl (.cons (t := 2) rfl (.cons (t := 4) rfl .nil))) ?_
  refine Q_then ?_
  refine R_condF rfl ?_
  refine R_skip ?_
  refine Q_then ?_
  refine R_seq ?_
  refine R_region ?_
  refine L_val rfl rfl rfl (OpP.v (P_move rfl rfl)) ?_
  refine L_val rfl rfl rfl (OpP.v (P_nil rfl rfl)) ?_
  refine L_val rfl rfl rfl (OpP.v (P_fld0 rfl ty_fl_97_0 rfl)) ?_
  refine L_op rfl (W_callR rfl rfl rfl rfl fn_ca_40 (lock_ok p 97 [.int .u32 0, .map (some m1), .map (some m2), .map (some m3)]) (Split.one (p := [])) (fun _ _ _ _ _ _ _ => trivial) ?_)
  refine St.res (rs' := [blk p [.int .i32 1, .int .u32 0, .map (some m1), .map (some m2), .map (some m3)] 97, mapK kU64 m1 (sgM sg), mapK recK m2 (rcM rc), mapK kU64 m3 (sdM sd), fam (sgH p) sg, fam sdH sd]) (Weak.refl _) ?_
  refine L_nil ?_
  refine St.env (.cons (t := 0) rfl (.cons (t := 2) rfl .nil)) ?_
  refine Q_then ?_
  refine R_seq ?_
  refine R_region ?_
  refine L_val rfl rfl rfl (OpP.v (P_move rfl rfl)) ?_
  refine L_val rfl rfl rfl (OpP.v (P_nil rfl rfl)) ?_
  refine L_val rfl rfl rfl (OpP.v (P_fld0 rfl ty_fl_97_0 rfl)) ?_
  refine L_op rfl (W_defer rfl rfl rfl ?_)
  refine L_nil ?_
  refine St.env (.cons (t := 0) rfl (.cons (t := 2) rfl .nil)) ?_
  refine Q_then ?_
  refine R_seq ?_
  refine R_region ?_
  refine L_val rfl rfl rfl (OpP.v (P_move rfl rfl)) ?_
  refine L_val rfl rfl rfl (OpP.v (P_nil rfl rfl)) ?_
  refine L_val rfl rfl rfl (OpP.v (P_fld0 rfl ty_fl_97_2 rfl)) ?_
  refine L_val rfl rfl rfl (V_load rfl rfl ty_sc_94 (by first | exact Rd.blk .h0 rfl | exact Rd.blk .h1 rfl | exact Rd.blk .h2 rfl | exact Rd.blk .h3 rfl | exact Rd.blk .h4 rfl | exact Rd.blk .h5 rfl | exact Rd.blk .h6 rfl | exact Rd.blk .h7 rfl)) ?_
  refine L_val rfl rfl rfl (V_lenMapK rfl ty_map_94 rfl .h2) ?_
  refine E_as (t := 16) (v' := .int .i64 (rc.length : Int)) rfl (by simp [rcM]) ?_
  refine L_val rfl rfl rfl (OpP.v (P_assign rfl rfl)) ?_
  refine L_nil ?_
  refine St.env (.cons (t := 2) rfl .nil) ?_
  refine Q_then ?_
  refine R_ret ?_
  exact R_endX (rs2 := [REG p sg rc]) rfl fn_ca_41 (unlockD_ok p 97 [.int .u32 0, .map (some m1), .map (some m2), .map (some m3)]) (Split.one (p := [])) (fun _ _ _ _ _ _ _ => trivial) rfl (.tmp rfl .nil) (⟨rfl, rfl⟩) (reg_close (rs := []) hreg)
end Go.Proofs.YtnaadddnbfnahaaDoor
