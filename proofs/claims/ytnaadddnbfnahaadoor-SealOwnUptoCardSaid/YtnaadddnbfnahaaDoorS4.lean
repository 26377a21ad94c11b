/- A registry: Enter, Addr. Printed by gen.py. -/
import Derived.Test.YtnaadddnbfnahaaDoorS3
set_option linter.unusedVariables false
set_option linter.unusedSimpArgs false
set_option maxRecDepth 100000
namespace Go.Proofs.YtnaadddnbfnahaaDoor
open Go Go.RowKit Go.Proofs
theorem sgP_none {sg : List (Int × Nat)} {a : Int} (h : isIn sg a = false) : sgP sg a = none := by
  unfold isIn at h
  cases e : sgP sg a with
  | none => rfl
  | some _ => rw [e] at h; cases h
theorem set_sg {sg : List (Int × Nat)} {a : Int} (b : Nat) (h : isIn sg a = false) : setK a (.pointer (some ⟨b, 0, none⟩)) (sgM sg) = sgM (sg ++ [(a, b)]) := by
  have h1 := look_sg sg a
  rw [sgP_none h] at h1
  have h2 : findK a (sgM sg) 0 = none := by
    cases e : findK a (sgM sg) 0 with
    | none => rfl
    | some p =>
      obtain ⟨i, v⟩ := p
      have hf := findK_map (fun x : Int × Nat => x.1) (fun x => Value.pointer (some ⟨x.2, 0, none⟩)) a sg 0
      have hs : (sgP sg a) = none := sgP_none h
      unfold sgP at hs
      have hs2 : sg.find? (fun x => decide (x.1 = a)) = none := by
        cases e2 : sg.find? (fun x => decide (x.1 = a)) with
        | none => rfl
        | some y => rw [e2] at hs; cases hs
      rw [hs2] at hf
      have e : findK a (sg.map fun x => (x.1, Value.pointer (some ⟨x.2, 0, none⟩))) 0 = some (i, v) := e
      rw [e] at hf; cases hf
  unfold setK
  rw [h2]
  simp [sgM]
section
variable {C : Cx} {F : Fx} {rs : List HP}
theorem rd_sg {p i : Nat} {a : Int} {s : Nat} {sg : List (Int × Nat)} (m : Has rs (fam (sgH p) sg) (fam (sgH p) sg) rs) (hi : sg[i]? = some (a, s)) : Rd C F rs ⟨s, 0, none⟩ (.pointer (some ⟨p, 0, none⟩)) ∧ Rd C F rs ⟨s, 1, none⟩ (.int .u64 a) := by
  have h : Sn C F rs (some ⟨s, 0, none⟩) [.pointer (some ⟨p, 0, none⟩), .int .u64 a] := Sn.fam m hi fun rs m => Sn.ofBlk m
  have key : ∀ (j : Nat) (u : Value), [Value.pointer (some ⟨p, 0, none⟩), .int .u64 a][j]? = some u → Rd C F rs ⟨s, j, none⟩ u := fun j u hu w nw => by
    obtain ⟨ad, e, hc⟩ := h.rw_ w nw j u hu
    rw [Option.some.injEq] at e
    subst e
    rwa [add_zero_off, Nat.zero_add] at hc
  exact ⟨key 0 _ rfl, key 1 _ rfl⟩
end
theorem enter_zero {gl : Nat → Obj} (p : Nat) (sg : List (Int × Nat)) (rc : List Rcd) : SpecR (cx gl) 16 [.pointer (some ⟨p, 0, none⟩), .int .u64 0] (fun _ _ => True) [REG p sg rc] (.tuple #[.pointer none, .int .i64 2]) [REG p sg rc] := by
  refine Spec.enterX (C := cx gl) Tryd.func16 rfl 36 rfl rfl fun w0 h0 hsep hsub hpre => ?_
  show St (cx gl) _ [(0, .pointer (some ⟨p, 0, none⟩)), (1, .int .u64 0)] _ _
  refine St.openP (p := []) (fun ⟨m1, m2, m3, sd⟩ hreg => ?_)
  refine St.unbundle [] ?_
  refine R_seq ?_
  refine R_region ?_
  refine L_val rfl rfl rfl (OpP.v (P_assign rfl rfl)) ?_
  refine L_val rfl rfl rfl (OpP.v (P_assign rfl rfl)) ?_
  refine L_nil ?_
  refine Q_then ?_
  refine R_seq ?_
  refine R_seq ?_
  refine R_region ?_
  refine L_val rfl rfl rfl (OpP.v (P_move rfl rfl)) ?_
  refine L_op rfl (W_callR rfl rfl rfl rfl fn_ca_39 (missing_ok p (.int .i32 0) (.int .u32 0) (.map (some m2)) (.map (some m3)) (some m1)) (Split.one (p := [])) (fun _ _ _ _ _ _ _ => trivial) ?_)
  refine St.res (rs' := [blk p [.int .i32 0, .int .u32 0, .map (some m1), .map (some m2), .map (some m3)] 97, mapK kU64 m1 (sgM sg), mapK recK m2 (rcM rc), mapK kU64 m3 (sdM sd), fam (sgH p) sg, fam sdH sd]) (Weak.refl _) ?_
  refine E_false (t := 8) rfl (rfl) ?_
  refine L_nil ?_
  refine St.env (.cons (t := 0) rfl (.cons (t := 1) rfl (.cons (t := 4) rfl (.cons (t := 5) rfl (.cons (t := 8) rfl .nil))))) ?_
  refine Q_then ?_
  refine R_condF rfl ?_
  refine R_skip ?_
  refine Q_then ?_
  refine R_seq ?_
  refine R_seq ?_
  refine R_region ?_
  refine L_val rfl rfl rfl (OpP.v (P_move rfl rfl)) ?_
  refine L_val rfl rfl rfl (OpP.v (P_eql rfl rfl rfl)) ?_
  refine E_true (t := 10) rfl (rfl) ?_
  refine L_nil ?_
  refine St.env (.cons (t := 0) rfl (.cons (t := 1) rfl (.cons (t := 4) rfl (.cons (t := 5) rfl (.cons (t := 10) rfl .nil))))) ?_
  refine Q_then ?_
  refine R_condT rfl ?_
  refine R_seq ?_
  refine R_region ?_
  refine L_val rfl rfl rfl (OpP.v (P_assign rfl rfl)) ?_
  refine L_val rfl rfl rfl (OpP.v (P_assign rfl rfl)) ?_
  refine L_nil ?_
  refine St.env (.cons (t := 0) rfl (.cons (t := 1) rfl (.cons (t := 4) rfl (.cons (t := 5) rfl .nil)))) ?_
  refine Q_then ?_
  refine R_ret ?_
  refine Q_then_ret ?_
  exact R_endN (rs2 := [REG p (sg) (rc)]) rfl rfl (.tmp rfl (.tmp rfl .nil)) (⟨rfl, rfl⟩) (reg_close (rs := []) hreg)
theorem enter_twice {gl : Nat → Obj} (p : Nat) (sg : List (Int × Nat)) (rc : List Rcd) (a : Int) (ha : a ≠ 0) (hin : isIn sg a = true) : SpecR (cx gl) 16 [.pointer (some ⟨p, 0, none⟩), .int .u64 a] (fun _ _ => True) [REG p sg rc] (.tuple #[.pointer none, .int .i64 30]) [REG p sg rc] := by
  refine Spec.enterX (C := cx gl) Tryd.func16 rfl 36 rfl rfl fun w0 h0 hsep hsub hpre => ?_
  show St (cx gl) _ [(0, .pointer (some ⟨p, 0, none⟩)), (1, .int .u64 a)] _ _
  refine St.openP (p := []) (fun ⟨m1, m2, m3, sd⟩ hreg => ?_)
  refine St.unbundle [] ?_
  refine R_seq ?_
  refine R_region ?_
  refine L_val rfl rfl rfl (OpP.v (P_assign rfl rfl)) ?_
  refine L_val rfl rfl rfl (OpP.v (P_assign rfl rfl)) ?_
  refine L_nil ?_
  refine Q_then ?_
  refine R_seq ?_
  refine R_seq ?_
  refine R_region ?_
  refine L_val rfl rfl rfl (OpP.v (P_move rfl rfl)) ?_
  refine L_op rfl (W_callR rfl rfl rfl rfl fn_ca_39 (missing_ok p (.int .i32 0) (.int .u32 0) (.map (some m2)) (.map (some m3)) (some m1)) (Split.one (p := [])) (fun _ _ _ _ _ _ _ => trivial) ?_)
  refine St.res (rs' := [blk p [.int .i32 0, .int .u32 0, .map (some m1), .map (some m2), .map (some m3)] 97, mapK kU64 m1 (sgM sg), mapK recK m2 (rcM rc), mapK kU64 m3 (sdM sd), fam (sgH p) sg, fam sdH sd]) (Weak.refl _) ?_
  refine E_false (t := 8) rfl (rfl) ?_
  refine L_nil ?_
  refine St.env (.cons (t := 0) rfl (.cons (t := 1) rfl (.cons (t := 4) rfl (.cons (t := 5) rfl (.cons (t := 8) rfl .nil))))) ?_
  refine Q_then ?_
  refine R_condF rfl ?_
  refine R_skip ?_
  refine Q_then ?_
  refine R_seq ?_
  refine R_seq ?_
  refine R_region ?_
  refine L_val rfl rfl rfl (OpP.v (P_move rfl rfl)) ?_
  refine L_val rfl rfl rfl (OpP.v (P_eql rfl rfl rfl)) ?_
  refine E_false (t := 10) rfl (decide_eq_false ha) ?_
  refine L_nil ?_
  refine St.env (.cons (t := 0) rfl (.cons (t := 1) rfl (.cons (t := 4) rfl (.cons (t := 5) rfl (.cons (t := 10) rfl .nil))))) ?_
  refine Q_then ?_
  refine R_condF rfl ?_
  refine R_skip ?_
  refine Q_then ?_
  refine R_seq ?_
  refine R_region ?_
  refine L_val rfl rfl rfl (OpP.v (P_move rfl rfl)) ?_
  refine L_val rfl rfl rfl (OpP.v (P_nil rfl rfl)) ?_
  refine L_val rfl rfl rfl (OpP.v (P_fld0 rfl ty_fl_97_0 rfl)) ?_
  refine L_op rfl (W_callR rfl rfl rfl rfl fn_ca_40 (lock_ok p 97 [.int .u32 0, .map (some m1), .map (some m2), .map (some m3)]) (Split.one (p := [])) (fun _ _ _ _ _ _ _ => trivial) ?_)
  refine St.res (rs' := [blk p [.int .i32 1, .int .u32 0, .map (some m1), .map (some m2), .map (some m3)] 97, mapK kU64 m1 (sgM sg), mapK recK m2 (rcM rc), mapK kU64 m3 (sdM sd), fam (sgH p) sg, fam sdH sd]) (Weak.refl _) ?_
  refine L_nil ?_
  refine St.env (.cons (t := 0) rfl (.cons (t := 1) rfl (.cons (t := 4) rfl (.cons (t := 5) rfl .nil)))) ?_
  refine Q_then ?_
  refine R_seq ?_
  refine R_region ?_
  refine L_val rfl rfl rfl (OpP.v (P_move rfl rfl)) ?_
  refine L_val rfl rfl rfl (OpP.v (P_nil rfl rfl)) ?_
  refine L_val rfl rfl rfl (OpP.v (P_fld0 rfl ty_fl_97_0 rfl)) ?_
  refine L_op rfl (W_defer rfl rfl rfl ?_)
  refine L_nil ?_
  refine St.env (.cons (t := 0) rfl (.cons (t := 1) rfl (.cons (t := 4) rfl (.cons (t := 5) rfl .nil)))) ?_
  refine Q_then ?_
  refine R_seq ?_
  refine R_seq ?_
  refine R_region ?_
  refine L_val rfl rfl rfl (OpP.v (P_move rfl rfl)) ?_
  refine L_val rfl rfl rfl (OpP.v (P_nil rfl rfl)) ?_
  refine L_val rfl rfl rfl (OpP.v (P_fld0 rfl ty_fl_97_1 rfl)) ?_
  refine L_val rfl rfl rfl (V_load rfl rfl ty_sc_93 (by first | exact Rd.blk .h0 rfl | exact Rd.blk .h1 rfl | exact Rd.blk .h2 rfl | exact Rd.blk .h3 rfl | exact Rd.blk .h4 rfl | exact Rd.blk .h5 rfl | exact Rd.blk .h6 rfl | exact Rd.blk .h7 rfl)) ?_
  refine L_val rfl rfl rfl (OpP.v (P_move rfl rfl)) ?_
  refine L_val rfl rfl rfl (V_lookupK rfl ty_map_93 (keyU64 ty_int_23) rfl rfl (trivial) (fun _ _ => trivial) .h1 (run_zeroValue_of ty_zv_27)) ?_
  refine E_as (t := 23) (v' := .pointer (sgP sg a)) rfl (look_sg sg a) ?_
  refine L_val rfl rfl rfl (OpP.v (P_neP rfl ty_ptr_27 rfl rfl)) ?_
  refine E_as (t := 24) (v' := .bool (isIn sg a)) rfl (by simp [isIn]) ?_
  refine E_true (t := 24) rfl (hin) ?_
  refine L_nil ?_
  refine St.env (.cons (t := 0) rfl (.cons (t := 1) rfl (.cons (t := 4) rfl (.cons (t := 5) rfl (.cons (t := 24) rfl .nil))))) ?_
  refine Q_then ?_
  refine R_condT rfl ?_
  refine R_seq ?_
  refine R_region ?_
  refine L_val rfl rfl rfl (OpP.v (P_assign rfl rfl)) ?_
  refine L_val rfl rfl rfl (OpP.v (P_assign rfl rfl)) ?_
  refine L_nil ?_
  refine St.env (.cons (t := 0) rfl (.cons (t := 1) rfl (.cons (t := 4) rfl (.cons (t := 5) rfl .nil)))) ?_
  refine Q_then ?_
  refine R_ret ?_
  refine Q_then_ret ?_
  exact R_endX (rs2 := [REG p (sg) (rc)]) rfl fn_ca_41 (unlockD_ok p 97 [.int .u32 0, .map (some m1), .map (some m2), .map (some m3)]) (Split.one (p := [])) (fun _ _ _ _ _ _ _ => trivial) rfl (.tmp rfl (.tmp rfl .nil)) (⟨rfl, rfl⟩) (reg_close (rs := []) hreg)
theorem enter_new {gl : Nat → Obj} (p : Nat) (sg : List (Int × Nat)) (rc : List Rcd) (a : Int) (ha : a ≠ 0) (hin : isIn sg a = false) : Spec (cx gl) 16 [.pointer (some ⟨p, 0, none⟩), .int .u64 a] (fun _ _ => True) [REG p sg rc] (fun v rs => ∃ s, v = .tuple #[.pointer (some ⟨s, 0, none⟩), .int .i64 0] ∧ rs = [REG p (sg ++ [(a, s)]) rc]) := by
  refine Spec.enterX (C := cx gl) Tryd.func16 rfl 36 rfl rfl fun w0 h0 hsep hsub hpre => ?_
  show St (cx gl) _ [(0, .pointer (some ⟨p, 0, none⟩)), (1, .int .u64 a)] _ _
  refine St.openP (p := []) (fun ⟨m1, m2, m3, sd⟩ hreg => ?_)
  refine St.unbundle [] ?_
  refine R_seq ?_
  refine R_region ?_
  refine L_val rfl rfl rfl (OpP.v (P_assign rfl rfl)) ?_
  refine L_val rfl rfl rfl (OpP.v (P_assign rfl rfl)) ?_
  refine L_nil ?_
  refine Q_then ?_
  refine R_seq ?_
  refine R_seq ?_
  refine R_region ?_
  refine L_val rfl rfl rfl (OpP.v (P_move rfl rfl)) ?_
  refine L_op rfl (W_callR rfl rfl rfl rfl fn_ca_39 (missing_ok p (.int .i32 0) (.int .u32 0) (.map (some m2)) (.map (some m3)) (some m1)) (Split.one (p := [])) (fun _ _ _ _ _ _ _ => trivial) ?_)
  refine St.res (rs' := [blk p [.int .i32 0, .int .u32 0, .map (some m1), .map (some m2), .map (some m3)] 97, mapK kU64 m1 (sgM sg), mapK recK m2 (rcM rc), mapK kU64 m3 (sdM sd), fam (sgH p) sg, fam sdH sd]) (Weak.refl _) ?_
  refine E_false (t := 8) rfl (rfl) ?_
  refine L_nil ?_
  refine St.env (.cons (t := 0) rfl (.cons (t := 1) rfl (.cons (t := 4) rfl (.cons (t := 5) rfl (.cons (t := 8) rfl .nil))))) ?_
  refine Q_then ?_
  refine R_condF rfl ?_
  refine R_skip ?_
  refine Q_then ?_
  refine R_seq ?_
  refine R_seq ?_
  refine R_region ?_
  refine L_val rfl rfl rfl (OpP.v (P_move rfl rfl)) ?_
  refine L_val rfl rfl rfl (OpP.v (P_eql rfl rfl rfl)) ?_
  refine E_false (t := 10) rfl (decide_eq_false ha) ?_
  refine L_nil ?_
  refine St.env (.cons (t := 0) rfl (.cons (t := 1) rfl (.cons (t := 4) rfl (.cons (t := 5) rfl (.cons (t := 10) rfl .nil))))) ?_
  refine Q_then ?_
  refine R_condF rfl ?_
  refine R_skip ?_
  refine Q_then ?_
  refine R_seq ?_
  refine R_region ?_
  refine L_val rfl rfl rfl (OpP.v (P_move rfl rfl)) ?_
  refine L_val rfl rfl rfl (OpP.v (P_nil rfl rfl)) ?_
  refine L_val rfl rfl rfl (OpP.v (P_fld0 rfl ty_fl_97_0 rfl)) ?_
  refine L_op rfl (W_callR rfl rfl rfl rfl fn_ca_40 (lock_ok p 97 [.int .u32 0, .map (some m1), .map (some m2), .map (some m3)]) (Split.one (p := [])) (fun _ _ _ _ _ _ _ => trivial) ?_)
  refine St.res (rs' := [blk p [.int .i32 1, .int .u32 0, .map (some m1), .map (some m2), .map (some m3)] 97, mapK kU64 m1 (sgM sg), mapK recK m2 (rcM rc), mapK kU64 m3 (sdM sd), fam (sgH p) sg, fam sdH sd]) (Weak.refl _) ?_
  refine L_nil ?_
  refine St.env (.cons (t := 0) rfl (.cons (t := 1) rfl (.cons (t := 4) rfl (.cons (t := 5) rfl .nil)))) ?_
  refine Q_then ?_
  refine R_seq ?_
  refine R_region ?_
  refine L_val rfl rfl rfl (OpP.v (P_move rfl rfl)) ?_
  refine L_val rfl rfl rfl (OpP.v (P_nil rfl rfl)) ?_
  refine L_val rfl rfl rfl (OpP.v (P_fld0 rfl ty_fl_97_0 rfl)) ?_
  refine L_op rfl (W_defer rfl rfl rfl ?_)
  refine L_nil ?_
  refine St.env (.cons (t := 0) rfl (.cons (t := 1) rfl (.cons (t := 4) rfl (.cons (t := 5) rfl .nil)))) ?_
  refine Q_then ?_
  refine R_seq ?_
  refine R_seq ?_
  refine R_region ?_
  refine L_val rfl rfl rfl (OpP.v (P_move rfl rfl)) ?_
  refine L_val rfl rfl rfl (OpP.v (P_nil rfl rfl)) ?_
  refine L_val rfl rfl rfl (OpP.v (P_fld0 rfl ty_fl_97_1 rfl)) ?_
  refine L_val rfl rfl rfl (V_load rfl rfl ty_sc_93 (by first | exact Rd.blk .h0 rfl | exact Rd.blk .h1 rfl | exact Rd.blk .h2 rfl | exact Rd.blk .h3 rfl | exact Rd.blk .h4 rfl | exact Rd.blk .h5 rfl | exact Rd.blk .h6 rfl | exact Rd.blk .h7 rfl)) ?_
  refine L_val rfl rfl rfl (OpP.v (P_move rfl rfl)) ?_
  refine L_val rfl rfl rfl (V_lookupK rfl ty_map_93 (keyU64 ty_int_23) rfl rfl (trivial) (fun _ _ => trivial) .h1 (run_zeroValue_of ty_zv_27)) ?_
  refine E_as (t := 23) (v' := .pointer (sgP sg a)) rfl (look_sg sg a) ?_
  refine L_val rfl rfl rfl (OpP.v (P_neP rfl ty_ptr_27 rfl rfl)) ?_
  refine E_as (t := 24) (v' := .bool (isIn sg a)) rfl (by simp [isIn]) ?_
  refine E_false (t := 24) rfl (hin) ?_
  refine L_nil ?_
  refine St.env (.cons (t := 0) rfl (.cons (t := 1) rfl (.cons (t := 4) rfl (.cons (t := 5) rfl (.cons (t := 24) rfl .nil))))) ?_
  refine Q_then ?_
  refine R_condF rfl ?_
  refine R_skip ?_
  refine Q_then ?_
  refine R_seq ?_
  refine R_region ?_
  refine L_val rfl rfl rfl (OpP.v (P_move rfl rfl)) ?_
  refine L_val rfl rfl rfl (OpP.v (P_move rfl rfl)) ?_
  refine L_val rfl rfl rfl (OpP.v (P_buildStruct rfl ty_pl_100 ty_ze_100 rfl rfl (rfl))) ?_
  refine L_op rfl (W_box (_) rfl rfl rfl rfl rfl fun b28 => ?_)
  refine L_val rfl rfl rfl (OpP.v (P_assign rfl rfl)) ?_
  refine L_nil ?_
  refine St.env (.cons (t := 0) rfl (.cons (t := 1) rfl (.cons (t := 4) rfl (.cons (t := 5) rfl (.cons (t := 6) rfl .nil))))) ?_
  refine Q_then ?_
  refine R_seq ?_
  refine R_region ?_
  refine L_val rfl rfl rfl (OpP.v (P_move rfl rfl)) ?_
  refine L_val rfl rfl rfl (OpP.v (P_nil rfl rfl)) ?_
  refine L_val rfl rfl rfl (OpP.v (P_fld0 rfl ty_fl_97_1 rfl)) ?_
  refine L_val rfl rfl rfl (V_load rfl rfl ty_sc_93 (by first | exact Rd.blk .h0 rfl | exact Rd.blk .h1 rfl | exact Rd.blk .h2 rfl | exact Rd.blk .h3 rfl | exact Rd.blk .h4 rfl | exact Rd.blk .h5 rfl | exact Rd.blk .h6 rfl | exact Rd.blk .h7 rfl)) ?_
  refine L_val rfl rfl rfl (OpP.v (P_move rfl rfl)) ?_
  refine L_val rfl rfl rfl (OpP.v (P_move rfl rfl)) ?_
  refine L_op rfl (W_mapSet rfl rfl ty_map_93 (keyU64 ty_int_23) rfl rfl rfl (trivial) (fun _ _ => trivial) .h2 .h2 ?_)
  refine St.res (rs' := [blk p [.int .i32 1, .int .u32 0, .map (some m1), .map (some m2), .map (some m3)] 97, mapK kU64 m1 (sgM (sg ++ [(a, b28)])), mapK recK m2 (rcM rc), mapK kU64 m3 (sdM sd), fam (sgH p) (sg ++ [(a, b28)]), fam sdH sd]) (by rw [set_sg b28 hin]; exact Weak.p1 (Weak.p1 (Weak.p1 (Weak.p1 (Weak.famAdd (f := sgH p) (x := (a, b28))))))) ?_
  refine L_nil ?_
  refine St.env (.cons (t := 4) rfl (.cons (t := 5) rfl (.cons (t := 6) rfl .nil))) ?_
  refine Q_then ?_
  refine R_seq ?_
  refine R_region ?_
  refine L_val rfl rfl rfl (OpP.v (P_move rfl rfl)) ?_
  refine L_val rfl rfl rfl (OpP.v (P_assign rfl rfl)) ?_
  refine L_val rfl rfl rfl (OpP.v (P_assign rfl rfl)) ?_
  refine L_nil ?_
  refine St.env (.cons (t := 4) rfl (.cons (t := 5) rfl .nil)) ?_
  refine Q_then ?_
  refine R_ret ?_
  exact R_endX (rs2 := _) rfl fn_ca_41 (unlockD_ok p 97 [.int .u32 0, .map (some m1), .map (some m2), .map (some m3)]) (Split.one (p := [])) (fun _ _ _ _ _ _ _ => trivial) rfl (.tmp rfl (.tmp rfl .nil)) (⟨b28, rfl, rfl⟩) (reg_close (rs := []) hreg)
theorem addr_ok {gl : Nat → Obj} (p : Nat) (sg : List (Int × Nat)) (rc : List Rcd) (i : Nat) (a : Int) (s : Nat) (hi : sg[i]? = some (a, s)) : SpecR (cx gl) 25 [.pointer (some ⟨s, 0, none⟩)] (fun _ _ => True) [REG p sg rc] (.int .u64 a) [REG p sg rc] := by
  refine Spec.enter (C := cx gl) Tryd.func25 rfl 9 rfl rfl fun w0 h0 hsep hsub hpre => ?_
  show St (cx gl) _ [(0, .pointer (some ⟨s, 0, none⟩))] _ _
  refine St.openP (p := []) (fun ⟨m1, m2, m3, sd⟩ hreg => ?_)
  refine St.unbundle [] ?_
  refine R_seq ?_
  refine R_region ?_
  refine L_val rfl rfl rfl (OpP.v (P_assign rfl rfl)) ?_
  refine L_nil ?_
  refine Q_then ?_
  refine R_seq ?_
  refine R_seq ?_
  refine R_region ?_
  refine L_val rfl rfl rfl (OpP.v (P_move rfl rfl)) ?_
  refine L_val rfl rfl rfl (OpP.v (P_eqNil rfl ty_ptr_27 rfl rfl)) ?_
  refine L_nil ?_
  refine St.env (.cons (t := 0) rfl (.cons (t := 2) rfl (.cons (t := 4) rfl .nil))) ?_
  refine Q_then ?_
  refine R_condF rfl ?_
  refine R_skip ?_
  refine Q_then ?_
  refine R_seq ?_
  refine R_region ?_
  refine L_val rfl rfl rfl (OpP.v (P_move rfl rfl)) ?_
  refine L_val rfl rfl rfl (OpP.v (P_nil rfl rfl)) ?_
  refine L_val rfl rfl rfl (OpP.v (P_fld0 rfl ty_fl_100_1 rfl)) ?_
  refine L_val rfl rfl rfl (V_load rfl rfl ty_sc_23 (by first | exact Rd.blk .h0 rfl | exact Rd.blk .h1 rfl | exact Rd.blk .h2 rfl | exact Rd.blk .h3 rfl | exact Rd.blk .h4 rfl | exact Rd.blk .h5 rfl | exact Rd.blk .h6 rfl | exact Rd.blk .h7 rfl | exact (rd_sg .h4 hi).2)) ?_
  refine L_val rfl rfl rfl (OpP.v (P_assign rfl rfl)) ?_
  refine L_nil ?_
  refine St.env (.cons (t := 2) rfl .nil) ?_
  refine Q_then ?_
  refine R_ret ?_
  exact R_end (rs2 := [REG p sg rc]) rfl rfl (.tmp rfl .nil) (⟨rfl, rfl⟩) (reg_close (rs := []) hreg)
end Go.Proofs.YtnaadddnbfnahaaDoor
