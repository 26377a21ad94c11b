/- The document's registry: Enter, Sign, Check, Signed. Printed by gen.py. -/
import Derived.Test.YtnaadddnbfnahaaDoorT1
set_option linter.unusedVariables false
set_option linter.unusedSimpArgs false
set_option maxRecDepth 100000
namespace Go.Proofs.YtnaadddnbfnahaaDoor
open Go Go.RowKit Go.Proofs
theorem renter_zero {gl : Nat → Obj} (q : Nat) (tg : List (Int × Nat)) (rc : List Rcd) : SpecR (cx gl) 62 [.pointer (some ⟨q, 0, none⟩), .int .u64 0] (fun _ _ => True) [REF q tg rc] (.tuple #[.pointer none, .int .i64 2]) [REF q tg rc] := by
  refine Spec.enter (C := cx gl) Tryd.func62 rfl 28 rfl rfl fun w0 h0 hsep hsub hpre => ?_
  show St (cx gl) _ [(0, .pointer (some ⟨q, 0, none⟩)), (1, .int .u64 0)] _ _
  refine St.openP (p := []) (fun ⟨ve, vr⟩ hok => ?_)
  refine St.unbundle [] ?_
  refine St.ownForm (p := [_]) fun eb ec heb hec => ?_
  dsimp only at heb; subst heb
  refine St.ownForm (p := [_, _]) fun rb rcap hrb hrc_ => ?_
  dsimp only at hrb; subst hrb
  refine St.res (rs' := [blk q [.bool true, .slice eb tg.length ec, .slice rb rc.length rcap] 118, ownS 23 1 (.slice eb tg.length ec) (tg).length (ints .u64 (enOf (tg))), ownS 133 2 (.slice rb rc.length rcap) (rc).length (recC (rc)), fam (tgH q) (tg)]) (Weak.refl _) ?_
  refine R_seq ?_
  refine R_region ?_
  refine L_val rfl rfl rfl (OpP.v (P_assign rfl rfl)) ?_
  refine L_val rfl rfl rfl (OpP.v (P_assign rfl rfl)) ?_
  refine L_nil ?_
  refine Q_then ?_
  refine R_seq ?_
  refine R_seq ?_
  refine R_region ?_
  refine L_val rfl rfl rfl (OpP.v (P_move rfl rfl)) ?_
  refine L_op rfl (W_callR rfl rfl rfl rfl fn_ca_54 (rgood_ok q (.slice eb tg.length ec) (.slice rb rc.length rcap) true) (Split.one (p := [])) (fun _ _ _ _ _ _ _ => trivial) ?_)
  refine St.res (rs' := [blk q [.bool true, .slice eb tg.length ec, .slice rb rc.length rcap] 118, ownS 23 1 (.slice eb tg.length ec) (tg).length (ints .u64 (enOf (tg))), ownS 133 2 (.slice rb rc.length rcap) (rc).length (recC (rc)), fam (tgH q) (tg)]) (Weak.refl _) ?_
  refine L_val rfl rfl rfl (OpP.v (P_not rfl rfl)) ?_
  refine E_false (t := 8) rfl (rfl) ?_
  refine L_nil ?_
  refine St.env (.cons (t := 0) rfl (.cons (t := 1) rfl (.cons (t := 4) rfl (.cons (t := 5) rfl (.cons (t := 8) rfl .nil))))) ?_
  refine Q_then ?_
  refine R_condF rfl ?_
  refine R_skip ?_
  refine Q_then ?_
  refine R_seq ?_
  refine R_seq ?_
  refine R_region ?_
  refine L_val rfl rfl rfl (OpP.v (P_move rfl rfl)) ?_
  refine L_val rfl rfl rfl (OpP.v (P_eql rfl rfl rfl)) ?_
  refine E_true (t := 10) rfl (rfl) ?_
  refine L_nil ?_
  refine St.env (.cons (t := 0) rfl (.cons (t := 1) rfl (.cons (t := 4) rfl (.cons (t := 5) rfl (.cons (t := 10) rfl .nil))))) ?_
  refine Q_then ?_
  refine R_condT rfl ?_
  refine R_seq ?_
  refine R_region ?_
  refine L_val rfl rfl rfl (OpP.v (P_assign rfl rfl)) ?_
  refine L_val rfl rfl rfl (OpP.v (P_assign rfl rfl)) ?_
  refine L_nil ?_
  refine St.env (.cons (t := 0) rfl (.cons (t := 1) rfl (.cons (t := 4) rfl (.cons (t := 5) rfl .nil)))) ?_
  refine Q_then ?_
  refine R_ret ?_
  refine Q_then_ret ?_
  exact R_end (rs2 := [REF q (tg) (rc)]) rfl rfl (.tmp rfl (.tmp rfl .nil)) (⟨rfl, rfl⟩) (ref_close (rs := []) hok)
theorem renter_twice {gl : Nat → Obj} (q : Nat) (tg : List (Int × Nat)) (rc : List Rcd) (a : Int) (ha : a ≠ 0) (hin : a ∈ enOf tg) (hmax : tg.length ≤ 4398046511104) : SpecR (cx gl) 62 [.pointer (some ⟨q, 0, none⟩), .int .u64 a] (fun _ _ => True) [REF q tg rc] (.tuple #[.pointer none, .int .i64 30]) [REF q tg rc] := by
  refine Spec.enter (C := cx gl) Tryd.func62 rfl 28 rfl rfl fun w0 h0 hsep hsub hpre => ?_
  show St (cx gl) _ [(0, .pointer (some ⟨q, 0, none⟩)), (1, .int .u64 a)] _ _
  refine St.openP (p := []) (fun ⟨ve, vr⟩ hok => ?_)
  refine St.unbundle [] ?_
  refine St.ownForm (p := [_]) fun eb ec heb hec => ?_
  dsimp only at heb; subst heb
  refine St.ownForm (p := [_, _]) fun rb rcap hrb hrc_ => ?_
  dsimp only at hrb; subst hrb
  refine St.res (rs' := [blk q [.bool true, .slice eb tg.length ec, .slice rb rc.length rcap] 118, ownS 23 1 (.slice eb tg.length ec) (tg).length (ints .u64 (enOf (tg))), ownS 133 2 (.slice rb rc.length rcap) (rc).length (recC (rc)), fam (tgH q) (tg)]) (Weak.refl _) ?_
  refine R_seq ?_
  refine R_region ?_
  refine L_val rfl rfl rfl (OpP.v (P_assign rfl rfl)) ?_
  refine L_val rfl rfl rfl (OpP.v (P_assign rfl rfl)) ?_
  refine L_nil ?_
  refine Q_then ?_
  refine R_seq ?_
  refine R_seq ?_
  refine R_region ?_
  refine L_val rfl rfl rfl (OpP.v (P_move rfl rfl)) ?_
  refine L_op rfl (W_callR rfl rfl rfl rfl fn_ca_54 (rgood_ok q (.slice eb tg.length ec) (.slice rb rc.length rcap) true) (Split.one (p := [])) (fun _ _ _ _ _ _ _ => trivial) ?_)
  refine St.res (rs' := [blk q [.bool true, .slice eb tg.length ec, .slice rb rc.length rcap] 118, ownS 23 1 (.slice eb tg.length ec) (tg).length (ints .u64 (enOf (tg))), ownS 133 2 (.slice rb rc.length rcap) (rc).length (recC (rc)), fam (tgH q) (tg)]) (Weak.refl _) ?_
  refine L_val rfl rfl rfl (OpP.v (P_not rfl rfl)) ?_
  refine E_false (t := 8) rfl (rfl) ?_
  refine L_nil ?_
  refine St.env (.cons (t := 0) rfl (.cons (t := 1) rfl (.cons (t := 4) rfl (.cons (t := 5) rfl (.cons (t := 8) rfl .nil))))) ?_
  refine Q_then ?_
  refine R_condF rfl ?_
  refine R_skip ?_
  refine Q_then ?_
  refine R_seq ?_
  refine R_seq ?_
  refine R_region ?_
  refine L_val rfl rfl rfl (OpP.v (P_move rfl rfl)) ?_
  refine L_val rfl rfl rfl (OpP.v (P_eql rfl rfl rfl)) ?_
  refine E_false (t := 10) rfl (decide_eq_false ha) ?_
  refine L_nil ?_
  refine St.env (.cons (t := 0) rfl (.cons (t := 1) rfl (.cons (t := 4) rfl (.cons (t := 5) rfl (.cons (t := 10) rfl .nil))))) ?_
  refine Q_then ?_
  refine R_condF rfl ?_
  refine R_skip ?_
  refine Q_then ?_
  refine R_seq ?_
  refine R_seq ?_
  refine St.res (rs' := [REF q tg rc]) (ref_close (rs := []) hok) ?_
  refine R_region ?_
  refine L_val rfl rfl rfl (OpP.v (P_move rfl rfl)) ?_
  refine L_val rfl rfl rfl (OpP.v (P_move rfl rfl)) ?_
  refine L_op rfl (W_callR rfl rfl rfl rfl fn_ca_51 (rknown_ok q tg rc a hmax) (Split.one (p := [])) (fun _ _ _ _ _ _ _ => trivial) ?_)
  refine St.res (rs' := [REF q tg rc]) (Weak.refl _) ?_
  refine E_true (t := 13) rfl (decide_eq_true hin) ?_
  refine L_nil ?_
  refine St.env (.cons (t := 0) rfl (.cons (t := 1) rfl (.cons (t := 4) rfl (.cons (t := 5) rfl (.cons (t := 13) rfl .nil))))) ?_
  refine Q_then ?_
  refine R_condT rfl ?_
  refine R_seq ?_
  refine R_region ?_
  refine L_val rfl rfl rfl (OpP.v (P_assign rfl rfl)) ?_
  refine L_val rfl rfl rfl (OpP.v (P_assign rfl rfl)) ?_
  refine L_nil ?_
  refine St.env (.cons (t := 0) rfl (.cons (t := 1) rfl (.cons (t := 4) rfl (.cons (t := 5) rfl .nil)))) ?_
  refine Q_then ?_
  refine R_ret ?_
  refine Q_then_ret ?_
  exact R_end (rs2 := [REF q tg rc]) rfl rfl (.tmp rfl (.tmp rfl .nil)) (⟨rfl, rfl⟩) (Weak.refl _)
theorem renter_new {gl : Nat → Obj} (q : Nat) (tg : List (Int × Nat)) (rc : List Rcd) (a : Int) (ha : a ≠ 0) (hin : a ∉ enOf tg) (hmax : tg.length ≤ 4398046511104) : Spec (cx gl) 62 [.pointer (some ⟨q, 0, none⟩), .int .u64 a] (fun _ _ => True) [REF q tg rc] (fun v rs => ∃ s, v = .tuple #[.pointer (some ⟨s, 0, none⟩), .int .i64 0] ∧ rs = [REF q (tg ++ [(a, s)]) rc]) := by
  refine Spec.enter (C := cx gl) Tryd.func62 rfl 28 rfl rfl fun w0 h0 hsep hsub hpre => ?_
  show St (cx gl) _ [(0, .pointer (some ⟨q, 0, none⟩)), (1, .int .u64 a)] _ _
  refine St.openP (p := []) (fun ⟨ve, vr⟩ hok => ?_)
  refine St.unbundle [] ?_
  refine St.ownForm (p := [_]) fun eb ec heb hec => ?_
  dsimp only at heb; subst heb
  refine St.ownForm (p := [_, _]) fun rb rcap hrb hrc_ => ?_
  dsimp only at hrb; subst hrb
  refine St.res (rs' := [blk q [.bool true, .slice eb tg.length ec, .slice rb rc.length rcap] 118, ownS 23 1 (.slice eb tg.length ec) (tg).length (ints .u64 (enOf (tg))), ownS 133 2 (.slice rb rc.length rcap) (rc).length (recC (rc)), fam (tgH q) (tg)]) (Weak.refl _) ?_
  refine R_seq ?_
  refine R_region ?_
  refine L_val rfl rfl rfl (OpP.v (P_assign rfl rfl)) ?_
  refine L_val rfl rfl rfl (OpP.v (P_assign rfl rfl)) ?_
  refine L_nil ?_
  refine Q_then ?_
  refine R_seq ?_
  refine R_seq ?_
  refine R_region ?_
  refine L_val rfl rfl rfl (OpP.v (P_move rfl rfl)) ?_
  refine L_op rfl (W_callR rfl rfl rfl rfl fn_ca_54 (rgood_ok q (.slice eb tg.length ec) (.slice rb rc.length rcap) true) (Split.one (p := [])) (fun _ _ _ _ _ _ _ => trivial) ?_)
  refine St.res (rs' := [blk q [.bool true, .slice eb tg.length ec, .slice rb rc.length rcap] 118, ownS 23 1 (.slice eb tg.length ec) (tg).length (ints .u64 (enOf (tg))), ownS 133 2 (.slice rb rc.length rcap) (rc).length (recC (rc)), fam (tgH q) (tg)]) (Weak.refl _) ?_
  refine L_val rfl rfl rfl (OpP.v (P_not rfl rfl)) ?_
  refine E_false (t := 8) rfl (rfl) ?_
  refine L_nil ?_
  refine St.env (.cons (t := 0) rfl (.cons (t := 1) rfl (.cons (t := 4) rfl (.cons (t := 5) rfl (.cons (t := 8) rfl .nil))))) ?_
  refine Q_then ?_
  refine R_condF rfl ?_
  refine R_skip ?_
  refine Q_then ?_
  refine R_seq ?_
  refine R_seq ?_
  refine R_region ?_
  refine L_val rfl rfl rfl (OpP.v (P_move rfl rfl)) ?_
  refine L_val rfl rfl rfl (OpP.v (P_eql rfl rfl rfl)) ?_
  refine E_false (t := 10) rfl (decide_eq_false ha) ?_
  refine L_nil ?_
  refine St.env (.cons (t := 0) rfl (.cons (t := 1) rfl (.cons (t := 4) rfl (.cons (t := 5) rfl (.cons (t := 10) rfl .nil))))) ?_
  refine Q_then ?_
  refine R_condF rfl ?_
  refine R_skip ?_
  refine Q_then ?_
  refine R_seq ?_
  refine R_seq ?_
  refine St.res (rs' := [REF q tg rc]) (ref_close (rs := []) hok) ?_
  refine R_region ?_
  refine L_val rfl rfl rfl (OpP.v (P_move rfl rfl)) ?_
  refine L_val rfl rfl rfl (OpP.v (P_move rfl rfl)) ?_
  refine L_op rfl (W_callR rfl rfl rfl rfl fn_ca_51 (rknown_ok q tg rc a hmax) (Split.one (p := [])) (fun _ _ _ _ _ _ _ => trivial) ?_)
  refine St.res (rs' := [REF q tg rc]) (Weak.refl _) ?_
  refine E_false (t := 13) rfl (decide_eq_false hin) ?_
  refine L_nil ?_
  refine St.env (.cons (t := 0) rfl (.cons (t := 1) rfl (.cons (t := 4) rfl (.cons (t := 5) rfl (.cons (t := 13) rfl .nil))))) ?_
  refine Q_then ?_
  refine R_condF rfl ?_
  refine R_skip ?_
  refine Q_then ?_
  refine R_seq ?_
  refine St.openP (p := []) (fun ⟨ve, vr⟩ hok => ?_)
  refine St.unbundle [] ?_
  refine St.ownForm (p := [_]) fun eb ec heb hec => ?_
  dsimp only at heb; subst heb
  refine St.ownForm (p := [_, _]) fun rb rcap hrb hrc_ => ?_
  dsimp only at hrb; subst hrb
  refine St.res (rs' := [blk q [.bool true, .slice eb tg.length ec, .slice rb rc.length rcap] 118, ownS 23 1 (.slice eb tg.length ec) (tg).length (ints .u64 (enOf (tg))), ownS 133 2 (.slice rb rc.length rcap) (rc).length (recC (rc)), fam (tgH q) (tg)]) (Weak.refl _) ?_
  refine R_region ?_
  refine L_val rfl rfl rfl (OpP.v (P_move rfl rfl)) ?_
  refine L_val rfl rfl rfl (OpP.v (P_move rfl rfl)) ?_
  refine L_val rfl rfl rfl (OpP.v (P_nil rfl rfl)) ?_
  refine L_val rfl rfl rfl (OpP.v (P_fld0 rfl ty_fl_118_1 rfl)) ?_
  refine L_val rfl rfl rfl (V_load rfl rfl ty_sc_52 (by first | exact Rd.blk .h0 rfl | exact Rd.blk .h1 rfl | exact Rd.blk .h2 rfl | exact Rd.blk .h3 rfl | exact Rd.blk .h4 rfl | exact Rd.blk .h5 rfl | exact Rd.blk .h6 rfl | exact Rd.blk .h7 rfl)) ?_
  refine L_val rfl rfl rfl (OpP.v (P_move rfl rfl)) ?_
  refine L_op rfl (W_lit (z := .nilIface) (ints .u64 [a]) rfl rfl rfl ty_sl_52 ty_lz_52 rfl rfl rfl (by decide) (by decide) (by simp [Value.cells]) (rfl) fun b20 => ?_)
  refine L_op rfl (W_append (p := [_, _]) rfl rfl rfl ty_sl_52 ty_ap_52 ty_src_52 rfl rfl rfl (Src.slice (sz := 1) (news := ints .u64 [a]) (Rds.blk .h0) rfl ints_one) (by omega) (by simp only [maxLen]; omega) fun v21 => ?_)
  refine St.ownForm (p := [_, _]) fun nb nc hnv hnc => ?_
  subst hnv
  refine L_val rfl rfl rfl (OpP.v (P_nil rfl rfl)) ?_
  refine L_val rfl rfl rfl (OpP.v (P_fld0 rfl ty_fl_118_1 rfl)) ?_
  refine L_op rfl (W_store rfl rfl rfl rfl ty_sc_52 rfl .h1 (by first | decide | (simp [ints]; done) | (simp [ints]; omega)) ?_)
  refine L_nil ?_
  refine St.env (.cons (t := 0) rfl (.cons (t := 1) rfl (.cons (t := 4) rfl (.cons (t := 5) rfl .nil)))) ?_
  refine Q_then ?_
  refine R_seq ?_
  refine R_region ?_
  refine L_val rfl rfl rfl (OpP.v (P_move rfl rfl)) ?_
  refine L_val rfl rfl rfl (OpP.v (P_move rfl rfl)) ?_
  refine L_val rfl rfl rfl (OpP.v (P_buildStruct rfl ty_pl_135 ty_ze_135 rfl rfl (rfl))) ?_
  refine E_as (t := 26) (v' := .agg [.pointer (some ⟨q, 0, none⟩), .int .u64 a].toArray) rfl (rfl) ?_
  refine L_op rfl (W_box ([.pointer (some ⟨q, 0, none⟩), .int .u64 a]) rfl rfl rfl rfl rfl fun b27 => ?_)
  refine L_val rfl rfl rfl (OpP.v (P_assign rfl rfl)) ?_
  refine L_val rfl rfl rfl (OpP.v (P_assign rfl rfl)) ?_
  refine L_nil ?_
  refine St.env (.cons (t := 4) rfl (.cons (t := 5) rfl .nil)) ?_
  refine Q_then ?_
  refine R_ret ?_
  exact R_end (rs2 := _) rfl rfl (.tmp rfl (.tmp rfl .nil)) (⟨b27, rfl, rfl⟩) (by have e : tg.length + 1 = (tg ++ [(a, b27)]).length := (by simp); rw [ints_append, show enOf tg ++ [a] = enOf (tg ++ [(a, b27)]) by simp [enOf], e]; exact Weak.trans (Weak.p2 (Weak.p2 (Weak.p2 ((Weak.keep (Weak.drop (Weak.refl _))).trans (Weak.famAdd (f := tgH q) (x := (a, b27))))))) (ref_close (rs := []) hok))
theorem rsign_big {gl : Nat → Obj} (q : Nat) (tg : List (Int × Nat)) (rc : List Rcd) (i : Nat) (a : Int) (s : Nat) (hi : tg[i]? = some (a, s)) (base : Option Addr) (c : Nat) (xs : List Int) (hbig : 1048576 < xs.length) : SpecR (cx gl) 65 [.pointer (some ⟨s, 0, none⟩), .slice base xs.length c] (fun _ _ => True) [REF q tg rc] (.tuple #[.agg (ints .u8 (List.replicate 16 0)).toArray, .int .i64 4]) [REF q tg rc] := by
  refine Spec.enter (C := cx gl) Tryd.func65 rfl 59 rfl rfl fun w0 h0 hsep hsub hpre => ?_
  show St (cx gl) _ [(0, .pointer (some ⟨s, 0, none⟩)), (1, .slice base xs.length c)] _ _
  refine St.openP (p := []) (fun ⟨ve, vr⟩ hok => ?_)
  refine St.unbundle [] ?_
  refine St.ownForm (p := [_]) fun eb ec heb hec => ?_
  dsimp only at heb; subst heb
  refine St.ownForm (p := [_, _]) fun rb rcap hrb hrc_ => ?_
  dsimp only at hrb; subst hrb
  refine St.res (rs' := [blk q [.bool true, .slice eb tg.length ec, .slice rb rc.length rcap] 118, ownS 23 1 (.slice eb tg.length ec) (tg).length (ints .u64 (enOf (tg))), ownS 133 2 (.slice rb rc.length rcap) (rc).length (recC (rc)), fam (tgH q) (tg)]) (Weak.refl _) ?_
  refine R_seq ?_
  refine R_region ?_
  refine L_op rfl (W_alloc rfl rfl rfl ty_ze_33 fun b4 => ?_)
  refine L_val rfl rfl rfl (OpP.v (P_assign rfl rfl)) ?_
  refine L_nil ?_
  refine Q_then ?_
  refine R_seq ?_
  refine R_seq ?_
  refine St.res (rs' := [blk q [.bool true, .slice eb tg.length ec, .slice rb rc.length rcap] 118, ownS 23 1 (.slice eb tg.length ec) (tg).length (ints .u64 (enOf (tg))), ownS 133 2 (.slice rb rc.length rcap) (rc).length (recC (rc)), fam (tgH q) (tg), blk b4 (List.replicate 16 (.int .u8 0)) 33]) (Weak.p1 (Weak.p1 (Weak.p1 (Weak.p1 (Weak.refl _))))) ?_
  refine R_region ?_
  refine L_val rfl rfl rfl (OpP.v (P_move rfl rfl)) ?_
  refine L_val rfl rfl rfl (OpP.v (P_eqNil rfl ty_ptr_114 rfl rfl)) ?_
  refine L_val rfl rfl rfl (OpP.v (P_move rfl rfl)) ?_
  refine L_val rfl rfl rfl (OpP.v (P_move rfl rfl)) ?_
  refine L_val rfl rfl rfl (OpP.v (P_nil rfl rfl)) ?_
  refine L_val rfl rfl rfl (OpP.v (P_fld0 rfl ty_fl_135_0 rfl)) ?_
  refine L_val rfl rfl rfl (V_load rfl rfl ty_sc_73 (by first | exact (rd_tg .h3 hi).1 | exact (rd_tg .h4 hi).1)) ?_
  refine L_val rfl rfl rfl (OpP.v (P_eqNil rfl ty_ptr_73 rfl rfl)) ?_
  refine L_val rfl rfl rfl (OpP.v (P_pick rfl rfl rfl)) ?_
  refine L_nil ?_
  refine St.env (.cons (t := 0) rfl (.cons (t := 1) rfl (.cons (t := 4) rfl (.cons (t := 5) rfl (.cons (t := 14) rfl .nil))))) ?_
  refine Q_then ?_
  refine R_condF rfl ?_
  refine R_skip ?_
  refine Q_then ?_
  refine R_seq ?_
  refine R_seq ?_
  refine R_region ?_
  refine L_val rfl rfl rfl (OpP.v (P_move rfl rfl)) ?_
  refine L_val rfl rfl rfl (OpP.v (P_len rfl ty_sl_24 rfl)) ?_
  refine L_val rfl rfl rfl (OpP.v (P_gtr rfl rfl rfl)) ?_
  refine E_true (t := 18) rfl (decide_eq_true (by omega)) ?_
  refine L_nil ?_
  refine St.env (.cons (t := 0) rfl (.cons (t := 1) rfl (.cons (t := 4) rfl (.cons (t := 5) rfl (.cons (t := 18) rfl .nil))))) ?_
  refine Q_then ?_
  refine R_condT rfl ?_
  refine R_seq ?_
  refine R_region ?_
  refine L_val rfl rfl rfl (OpP.v (P_buildArrR rfl ty_ar_33 ty_ze_33 rfl rfl rfl (by first | decide | (simp only [List.length_cons, List.length_nil]; omega)) (by simp [Value.oneCell']))) ?_
  refine E_as (t := 19) (v' := .agg (ints .u8 (List.replicate 16 0)).toArray) rfl (rfl) ?_
  refine L_op rfl (W_storeAll rfl rfl rfl rfl ty_ag_33 (rfl) (ints_one) .h4 (rfl) ?_)
  refine L_val rfl rfl rfl (OpP.v (P_assign rfl rfl)) ?_
  refine L_nil ?_
  refine St.env (.cons (t := 0) rfl (.cons (t := 1) rfl (.cons (t := 4) rfl (.cons (t := 5) rfl .nil)))) ?_
  refine Q_then ?_
  refine R_ret ?_
  refine Q_then_ret ?_
  exact R_end (rs2 := [REF q tg rc]) rfl rfl (.cell rfl (Rds.loadVar ty_ag_33 (Rds.blk .h4) rfl) (.tmp rfl .nil)) (⟨rfl, rfl⟩) ((ref_close (rs := [_]) hok).trans (Weak.keep (Weak.nil _)))
theorem rsign_old {gl : Nat → Obj} (hG : GlobsR gl) (q : Nat) (tg : List (Int × Nat)) (rc : List Rcd) (i : Nat) (a : Int) (s : Nat) (hi : tg[i]? = some (a, s)) (base : Option Addr) (c : Nat) (xs : List Int) (hb : IsB xs) (hmax : xs.length ≤ 1048576) (hC : rc.length ≤ 4398046511104) (hm : (a, xs) ∈ rc) : SpecR (cx gl) 65 [.pointer (some ⟨s, 0, none⟩), .slice base xs.length c] (fun w h => Seen w h base (ints .u8 xs)) [REF q tg rc] (.tuple #[.agg (ints .u8 (sealH a xs)).toArray, .int .i64 0]) [REF q tg rc] := by
  refine Spec.enter (C := cx gl) Tryd.func65 rfl 59 rfl rfl fun w0 h0 hsep hsub hpre => ?_
  show St (cx gl) _ [(0, .pointer (some ⟨s, 0, none⟩)), (1, .slice base xs.length c)] _ _
  refine St.openP (p := []) (fun ⟨ve, vr⟩ hok => ?_)
  refine St.unbundle [] ?_
  refine St.ownForm (p := [_]) fun eb ec heb hec => ?_
  dsimp only at heb; subst heb
  refine St.ownForm (p := [_, _]) fun rb rcap hrb hrc_ => ?_
  dsimp only at hrb; subst hrb
  refine St.res (rs' := [blk q [.bool true, .slice eb tg.length ec, .slice rb rc.length rcap] 118, ownS 23 1 (.slice eb tg.length ec) (tg).length (ints .u64 (enOf (tg))), ownS 133 2 (.slice rb rc.length rcap) (rc).length (recC (rc)), fam (tgH q) (tg)]) (Weak.refl _) ?_
  refine R_seq ?_
  refine R_region ?_
  refine L_op rfl (W_alloc rfl rfl rfl ty_ze_33 fun b4 => ?_)
  refine L_val rfl rfl rfl (OpP.v (P_assign rfl rfl)) ?_
  refine L_nil ?_
  refine Q_then ?_
  refine R_seq ?_
  refine R_seq ?_
  refine St.res (rs' := [blk q [.bool true, .slice eb tg.length ec, .slice rb rc.length rcap] 118, ownS 23 1 (.slice eb tg.length ec) (tg).length (ints .u64 (enOf (tg))), ownS 133 2 (.slice rb rc.length rcap) (rc).length (recC (rc)), fam (tgH q) (tg), blk b4 (List.replicate 16 (.int .u8 0)) 33]) (Weak.p1 (Weak.p1 (Weak.p1 (Weak.p1 (Weak.refl _))))) ?_
  refine R_region ?_
  refine L_val rfl rfl rfl (OpP.v (P_move rfl rfl)) ?_
  refine L_val rfl rfl rfl (OpP.v (P_eqNil rfl ty_ptr_114 rfl rfl)) ?_
  refine L_val rfl rfl rfl (OpP.v (P_move rfl rfl)) ?_
  refine L_val rfl rfl rfl (OpP.v (P_move rfl rfl)) ?_
  refine L_val rfl rfl rfl (OpP.v (P_nil rfl rfl)) ?_
  refine L_val rfl rfl rfl (OpP.v (P_fld0 rfl ty_fl_135_0 rfl)) ?_
  refine L_val rfl rfl rfl (V_load rfl rfl ty_sc_73 (by first | exact (rd_tg .h3 hi).1 | exact (rd_tg .h4 hi).1)) ?_
  refine L_val rfl rfl rfl (OpP.v (P_eqNil rfl ty_ptr_73 rfl rfl)) ?_
  refine L_val rfl rfl rfl (OpP.v (P_pick rfl rfl rfl)) ?_
  refine L_nil ?_
  refine St.env (.cons (t := 0) rfl (.cons (t := 1) rfl (.cons (t := 4) rfl (.cons (t := 5) rfl (.cons (t := 14) rfl .nil))))) ?_
  refine Q_then ?_
  refine R_condF rfl ?_
  refine R_skip ?_
  refine Q_then ?_
  refine R_seq ?_
  refine R_seq ?_
  refine R_region ?_
  refine L_val rfl rfl rfl (OpP.v (P_move rfl rfl)) ?_
  refine L_val rfl rfl rfl (OpP.v (P_len rfl ty_sl_24 rfl)) ?_
  refine L_val rfl rfl rfl (OpP.v (P_gtr rfl rfl rfl)) ?_
  refine E_false (t := 18) rfl (decide_eq_false (by omega)) ?_
  refine L_nil ?_
  refine St.env (.cons (t := 0) rfl (.cons (t := 1) rfl (.cons (t := 4) rfl (.cons (t := 5) rfl (.cons (t := 18) rfl .nil))))) ?_
  refine Q_then ?_
  refine R_condF rfl ?_
  refine R_skip ?_
  refine Q_then ?_
  refine R_seq ?_
  refine R_seq ?_
  refine R_open [(0, 0), (1, 0), (2, 0), (3, 1), (4, 0), (5, 0), (6, 0), (7, 1), (8, 0), (9, 2), (10, 0)] mixed (by kernel_rfl) (QOk.then (QOk.then QOk.body)) ?_
  refine O_pure rfl rfl rfl rfl (P_move rfl rfl) ?_
  refine O_pure rfl rfl rfl rfl (P_nil rfl rfl) ?_
  refine O_pure rfl rfl rfl rfl (P_fld0 rfl ty_fl_135_0 rfl) ?_
  refine O_val rfl rfl rfl rfl (V_load rfl rfl ty_sc_73 (by first | exact (rd_tg .h3 hi).1 | exact (rd_tg .h4 hi).1)) ?_
  refine O_pure rfl rfl rfl rfl (P_move rfl rfl) ?_
  refine O_pure rfl rfl rfl rfl (P_nil rfl rfl) ?_
  refine O_pure rfl rfl rfl rfl (P_fld0 rfl ty_fl_135_1 rfl) ?_
  refine O_val rfl rfl rfl rfl (V_load rfl rfl ty_sc_23 (by first | exact (rd_tg .h3 hi).2 | exact (rd_tg .h4 hi).2)) ?_
  refine O_pure rfl rfl rfl rfl (P_move rfl rfl) ?_
  refine O_keep rfl rfl (W_callR rfl rfl rfl rfl fn_ca_80 (rhas_ok q tg rc eb rb ec rcap hok a base c xs hb hC) (Weak.refl _) (Sn.pre (Sn.old hpre)) (K_keep (Weak.refl _) ?_))
  refine O_pure rfl rfl rfl rfl (P_not rfl rfl) ?_
  refine E_false (t := 30) rfl (by simp [hm]) ?_
  refine O_nil ?_
  refine St.env (.cons (t := 0) rfl (.cons (t := 1) rfl (.cons (t := 4) rfl (.cons (t := 5) rfl (.cons (t := 30) rfl .nil))))) ?_
  refine Q_then ?_
  refine R_condF rfl ?_
  refine R_skip ?_
  refine Q_then ?_
  refine R_seq ?_
  refine St.res (rs' := [blk q [.bool true, .slice eb tg.length ec, .slice rb rc.length rcap] 118, ownS 23 1 (.slice eb tg.length ec) (tg).length (ints .u64 (enOf (tg))), ownS 133 2 (.slice rb rc.length rcap) (rc).length (recC (rc)), fam (tgH q) (tg), blk b4 (List.replicate 16 (.int .u8 0)) 33]) (Weak.refl _) ?_
  refine R_region ?_
  refine L_val rfl rfl rfl (OpP.v (P_move rfl rfl)) ?_
  refine L_val rfl rfl rfl (OpP.v (P_nil rfl rfl)) ?_
  refine L_val rfl rfl rfl (OpP.v (P_fld0 rfl ty_fl_135_1 rfl)) ?_
  refine L_val rfl rfl rfl (V_load rfl rfl ty_sc_23 (by first | exact (rd_tg .h3 hi).2 | exact (rd_tg .h4 hi).2)) ?_
  refine L_val rfl rfl rfl (OpP.v (P_move rfl rfl)) ?_
  refine L_op rfl (W_callV rfl rfl rfl rfl fn_ca_20 (of_ok hG a base c xs (by omega)) ((Sn.old hpre).rw_) ?_)
  refine L_op rfl (W_storeAll rfl rfl rfl rfl ty_ag_33 (by rw [ints_length, sealH_length]) (ints_one) .h4 (by rw [ints_length, sealH_length]; rfl) ?_)
  refine L_val rfl rfl rfl (OpP.v (P_assign rfl rfl)) ?_
  refine L_nil ?_
  refine St.env (.cons (t := 4) rfl (.cons (t := 5) rfl .nil)) ?_
  refine Q_then ?_
  refine R_ret ?_
  exact R_end (rs2 := [REF q tg rc]) rfl rfl (.cell rfl (Rds.loadVar ty_ag_33 (Rds.blk .h4) (by rw [ints_length, sealH_length])) (.tmp rfl .nil)) (⟨rfl, rfl⟩) ((ref_close (rs := [_]) hok).trans (Weak.keep (Weak.nil _)))
theorem rsign_new {gl : Nat → Obj} (hG : GlobsR gl) (q : Nat) (tg : List (Int × Nat)) (rc : List Rcd) (i : Nat) (a : Int) (s : Nat) (hi : tg[i]? = some (a, s)) (base : Option Addr) (c : Nat) (xs : List Int) (hb : IsB xs) (hmax : xs.length ≤ 1048576) (hC : rc.length ≤ 4398046511104) (hm : (a, xs) ∉ rc) : SpecR (cx gl) 65 [.pointer (some ⟨s, 0, none⟩), .slice base xs.length c] (fun w h => Seen w h base (ints .u8 xs)) [REF q tg rc] (.tuple #[.agg (ints .u8 (sealH a xs)).toArray, .int .i64 0]) [REF q tg (rc ++ [(a, xs)])] := by
  refine Spec.enter (C := cx gl) Tryd.func65 rfl 59 rfl rfl fun w0 h0 hsep hsub hpre => ?_
  show St (cx gl) _ [(0, .pointer (some ⟨s, 0, none⟩)), (1, .slice base xs.length c)] _ _
  refine St.openP (p := []) (fun ⟨ve, vr⟩ hok => ?_)
  refine St.unbundle [] ?_
  refine St.ownForm (p := [_]) fun eb ec heb hec => ?_
  dsimp only at heb; subst heb
  refine St.ownForm (p := [_, _]) fun rb rcap hrb hrc_ => ?_
  dsimp only at hrb; subst hrb
  refine St.res (rs' := [blk q [.bool true, .slice eb tg.length ec, .slice rb rc.length rcap] 118, ownS 23 1 (.slice eb tg.length ec) (tg).length (ints .u64 (enOf (tg))), ownS 133 2 (.slice rb rc.length rcap) (rc).length (recC (rc)), fam (tgH q) (tg)]) (Weak.refl _) ?_
  refine R_seq ?_
  refine R_region ?_
  refine L_op rfl (W_alloc rfl rfl rfl ty_ze_33 fun b4 => ?_)
  refine L_val rfl rfl rfl (OpP.v (P_assign rfl rfl)) ?_
  refine L_nil ?_
  refine Q_then ?_
  refine R_seq ?_
  refine R_seq ?_
  refine St.res (rs' := [blk q [.bool true, .slice eb tg.length ec, .slice rb rc.length rcap] 118, ownS 23 1 (.slice eb tg.length ec) (tg).length (ints .u64 (enOf (tg))), ownS 133 2 (.slice rb rc.length rcap) (rc).length (recC (rc)), fam (tgH q) (tg), blk b4 (List.replicate 16 (.int .u8 0)) 33]) (Weak.p1 (Weak.p1 (Weak.p1 (Weak.p1 (Weak.refl _))))) ?_
  refine R_region ?_
  refine L_val rfl rfl rfl (OpP.v (P_move rfl rfl)) ?_
  refine L_val rfl rfl rfl (OpP.v (P_eqNil rfl ty_ptr_114 rfl rfl)) ?_
  refine L_val rfl rfl rfl (OpP.v (P_move rfl rfl)) ?_
  refine L_val rfl rfl rfl (OpP.v (P_move rfl rfl)) ?_
  refine L_val rfl rfl rfl (OpP.v (P_nil rfl rfl)) ?_
  refine L_val rfl rfl rfl (OpP.v (P_fld0 rfl ty_fl_135_0 rfl)) ?_
  refine L_val rfl rfl rfl (V_load rfl rfl ty_sc_73 (by first | exact (rd_tg .h3 hi).1 | exact (rd_tg .h4 hi).1)) ?_
  refine L_val rfl rfl rfl (OpP.v (P_eqNil rfl ty_ptr_73 rfl rfl)) ?_
  refine L_val rfl rfl rfl (OpP.v (P_pick rfl rfl rfl)) ?_
  refine L_nil ?_
  refine St.env (.cons (t := 0) rfl (.cons (t := 1) rfl (.cons (t := 4) rfl (.cons (t := 5) rfl (.cons (t := 14) rfl .nil))))) ?_
  refine Q_then ?_
  refine R_condF rfl ?_
  refine R_skip ?_
  refine Q_then ?_
  refine R_seq ?_
  refine R_seq ?_
  refine R_region ?_
  refine L_val rfl rfl rfl (OpP.v (P_move rfl rfl)) ?_
  refine L_val rfl rfl rfl (OpP.v (P_len rfl ty_sl_24 rfl)) ?_
  refine L_val rfl rfl rfl (OpP.v (P_gtr rfl rfl rfl)) ?_
  refine E_false (t := 18) rfl (decide_eq_false (by omega)) ?_
  refine L_nil ?_
  refine St.env (.cons (t := 0) rfl (.cons (t := 1) rfl (.cons (t := 4) rfl (.cons (t := 5) rfl (.cons (t := 18) rfl .nil))))) ?_
  refine Q_then ?_
  refine R_condF rfl ?_
  refine R_skip ?_
  refine Q_then ?_
  refine R_seq ?_
  refine R_seq ?_
  refine R_open [(0, 0), (1, 0), (2, 0), (3, 1), (4, 0), (5, 0), (6, 0), (7, 1), (8, 0), (9, 2), (10, 0)] mixed (by kernel_rfl) (QOk.then (QOk.then QOk.body)) ?_
  refine O_pure rfl rfl rfl rfl (P_move rfl rfl) ?_
  refine O_pure rfl rfl rfl rfl (P_nil rfl rfl) ?_
  refine O_pure rfl rfl rfl rfl (P_fld0 rfl ty_fl_135_0 rfl) ?_
  refine O_val rfl rfl rfl rfl (V_load rfl rfl ty_sc_73 (by first | exact (rd_tg .h3 hi).1 | exact (rd_tg .h4 hi).1)) ?_
  refine O_pure rfl rfl rfl rfl (P_move rfl rfl) ?_
  refine O_pure rfl rfl rfl rfl (P_nil rfl rfl) ?_
  refine O_pure rfl rfl rfl rfl (P_fld0 rfl ty_fl_135_1 rfl) ?_
  refine O_val rfl rfl rfl rfl (V_load rfl rfl ty_sc_23 (by first | exact (rd_tg .h3 hi).2 | exact (rd_tg .h4 hi).2)) ?_
  refine O_pure rfl rfl rfl rfl (P_move rfl rfl) ?_
  refine O_keep rfl rfl (W_callR rfl rfl rfl rfl fn_ca_80 (rhas_ok q tg rc eb rb ec rcap hok a base c xs hb hC) (Weak.refl _) (Sn.pre (Sn.old hpre)) (K_keep (Weak.refl _) ?_))
  refine O_pure rfl rfl rfl rfl (P_not rfl rfl) ?_
  refine E_true (t := 30) rfl (by simp [hm]) ?_
  refine O_nil ?_
  refine St.env (.cons (t := 0) rfl (.cons (t := 1) rfl (.cons (t := 4) rfl (.cons (t := 5) rfl (.cons (t := 30) rfl .nil))))) ?_
  refine Q_then ?_
  refine R_condT rfl ?_
  refine St.res (rs' := [blk q [.bool true, .slice eb tg.length ec, .slice rb rc.length rcap] 118, ownS 23 1 (.slice eb tg.length ec) (tg).length (ints .u64 (enOf (tg))), ownS 133 2 (.slice rb rc.length rcap) (rc).length (recC (rc)), fam (tgH q) (tg), blk b4 (List.replicate 16 (.int .u8 0)) 33]) (Weak.refl _) ?_
  refine R_openQ [(0, 0), (1, 0), (2, 0), (3, 1), (4, 0), (5, 0), (6, 0), (7, 1), (8, 0), (9, 0), (10, 1), (11, 0), (12, 0), (13, 0), (14, 1), (15, 0), (16, 1), (17, 0), (18, 2), (19, 2), (20, 0), (21, 0), (22, 3)] [blk q [.bool true, .slice eb tg.length ec, .slice rb rc.length rcap] 118, fam (tgH q) (tg), blk b4 (List.replicate 16 (.int .u8 0)) 33] (Weak.keep (Weak.drop (Weak.drop (Weak.refl _)))) mixed (by kernel_rfl) (QOk.then QOk.body) ?_
  refine O_pureQ rfl rfl rfl rfl (P_move rfl rfl) ?_
  refine O_pureQ rfl rfl rfl rfl (P_nil rfl rfl) ?_
  refine O_pureQ rfl rfl rfl rfl (P_fld0 rfl ty_fl_135_0 rfl) ?_
  refine O_valQ rfl rfl rfl rfl (V_load rfl rfl ty_sc_73 (by first | exact (rd_tg .h1 hi).1)) ?_
  refine O_pureQ rfl rfl rfl rfl (P_move rfl rfl) ?_
  refine O_pureQ rfl rfl rfl rfl (P_nil rfl rfl) ?_
  refine O_pureQ rfl rfl rfl rfl (P_fld0 rfl ty_fl_135_0 rfl) ?_
  refine O_valQ rfl rfl rfl rfl (V_load rfl rfl ty_sc_73 (by first | exact (rd_tg .h1 hi).1)) ?_
  refine O_pureQ rfl rfl rfl rfl (P_nil rfl rfl) ?_
  refine O_pureQ rfl rfl rfl rfl (P_fld0 rfl ty_fl_118_2 rfl) ?_
  refine O_valQ rfl rfl rfl rfl (V_load rfl rfl ty_sc_116 (by first | exact Rd.blk .h0 rfl | exact Rd.blk .h1 rfl | exact Rd.blk .h2 rfl | exact Rd.blk .h3 rfl | exact Rd.blk .h4 rfl | exact Rd.blk .h5 rfl | exact Rd.blk .h6 rfl | exact Rd.blk .h7 rfl)) ?_
  refine O_pureQ rfl rfl rfl rfl (P_move rfl rfl) ?_
  refine O_pureQ rfl rfl rfl rfl (P_nil rfl rfl) ?_
  refine O_pureQ rfl rfl rfl rfl (P_fld0 rfl ty_fl_135_1 rfl) ?_
  refine O_valQ rfl rfl rfl rfl (V_load rfl rfl ty_sc_23 (by first | exact (rd_tg .h1 hi).2)) ?_
  refine O_pureQ rfl rfl rfl rfl (P_move rfl rfl) ?_
  refine O_valQ rfl rfl rfl rfl (V_str rfl (slB_spec ty_sl_24).1 ty_int_5 ty_str_9 rfl ((Sn.old hpre).rw_)) ?_
  refine O_pureQ rfl rfl rfl rfl (P_buildStruct rfl ty_pl_133 ty_ze_133 rfl rfl (rfl)) ?_
  refine E_as (t := 48) (v' := .agg [.int .u64 a, .string (strOfNums xs)].toArray) rfl (rfl) ?_
  refine O_keepQ rfl rfl (W_lit (z := .nilIface) ([.int .u64 a, .string (strOfNums xs)]) rfl rfl rfl ty_sl_116 ty_lz_116 rfl rfl rfl (by decide) (by decide) (by simp [Value.cells]) (rfl) fun b49 => (K_keepQ (Weak.drop (Weak.keep (Weak.drop (Weak.drop (Weak.refl _))))) ?_))
  refine O_keepQ rfl rfl (W_append (p := [_, _, _]) rfl rfl rfl ty_sl_116 ty_ap_116 ty_src_116 rfl rfl rfl (Src.slice (sz := 2) (news := [.int .u64 a, .string (strOfNums xs)]) (Rds.blk .h0) rfl (by intro v hv; simp only [List.mem_cons, List.not_mem_nil, or_false] at hv; rcases hv with rfl | rfl <;> rfl)) (by omega) (by simp only [maxLen]; omega) fun v50 => (K_keepQ (Weak.drop (Weak.keep (Weak.drop (Weak.drop (Weak.refl _))))) ?_))
  refine St.ownForm (p := [_, _, _]) fun nb nc hnv hnc => ?_
  subst hnv
  refine O_pureQ rfl rfl rfl rfl (P_nil rfl rfl) ?_
  refine O_pureQ rfl rfl rfl rfl (P_fld0 rfl ty_fl_118_2 rfl) ?_
  refine O_newQ rfl rfl (W_store rfl rfl rfl rfl ty_sc_116 rfl .h1 (by first | decide | (simp [ints]; done) | (simp [ints]; omega)) (K_newQ _ (Weak.refl _) ?_))
  refine O_nilQ ?_
  refine St.env (.cons (t := 0) rfl (.cons (t := 1) rfl (.cons (t := 4) rfl (.cons (t := 5) rfl .nil)))) ?_
  refine Q_then ?_
  refine R_seq ?_
  have hok2 : RecOK (rc ++ [(a, xs)]) := hok.snoc hb hmax
  refine St.res (rs' := [blk q [.bool true, .slice eb tg.length ec, .slice nb (rc.length + 1) nc] 118, ownS 23 1 (.slice eb tg.length ec) (tg).length (ints .u64 (enOf (tg))), ownS 133 2 (.slice nb (rc.length + 1) nc) (rc ++ [(a, xs)]).length (recC (rc ++ [(a, xs)])), fam (tgH q) (tg), blk b4 (List.replicate 16 (.int .u8 0)) 33]) (by rw [← recC_snoc, List.length_append]; exact Weak.drop (Weak.refl _)) ?_
  refine R_region ?_
  refine L_val rfl rfl rfl (OpP.v (P_move rfl rfl)) ?_
  refine L_val rfl rfl rfl (OpP.v (P_nil rfl rfl)) ?_
  refine L_val rfl rfl rfl (OpP.v (P_fld0 rfl ty_fl_135_1 rfl)) ?_
  refine L_val rfl rfl rfl (V_load rfl rfl ty_sc_23 (by first | exact (rd_tg .h3 hi).2 | exact (rd_tg .h4 hi).2)) ?_
  refine L_val rfl rfl rfl (OpP.v (P_move rfl rfl)) ?_
  refine L_op rfl (W_callV rfl rfl rfl rfl fn_ca_20 (of_ok hG a base c xs (by omega)) ((Sn.old hpre).rw_) ?_)
  refine L_op rfl (W_storeAll rfl rfl rfl rfl ty_ag_33 (by rw [ints_length, sealH_length]) (ints_one) .h4 (by rw [ints_length, sealH_length]; rfl) ?_)
  refine L_val rfl rfl rfl (OpP.v (P_assign rfl rfl)) ?_
  refine L_nil ?_
  refine St.env (.cons (t := 4) rfl (.cons (t := 5) rfl .nil)) ?_
  refine Q_then ?_
  refine R_ret ?_
  exact R_end (rs2 := [REF q tg (rc ++ [(a, xs)])]) rfl rfl (.cell rfl (Rds.loadVar ty_ag_33 (Rds.blk .h4) (by rw [ints_length, sealH_length])) (.tmp rfl .nil)) (⟨rfl, rfl⟩) ((ref_close (rs := [_]) hok2).trans (Weak.keep (Weak.nil _)))
theorem rsign_any {gl : Nat → Obj} (hG : GlobsR gl) (q : Nat) (tg : List (Int × Nat)) (rc : List Rcd) (i : Nat) (a : Int) (s : Nat) (hi : tg[i]? = some (a, s)) (base : Option Addr) (c : Nat) (xs : List Int) (hb : IsB xs) (hmax : xs.length ≤ 1048576) (hC : rc.length ≤ 4398046511104) : SpecR (cx gl) 65 [.pointer (some ⟨s, 0, none⟩), .slice base xs.length c] (fun w h => Seen w h base (ints .u8 xs)) [REF q tg rc] (.tuple #[.agg (ints .u8 (sealH a xs)).toArray, .int .i64 0]) [REF q tg (addR rc (a, xs))] := by
  unfold addR
  split
  · exact rsign_old hG q tg rc i a s hi base c xs hb hmax hC ‹_›
  · exact rsign_new hG q tg rc i a s hi base c xs hb hmax hC ‹_›
theorem rcheck_ok {gl : Nat → Obj} (hG : GlobsR gl) (q : Nat) (tg : List (Int × Nat)) (rc : List Rcd) (a : Int) (base : Option Addr) (c : Nat) (xs : List Int) (sl : List Int) (hb : IsB xs) (hmax : xs.length ≤ 140737488355000) (hsl : sl.length = 16) (hC : rc.length ≤ 4398046511104) : SpecR (cx gl) 69 [.pointer (some ⟨q, 0, none⟩), .int .u64 a, .slice base xs.length c, .agg (ints .u8 (sl)).toArray] (fun w h => Seen w h base (ints .u8 xs)) [REF q tg rc] (.bool (decide ((a, xs) ∈ rc) && decide (sl = sealH a xs))) [REF q tg rc] := by
  refine Spec.enter (C := cx gl) Tryd.func69 rfl 24 rfl rfl fun w0 h0 hsep hsub hpre => ?_
  show St (cx gl) _ [(0, .pointer (some ⟨q, 0, none⟩)), (1, .int .u64 a), (2, .slice base xs.length c), (3, .agg (ints .u8 (sl)).toArray)] _ _
  refine St.openP (p := []) (fun ⟨ve, vr⟩ hok => ?_)
  refine St.unbundle [] ?_
  refine St.ownForm (p := [_]) fun eb ec heb hec => ?_
  dsimp only at heb; subst heb
  refine St.ownForm (p := [_, _]) fun rb rcap hrb hrc_ => ?_
  dsimp only at hrb; subst hrb
  refine St.res (rs' := [blk q [.bool true, .slice eb tg.length ec, .slice rb rc.length rcap] 118, ownS 23 1 (.slice eb tg.length ec) (tg).length (ints .u64 (enOf (tg))), ownS 133 2 (.slice rb rc.length rcap) (rc).length (recC (rc)), fam (tgH q) (tg)]) (Weak.refl _) ?_
  refine R_seq ?_
  refine R_region ?_
  refine L_op rfl (W_box (ints .u8 sl) rfl rfl rfl rfl rfl fun b7 => ?_)
  refine L_val rfl rfl rfl (OpP.v (P_assign rfl rfl)) ?_
  refine L_nil ?_
  refine St.env (.cons (t := 0) rfl (.cons (t := 1) rfl (.cons (t := 2) rfl (.cons (t := 7) rfl (.cons (t := 8) rfl .nil))))) ?_
  refine Q_then ?_
  refine R_seq ?_
  refine R_seq ?_
  refine St.res (rs' := [blk q [.bool true, .slice eb tg.length ec, .slice rb rc.length rcap] 118, ownS 23 1 (.slice eb tg.length ec) (tg).length (ints .u64 (enOf (tg))), ownS 133 2 (.slice rb rc.length rcap) (rc).length (recC (rc)), fam (tgH q) (tg), blk b7 (ints .u8 sl) 33]) (Weak.p1 (Weak.p1 (Weak.p1 (Weak.p1 (Weak.refl _))))) ?_
  refine R_region ?_
  refine L_val rfl rfl rfl (OpP.v (P_move rfl rfl)) ?_
  refine L_op rfl (W_callR rfl rfl rfl rfl fn_ca_54 (rgood_ok q (.slice eb tg.length ec) (.slice rb rc.length rcap) true) (Split.one (p := [])) (fun _ _ _ _ _ _ _ => trivial) ?_)
  refine St.res (rs' := [blk q [.bool true, .slice eb tg.length ec, .slice rb rc.length rcap] 118, ownS 23 1 (.slice eb tg.length ec) (tg).length (ints .u64 (enOf (tg))), ownS 133 2 (.slice rb rc.length rcap) (rc).length (recC (rc)), fam (tgH q) (tg), blk b7 (ints .u8 sl) 33]) (Weak.refl _) ?_
  refine L_val rfl rfl rfl (OpP.v (P_not rfl rfl)) ?_
  refine E_false (t := 11) rfl (rfl) ?_
  refine L_val rfl rfl rfl (OpP.v (P_move rfl rfl)) ?_
  refine L_val rfl rfl rfl (OpP.v (P_move rfl rfl)) ?_
  refine L_val rfl rfl rfl (OpP.v (P_move rfl rfl)) ?_
  refine L_val rfl rfl rfl (OpP.v (P_move rfl rfl)) ?_
  refine L_op rfl (W_callR rfl rfl rfl rfl fn_ca_80 (rhas_ok q tg rc eb rb ec rcap hok a base c xs hb hC) (Weak.refl _) (Sn.pre (Sn.old hpre)) ?_)
  refine E_bool (t := 16) rfl (fun hm => ?_) (fun hm => ?_)
  · skip
    refine L_val rfl rfl rfl (OpP.v (P_not rfl rfl)) ?_
    refine L_val rfl rfl rfl (OpP.v (P_pick rfl rfl rfl)) ?_
    refine L_nil ?_
    refine St.env (.cons (t := 1) rfl (.cons (t := 2) rfl (.cons (t := 7) rfl (.cons (t := 8) rfl (.cons (t := 18) rfl .nil))))) ?_
    refine Q_then ?_
    refine R_condF rfl ?_
    refine R_skip ?_
    refine Q_then ?_
    refine R_seq ?_
    refine R_open [(0, 1), (1, 0), (2, 0), (3, 2), (4, 0), (5, 0)] mixed (by kernel_rfl) (QOk.then QOk.body) ?_
    refine O_val rfl rfl rfl rfl (V_loadAgg rfl rfl ty_ag_33 (Rds.blk .h4) (by rw [ints_length, hsl])) ?_
    refine O_pure rfl rfl rfl rfl (P_move rfl rfl) ?_
    refine O_pure rfl rfl rfl rfl (P_move rfl rfl) ?_
    refine O_keep rfl rfl (W_callV rfl rfl rfl rfl fn_ca_20 (of_ok hG a base c xs hmax) ((Sn.old hpre).rw_) (K_keep (Weak.refl _) ?_))
    refine O_pure rfl rfl rfl rfl (P_eqArr rfl rfl rfl ty_un_33 ty_int_5 ty_sc_5 ty_eg_33 (hsl) (sealH_length _ _)) ?_
    refine O_pure rfl rfl rfl rfl (P_assign rfl rfl) ?_
    refine O_nil ?_
    refine St.env (.cons (t := 8) rfl .nil) ?_
    refine Q_then ?_
    refine R_ret ?_
    exact R_end (rs2 := [REF q tg rc]) rfl rfl (.tmp rfl .nil) (⟨by show Value.bool _ = Value.bool _; rw [hm]; rfl, rfl⟩) ((ref_close (rs := [_]) hok).trans (Weak.keep (Weak.nil _)))
  · skip
    refine L_val rfl rfl rfl (OpP.v (P_not rfl rfl)) ?_
    refine L_val rfl rfl rfl (OpP.v (P_pick rfl rfl rfl)) ?_
    refine L_nil ?_
    refine St.env (.cons (t := 1) rfl (.cons (t := 2) rfl (.cons (t := 7) rfl (.cons (t := 8) rfl (.cons (t := 18) rfl .nil))))) ?_
    refine Q_then ?_
    refine R_condT rfl ?_
    refine R_seq ?_
    refine R_region ?_
    refine L_val rfl rfl rfl (OpP.v (P_assign rfl rfl)) ?_
    refine L_nil ?_
    refine St.env (.cons (t := 1) rfl (.cons (t := 2) rfl (.cons (t := 7) rfl (.cons (t := 8) rfl .nil)))) ?_
    refine Q_then ?_
    refine R_ret ?_
    refine Q_then_ret ?_
    exact R_end (rs2 := [REF q tg rc]) rfl rfl (.tmp rfl .nil) (⟨by show Value.bool _ = Value.bool _; rw [hm]; rfl, rfl⟩) ((ref_close (rs := [_]) hok).trans (Weak.keep (Weak.nil _)))
theorem msgsOf_take (rc : List Rcd) (a : Int) (i : Nat) (h : i < rc.length) : msgsOf (rc.take (i + 1)) a = msgsOf (rc.take i) a ++ (if (rc[i]).1 = a then [(rc[i]).2] else []) := by
  rw [List.take_add_one, List.getElem?_eq_getElem h]
  exact msgsOf_snoc _ _ _ _
theorem rsigned_ok {gl : Nat → Obj} (q : Nat) (tg : List (Int × Nat)) (rc : List Rcd) (a : Int) (hC : rc.length ≤ 4398046511104) : Spec (cx gl) 52 [.pointer (some ⟨q, 0, none⟩), .int .u64 a] (fun _ _ => True) [REF q tg rc] (fun v rs => ∃ ws : List (Value × List Int), ws.map (·.2) = msgsOf rc a ∧ rs = [ownS 24 1 v (ws.length) (ws.map (·.1)), fam msgH ws, REF q tg rc]) := by
  refine Spec.enter (C := cx gl) Tryd.func52 rfl 43 rfl rfl fun w0 h0 hsep hsub hpre => ?_
  show St (cx gl) _ [(0, .pointer (some ⟨q, 0, none⟩)), (1, .int .u64 a)] _ _
  refine St.openP (p := []) (fun ⟨ve, vr⟩ hok => ?_)
  refine St.unbundle [] ?_
  refine St.ownForm (p := [_]) fun eb ec heb hec => ?_
  dsimp only at heb; subst heb
  refine St.ownForm (p := [_, _]) fun rb rcap hrb hrc_ => ?_
  dsimp only at hrb; subst hrb
  refine St.res (rs' := [blk q [.bool true, .slice eb tg.length ec, .slice rb rc.length rcap] 118, ownS 23 1 (.slice eb tg.length ec) (tg).length (ints .u64 (enOf (tg))), ownS 133 2 (.slice rb rc.length rcap) (rc).length (recC (rc)), fam (tgH q) (tg)]) (Weak.refl _) ?_
  refine R_seq ?_
  refine R_region ?_
  refine L_val rfl rfl rfl (OpP.v (P_assign rfl rfl)) ?_
  refine L_nil ?_
  refine Q_then ?_
  refine R_seq ?_
  refine R_region ?_
  refine L_val rfl rfl rfl (OpP.v (P_assign rfl rfl)) ?_
  refine L_nil ?_
  refine Q_then ?_
  refine R_seq ?_
  refine R_seq ?_
  refine R_region ?_
  refine L_val rfl rfl rfl (OpP.v (P_move rfl rfl)) ?_
  refine L_op rfl (W_callR rfl rfl rfl rfl fn_ca_54 (rgood_ok q (.slice eb tg.length ec) (.slice rb rc.length rcap) true) (Split.one (p := [])) (fun _ _ _ _ _ _ _ => trivial) ?_)
  refine St.res (rs' := [blk q [.bool true, .slice eb tg.length ec, .slice rb rc.length rcap] 118, ownS 23 1 (.slice eb tg.length ec) (tg).length (ints .u64 (enOf (tg))), ownS 133 2 (.slice rb rc.length rcap) (rc).length (recC (rc)), fam (tgH q) (tg)]) (Weak.refl _) ?_
  refine L_val rfl rfl rfl (OpP.v (P_not rfl rfl)) ?_
  refine E_false (t := 9) rfl (rfl) ?_
  refine L_nil ?_
  refine St.env (.cons (t := 0) rfl (.cons (t := 1) rfl (.cons (t := 4) rfl (.cons (t := 5) rfl (.cons (t := 9) rfl .nil))))) ?_
  refine Q_then ?_
  refine R_condF rfl ?_
  refine R_skip ?_
  refine Q_then ?_
  refine R_seq ?_
  refine R_seq ?_
  refine R_region ?_
  refine L_val rfl rfl rfl (OpP.v (P_assign rfl rfl)) ?_
  refine L_nil ?_
  refine St.env (.cons (t := 0) rfl (.cons (t := 1) rfl (.cons (t := 4) rfl (.cons (t := 5) rfl (.cons (t := 6) rfl .nil))))) ?_
  refine Q_then ?_
  refine R_block ?_
  refine R_loopE (G := Value × Nat × List (Value × List Int)) (.cons (t := 0) rfl (.cons (t := 1) rfl (.cons (t := 4) rfl .nil))) (fun g => [(5, g.1), (6, .int .i64 (g.2.1 : Int))]) (fun g => [ownS 24 1 g.1 (g.2.2.length) (g.2.2.map (·.1)), fam msgH g.2.2, blk q [.bool true, .slice eb tg.length ec, .slice rb rc.length rcap] 118, ownS 23 1 (.slice eb tg.length ec) (tg).length (ints .u64 (enOf (tg))), ownS 133 2 (.slice rb rc.length rcap) (rc).length (recC (rc)), fam (tgH q) (tg)]) (fun g => g.2.1 ≤ rc.length ∧ g.2.2.length ≤ g.2.1 ∧ g.2.2.map (·.2) = msgsOf (rc.take g.2.1) a) (fun g => rc.length - g.2.1) (.slice none 0 0, 0, []) (⟨Nat.zero_le _, Nat.le_refl _, rfl⟩) (by repeat (first | exact .nil | refine .cons rfl ?_ | refine .consE rfl (by first | rfl | (congr 1; omega) | (congr 1; push_cast; omega)) ?_)) (Weak.newNil.trans (Weak.keep Weak.famNil)) ?_
  rintro ⟨v, i, ws⟩ hinv
  replace hinv : i ≤ rc.length ∧ ws.length ≤ i ∧ ws.map (·.2) = msgsOf (rc.take i) a := hinv
  show St (cx gl) _ ((5, v) :: (6, .int .i64 (i : Int)) :: _) [ownS 24 1 v (ws.length) (ws.map (·.1)), fam msgH ws, blk q [.bool true, .slice eb tg.length ec, .slice rb rc.length rcap] 118, ownS 23 1 (.slice eb tg.length ec) (tg).length (ints .u64 (enOf (tg))), ownS 133 2 (.slice rb rc.length rcap) (rc).length (recC (rc)), fam (tgH q) (tg)] _
  obtain ⟨hi, hwl, hws⟩ := hinv
  refine R_seq ?_
  refine R_seq ?_
  refine R_region ?_
  refine L_val rfl rfl rfl (OpP.v (P_move rfl rfl)) ?_
  refine L_val rfl rfl rfl (OpP.v (P_move rfl rfl)) ?_
  refine L_val rfl rfl rfl (OpP.v (P_nil rfl rfl)) ?_
  refine L_val rfl rfl rfl (OpP.v (P_fld0 rfl ty_fl_118_2 rfl)) ?_
  refine L_val rfl rfl rfl (V_load rfl rfl ty_sc_116 (by first | exact Rd.blk .h0 rfl | exact Rd.blk .h1 rfl | exact Rd.blk .h2 rfl | exact Rd.blk .h3 rfl | exact Rd.blk .h4 rfl | exact Rd.blk .h5 rfl | exact Rd.blk .h6 rfl | exact Rd.blk .h7 rfl)) ?_
  refine L_val rfl rfl rfl (OpP.v (P_len rfl ty_sl_116 rfl)) ?_
  refine L_val rfl rfl rfl (OpP.v (P_lss rfl rfl rfl)) ?_
  refine L_nil ?_
  refine Q_then ?_
  refine R_condP rfl (fun hlt0 => ?_) (fun hlt0 => ?_)
  · skip
    have hlt : i < rc.length := by omega
    have hel := hok _ (List.getElem_mem hlt)
    refine St.ownSome (p := [_, _, _, _]) (by omega) fun rbb rbc hrb2 _ => ?_
    simp only [Value.slice.injEq] at hrb2
    obtain ⟨rfl, _, rfl⟩ := hrb2
    refine R_skip ?_
    refine Q_then ?_
    refine R_seq ?_
    refine R_block ?_
    refine R_seq ?_
    refine R_region ?_
    refine L_val rfl rfl rfl (OpP.v (P_move rfl rfl)) ?_
    refine L_val rfl rfl rfl (OpP.v (P_nil rfl rfl)) ?_
    refine L_val rfl rfl rfl (OpP.v (P_fld0 rfl ty_fl_118_2 rfl)) ?_
    refine L_val rfl rfl rfl (V_load rfl rfl ty_sc_116 (by first | exact Rd.blk .h0 rfl | exact Rd.blk .h1 rfl | exact Rd.blk .h2 rfl | exact Rd.blk .h3 rfl | exact Rd.blk .h4 rfl | exact Rd.blk .h5 rfl | exact Rd.blk .h6 rfl | exact Rd.blk .h7 rfl)) ?_
    refine L_val rfl rfl rfl (OpP.v (P_move rfl rfl)) ?_
    refine L_val rfl rfl rfl (OpP.v (P_ixs (i) rfl ty_sl_116 rfl rfl (by first | rfl | omega) (by omega))) ?_
    refine L_val rfl rfl rfl (OpP.v (P_fld rfl ty_fl_133_0 rfl)) ?_
    refine L_val rfl rfl rfl (V_load rfl rfl ty_sc_23 ((rd_rec .h4 (List.getElem?_eq_getElem hlt)).1)) ?_
    refine L_val rfl rfl rfl (OpP.v (P_move rfl rfl)) ?_
    refine L_val rfl rfl rfl (OpP.v (P_eql rfl rfl rfl)) ?_
    refine L_nil ?_
    refine Q_then ?_
    refine R_condP rfl (fun hq => ?_) (fun hq => ?_)
    · skip
      refine R_region ?_
      refine L_val rfl rfl rfl (OpP.v (P_move rfl rfl)) ?_
      refine L_val rfl rfl rfl (OpP.v (P_move rfl rfl)) ?_
      refine L_val rfl rfl rfl (OpP.v (P_nil rfl rfl)) ?_
      refine L_val rfl rfl rfl (OpP.v (P_fld0 rfl ty_fl_118_2 rfl)) ?_
      refine L_val rfl rfl rfl (V_load rfl rfl ty_sc_116 (by first | exact Rd.blk .h0 rfl | exact Rd.blk .h1 rfl | exact Rd.blk .h2 rfl | exact Rd.blk .h3 rfl | exact Rd.blk .h4 rfl | exact Rd.blk .h5 rfl | exact Rd.blk .h6 rfl | exact Rd.blk .h7 rfl)) ?_
      refine L_val rfl rfl rfl (OpP.v (P_move rfl rfl)) ?_
      refine L_val rfl rfl rfl (OpP.v (P_ixs (i) rfl ty_sl_116 rfl rfl (by first | rfl | omega) (by omega))) ?_
      refine L_val rfl rfl rfl (OpP.v (P_fld rfl ty_fl_133_1 rfl)) ?_
      refine L_val rfl rfl rfl (V_load rfl rfl ty_sc_9 ((rd_rec .h4 (List.getElem?_eq_getElem hlt)).2)) ?_
      refine L_op rfl (W_bytes rfl rfl rfl ty_str_9 (slB_spec ty_sl_24).1 ty_int_5 rfl (hel.1) (by have := hel.2; simp only [maxLen]; omega) fun v39 => ?_)
      refine St.ownForm (p := []) fun mb mc hmv hmc => ?_
      subst hmv
      refine L_op rfl (W_lit (z := .nilIface) ([.slice mb ((rc[i]).2).length mc]) rfl rfl rfl ty_sl_60 ty_lz_60 rfl rfl rfl (by decide) (by decide) (by simp [Value.cells]) (rfl) fun b40 => ?_)
      refine L_op rfl (W_append (p := [_, _]) rfl rfl rfl ty_sl_60 ty_ap_60 ty_src_60 rfl rfl rfl (Src.slice (sz := 1) (news := [.slice mb ((rc[i]).2).length mc]) (Rds.blk .h0) rfl (by intro v hv; simp only [List.mem_singleton] at hv; subst hv; rfl)) (by omega) (by simp only [maxLen]; omega) fun v41 => ?_)
      refine L_val rfl rfl rfl (OpP.v (P_assign rfl rfl)) ?_
      refine L_nil ?_
      refine Q_block ?_
      refine Q_then ?_
      refine R_region ?_
      refine L_val rfl rfl rfl (OpP.v (P_move rfl rfl)) ?_
      first | (refine L_val rfl rfl rfl (OpP.v (P_addN rfl rfl rfl (by simp only [fits]; omega))) ?_) | (refine L_val rfl rfl rfl (OpP.v (P_add rfl rfl rfl)) ?_)
      refine L_val rfl rfl rfl (OpP.v (P_assign rfl rfl)) ?_
      refine L_nil ?_
      exact Q_round (v41, i + 1, ws ++ [(.slice mb ((rc[i]).2).length mc, (rc[i]).2)]) (⟨by show i + 1 ≤ _; omega, by show (ws ++ [_]).length ≤ i + 1; rw [List.length_append, List.length_singleton]; omega, by show List.map (fun x : Value × List Int => x.2) (ws ++ [_]) = msgsOf (rc.take (i + 1)) a; rw [msgsOf_take rc a i hlt, if_pos hq, List.map_append, hws]; rfl⟩) (by show rc.length - (i + 1) < rc.length - i; omega) (by repeat (first | exact .nil | refine .cons rfl ?_ | refine .consE rfl (by first | rfl | (congr 1; omega) | (congr 1; push_cast; omega)) ?_)) (by rw [List.map_append, List.length_append]; exact Weak.drop (Weak.p1 (Weak.famAdd (f := msgH) (x := (.slice mb ((rc[i]).2).length mc, (rc[i]).2)))))
    · skip
      refine R_skip ?_
      refine Q_block ?_
      refine Q_then ?_
      refine R_region ?_
      refine L_val rfl rfl rfl (OpP.v (P_move rfl rfl)) ?_
      first | (refine L_val rfl rfl rfl (OpP.v (P_addN rfl rfl rfl (by simp only [fits]; omega))) ?_) | (refine L_val rfl rfl rfl (OpP.v (P_add rfl rfl rfl)) ?_)
      refine L_val rfl rfl rfl (OpP.v (P_assign rfl rfl)) ?_
      refine L_nil ?_
      exact Q_round (v, i + 1, ws) (⟨by show i + 1 ≤ _; omega, by show ws.length ≤ i + 1; omega, by show List.map (fun x : Value × List Int => x.2) ws = msgsOf (rc.take (i + 1)) a; rw [msgsOf_take rc a i hlt, if_neg hq, List.append_nil, hws]⟩) (by show rc.length - (i + 1) < rc.length - i; omega) (by repeat (first | exact .nil | refine .cons rfl ?_ | refine .consE rfl (by first | rfl | (congr 1; omega) | (congr 1; push_cast; omega)) ?_)) (Weak.refl _)
  · skip
    obtain rfl : i = rc.length := by omega
    refine R_exit ?_
    refine Q_then_exit ?_
    refine Q_then_exit ?_
    refine Q_block_eq ?_
    refine St.env (.cons (t := 4) rfl (.cons (t := 5) rfl .nil)) ?_
    refine Q_then ?_
    refine R_seq ?_
    refine R_region ?_
    refine L_val rfl rfl rfl (OpP.v (P_move rfl rfl)) ?_
    refine L_val rfl rfl rfl (OpP.v (P_assign rfl rfl)) ?_
    refine L_nil ?_
    refine St.env (.cons (t := 4) rfl .nil) ?_
    refine Q_then ?_
    refine R_ret ?_
    exact R_end (rs2 := _) rfl rfl (.tmp rfl .nil) (⟨ws, by rw [hws, List.take_of_length_le (Nat.le_refl _)], rfl⟩) (Weak.keep (Weak.keep (ref_close (rs := []) hok)))
end Go.Proofs.YtnaadddnbfnahaaDoor
