/- Two registries: begin, shown, enters. Printed by gen.py. -/
import Derived.Test.YtnaadddnbfnahaaDoorU1
set_option linter.unusedVariables false
set_option linter.unusedSimpArgs false
set_option maxRecDepth 100000
namespace Go.Proofs.YtnaadddnbfnahaaDoor
open Go Go.RowKit Go.Proofs
theorem Spec.openEx {C : Cx} {f : FuncId} {args : List Value} {pre : World → Heap → Prop} {X : Type} {p : X → Prop} {s : X → List HP} {post : Value → List HP → Prop} (h : ∀ x, p x → Spec C f args pre (s x) post) : Spec C f args pre [ExP p fun x => bundle (s x)] post := fun w k hs hu hp => by
  obtain ⟨x, hx, hb⟩ := Sep.single.1 hs
  exact h x hx w k hb hu hp
structure Side where
  p : Nat
  q : Nat
  sg : List (Int × Nat)
  tg : List (Int × Nat)
  rc : List Rcd
  vs : Value
  vt : Value
def Side.ok (n : Nat) (s : Side) : Prop := enOf s.sg = enOf s.tg ∧ s.sg.length ≤ n ∧ s.rc.length ≤ n
def ptrs (sg : List (Int × Nat)) : List Value := sg.map fun x => .pointer (some ⟨x.2, 0, none⟩)
structure Tw where
  A : Side
  B : Side
  z : Value
  ss : List (List Int)
def Tw.ok (n : Nat) (t : Tw) : Prop := t.A.ok n ∧ t.B.ok n ∧ t.ss.length ≤ n ∧ ∀ s ∈ t.ss, s.length = 16
def sideL (s : Side) : List HP := [REG s.p s.sg s.rc, REF s.q s.tg s.rc, ownS 27 1 s.vs s.sg.length (ptrs s.sg), ownS 114 1 s.vt s.tg.length (ptrs s.tg)]
def twL (w : Nat) (t : Tw) : List HP := blk w [.pointer (some ⟨t.A.p, 0, none⟩), .pointer (some ⟨t.B.p, 0, none⟩), .pointer (some ⟨t.A.q, 0, none⟩), .pointer (some ⟨t.B.q, 0, none⟩), t.A.vs, t.B.vs, t.A.vt, t.B.vt, t.z] 79 :: (sideL t.A ++ (sideL t.B ++ [ownS 33 16 t.z t.ss.length (flat .u8 t.ss)]))
/-- Two registries of the program, and those of the document in which the same was done. -/
def TWO (w n : Nat) : HP := ExP (Tw.ok n) fun t => bundle (twL w t)
theorem two_close {w n : Nat} (t : Tw) {rs : List HP} (h : t.ok n) : Weak (twL w t ++ rs) (TWO w n :: rs) := Weak.bundle.trans (Weak.toEx (p := Tw.ok n) (s := fun t => bundle (twL w t)) t h)
theorem enOf_len {sg tg : List (Int × Nat)} (h : enOf sg = enOf tg) : sg.length = tg.length := by rw [← enOf_length sg, h, enOf_length]
theorem isIn_iff (sg : List (Int × Nat)) (a : Int) : isIn sg a = true ↔ a ∈ enOf sg := by
  unfold isIn sgP enOf
  rw [Option.isSome_map, List.find?_isSome]
  simp [List.mem_map]
theorem snoc_le {α : Type} {l : List α} {x : α} {n : Nat} (h : l.length ≤ n) : (l ++ [x]).length ≤ n + 1 := by rw [List.length_append, List.length_singleton]; omega
theorem enOf_snoc (sg : List (Int × Nat)) (a : Int) (s : Nat) : enOf (sg ++ [(a, s)]) = enOf sg ++ [a] := by simp [enOf]
theorem ptrs_snoc (sg : List (Int × Nat)) (a : Int) (s : Nat) : ptrs sg ++ [.pointer (some ⟨s, 0, none⟩)] = ptrs (sg ++ [(a, s)]) := by simp [ptrs]
theorem ptrs_at {sg : List (Int × Nat)} {i : Nat} {a : Int} {s : Nat} (h : sg[i]? = some (a, s)) : (ptrs sg)[i]? = some (.pointer (some ⟨s, 0, none⟩)) := by simp [ptrs, h]
theorem enOf_at {sg tg : List (Int × Nat)} (h : enOf sg = enOf tg) {i : Nat} {a : Int} {s : Nat} (hs : sg[i]? = some (a, s)) : ∃ t, tg[i]? = some (a, t) := by
  have := congrArg (fun l => l[i]?) h
  simp only [enOf, List.getElem?_map, hs, Option.map_some] at this
  cases ht : tg[i]? with
  | none => rw [ht] at this; cases this
  | some y =>
    rw [ht] at this
    simp only [Option.map_some, Option.some.injEq] at this
    obtain ⟨b, t⟩ := y
    exact ⟨t, by simp at this; rw [this]⟩
theorem enters_zero0 {gl : Nat → Obj} (w n : Nat) (p0 q0 p1 q1 : Nat) (sg0 tg0 sg1 tg1 : List (Int × Nat)) (rc0 rc1 : List Rcd) (vs0 vt0 vs1 vt1 z : Value) (ss : List (List Int)) (hen0 : enOf sg0 = enOf tg0) (hen1 : enOf sg1 = enOf tg1) (hs0 : sg0.length ≤ n) (hs1 : sg1.length ≤ n) (hr0 : rc0.length ≤ n) (hr1 : rc1.length ≤ n) (hzl : ss.length ≤ n) (hz16 : ∀ s ∈ ss, s.length = 16) (hn : n ≤ 1599289640354) (kd wh at_ a : Int) (base : Option Addr) (c : Nat) (xs sl : List Int) (tw : Int) (lg : Bool) (ha : a = 0) : SpecR (cx gl) 48 [.pointer (some ⟨w, 0, none⟩), .int .i64 0, .agg (opC kd wh at_ a base xs.length c sl tw lg).toArray] (fun _ _ => True) [blk w [.pointer (some ⟨p0, 0, none⟩), .pointer (some ⟨p1, 0, none⟩), .pointer (some ⟨q0, 0, none⟩), .pointer (some ⟨q1, 0, none⟩), vs0, vs1, vt0, vt1, z] 79, REG p0 (sg0) (rc0), REF q0 (tg0) (rc0), ownS 27 1 (vs0) (sg0).length (ptrs (sg0)), ownS 114 1 (vt0) (tg0).length (ptrs (tg0)), REG p1 (sg1) (rc1), REF q1 (tg1) (rc1), ownS 27 1 (vs1) (sg1).length (ptrs (sg1)), ownS 114 1 (vt1) (tg1).length (ptrs (tg1)), ownS 33 16 (z) (ss).length (flat .u8 (ss))] (.bool true) [TWO w (n + 1)] := by
  refine Spec.enter (C := cx gl) Tryd.func48 rfl 77 rfl rfl fun w0 h0 hsep hsub hpre => ?_
  show St (cx gl) _ [(0, .pointer (some ⟨w, 0, none⟩)), (1, .int .i64 0), (2, .agg (opC kd wh at_ a base xs.length c sl tw lg).toArray)] _ _
  have htl0 : tg0.length = sg0.length := (enOf_len hen0).symm
  have htl1 : tg1.length = sg1.length := (enOf_len hen1).symm
  refine St.ownForm (p := [_, _, _]) fun sb0 sc0 hsb0_ hsc0 => ?_
  subst hsb0_
  refine St.ownForm (p := [_, _, _, _]) fun tb0 tc0 htb0_ htc0 => ?_
  subst htb0_
  refine St.ownForm (p := [_, _, _, _, _, _, _]) fun sb1 sc1 hsb1_ hsc1 => ?_
  subst hsb1_
  refine St.ownForm (p := [_, _, _, _, _, _, _, _]) fun tb1 tc1 htb1_ htc1 => ?_
  subst htb1_
  refine St.ownForm (p := [_, _, _, _, _, _, _, _, _]) fun zb zc hzb_ hzc => ?_
  subst hzb_
  refine St.res (rs' := [blk w [.pointer (some ⟨p0, 0, none⟩), .pointer (some ⟨p1, 0, none⟩), .pointer (some ⟨q0, 0, none⟩), .pointer (some ⟨q1, 0, none⟩), .slice sb0 sg0.length sc0, .slice sb1 sg1.length sc1, .slice tb0 tg0.length tc0, .slice tb1 tg1.length tc1, .slice zb ss.length zc] 79, REG p0 (sg0) (rc0), REF q0 (tg0) (rc0), ownS 27 1 (.slice sb0 sg0.length sc0) (sg0).length (ptrs (sg0)), ownS 114 1 (.slice tb0 tg0.length tc0) (tg0).length (ptrs (tg0)), REG p1 (sg1) (rc1), REF q1 (tg1) (rc1), ownS 27 1 (.slice sb1 sg1.length sc1) (sg1).length (ptrs (sg1)), ownS 114 1 (.slice tb1 tg1.length tc1) (tg1).length (ptrs (tg1)), ownS 33 16 (.slice zb ss.length zc) (ss).length (flat .u8 (ss))]) (Weak.refl _) ?_
  refine R_seq ?_
  refine R_region ?_
  refine L_op rfl (W_box (opC kd wh at_ a base xs.length c sl tw lg) rfl rfl rfl rfl rfl fun b5 => ?_)
  refine L_val rfl rfl rfl (OpP.v (P_assign rfl rfl)) ?_
  refine L_nil ?_
  refine St.env (.cons (t := 0) rfl (.cons (t := 1) rfl (.cons (t := 5) rfl (.cons (t := 6) rfl .nil)))) ?_
  refine Q_then ?_
  refine R_seq ?_
  refine St.res (rs' := [blk w [.pointer (some ⟨p0, 0, none⟩), .pointer (some ⟨p1, 0, none⟩), .pointer (some ⟨q0, 0, none⟩), .pointer (some ⟨q1, 0, none⟩), .slice sb0 sg0.length sc0, .slice sb1 sg1.length sc1, .slice tb0 tg0.length tc0, .slice tb1 tg1.length tc1, .slice zb ss.length zc] 79, blk b5 (opC kd wh at_ a base xs.length c sl tw lg) 72, REG p0 (sg0) (rc0), REF q0 (tg0) (rc0), ownS 27 1 (.slice sb0 sg0.length sc0) (sg0).length (ptrs (sg0)), ownS 114 1 (.slice tb0 tg0.length tc0) (tg0).length (ptrs (tg0)), ownS 33 16 (.slice zb ss.length zc) (ss).length (flat .u8 (ss)), REG p1 (sg1) (rc1), REF q1 (tg1) (rc1), ownS 27 1 (.slice sb1 sg1.length sc1) (sg1).length (ptrs (sg1)), ownS 114 1 (.slice tb1 tg1.length tc1) (tg1).length (ptrs (tg1))]) ((Weak.swap.trans (Weak.refl _)).trans (Weak.keep (Weak.keep (Weak.keep (Weak.keep (Weak.keep (Weak.keep (Weak.pick (p := [_, _, _, _]) (Weak.keep (Weak.keep (Weak.keep (Weak.keep (Weak.nil _))))))))))))) ?_
  refine R_open [(0, 0), (1, 0), (2, 0), (3, 0), (4, 0), (5, 1), (6, 0), (7, 1), (8, 2), (9, 0), (10, 0), (11, 0), (12, 0), (13, 0)] mixed (by kernel_rfl) (QOk.then QOk.body) ?_
  refine O_pure rfl rfl rfl rfl (P_move rfl rfl) ?_
  refine O_pure rfl rfl rfl rfl (P_move rfl rfl) ?_
  refine O_pure rfl rfl rfl rfl (P_nil rfl rfl) ?_
  refine O_pure rfl rfl rfl rfl (P_fld0 rfl ty_fl_79_0 rfl) ?_
  first | (refine O_pure rfl rfl rfl rfl (P_ixa0 (0) rfl ty_ar_53 rfl rfl (by first | rfl | omega) (by omega)) ?_) | (refine O_pure rfl rfl rfl rfl (P_ixa (0) rfl ty_ar_53 rfl rfl (by first | rfl | omega) (by omega)) ?_)
  refine O_val rfl rfl rfl rfl (V_load rfl rfl ty_sc_25 (Rd.blk .h0 rfl)) ?_
  refine O_pure rfl rfl rfl rfl (P_fld0 rfl ty_fl_72_3 rfl) ?_
  refine O_val rfl rfl rfl rfl (V_load rfl rfl ty_sc_23 (Rd.blk .h1 rfl)) ?_
  refine O_keep rfl rfl (W_callR rfl rfl rfl rfl fn_ca_16 (by subst ha; exact enter_zero p0 sg0 rc0) (Split.one (p := [_, _])) (fun _ _ _ _ _ _ _ => trivial) (K_keep (Weak.p1 (Weak.p1 (Weak.refl _))) ?_))
  refine O_pure rfl rfl rfl rfl (P_move rfl rfl) ?_
  refine O_pure rfl rfl rfl rfl (P_extract rfl rfl rfl) ?_
  refine O_pure rfl rfl rfl rfl (P_extract rfl rfl rfl) ?_
  refine O_pure rfl rfl rfl rfl (P_assign rfl rfl) ?_
  refine O_pure rfl rfl rfl rfl (P_assign rfl rfl) ?_
  refine O_nil ?_
  refine St.env (.cons (t := 0) rfl (.cons (t := 1) rfl (.cons (t := 5) rfl (.cons (t := 6) rfl (.cons (t := 7) rfl (.cons (t := 8) rfl .nil)))))) ?_
  refine Q_then ?_
  refine R_seq ?_
  refine St.res (rs' := [blk w [.pointer (some ⟨p0, 0, none⟩), .pointer (some ⟨p1, 0, none⟩), .pointer (some ⟨q0, 0, none⟩), .pointer (some ⟨q1, 0, none⟩), .slice sb0 sg0.length sc0, .slice sb1 sg1.length sc1, .slice tb0 tg0.length tc0, .slice tb1 tg1.length tc1, .slice zb ss.length zc] 79, blk b5 (opC kd wh at_ a base xs.length c sl tw lg) 72, REG p0 (sg0) (rc0), REF q0 (tg0) (rc0), ownS 27 1 (.slice sb0 sg0.length sc0) (sg0).length (ptrs (sg0)), ownS 114 1 (.slice tb0 tg0.length tc0) (tg0).length (ptrs (tg0)), ownS 33 16 (.slice zb ss.length zc) (ss).length (flat .u8 (ss)), REG p1 (sg1) (rc1), REF q1 (tg1) (rc1), ownS 27 1 (.slice sb1 sg1.length sc1) (sg1).length (ptrs (sg1)), ownS 114 1 (.slice tb1 tg1.length tc1) (tg1).length (ptrs (tg1))]) (Weak.p1 (Weak.p1 (Weak.refl _))) ?_
  refine R_open [(0, 0), (1, 0), (2, 0), (3, 0), (4, 0), (5, 1), (6, 0), (7, 1), (8, 2), (9, 0), (10, 0), (11, 0), (12, 0), (13, 0)] mixed (by kernel_rfl) (QOk.then QOk.body) ?_
  refine O_pure rfl rfl rfl rfl (P_move rfl rfl) ?_
  refine O_pure rfl rfl rfl rfl (P_move rfl rfl) ?_
  refine O_pure rfl rfl rfl rfl (P_nil rfl rfl) ?_
  refine O_pure rfl rfl rfl rfl (P_fld0 rfl ty_fl_79_1 rfl) ?_
  first | (refine O_pure rfl rfl rfl rfl (P_ixa0 (0) rfl ty_ar_74 rfl rfl (by first | rfl | omega) (by omega)) ?_) | (refine O_pure rfl rfl rfl rfl (P_ixa (0) rfl ty_ar_74 rfl rfl (by first | rfl | omega) (by omega)) ?_)
  refine O_val rfl rfl rfl rfl (V_load rfl rfl ty_sc_73 (Rd.blk .h0 rfl)) ?_
  refine O_pure rfl rfl rfl rfl (P_fld0 rfl ty_fl_72_3 rfl) ?_
  refine O_val rfl rfl rfl rfl (V_load rfl rfl ty_sc_23 (Rd.blk .h1 rfl)) ?_
  refine O_keep rfl rfl (W_callR rfl rfl rfl rfl fn_ca_62 (by subst ha; exact renter_zero q0 tg0 rc0) (Split.one (p := [_, _, _])) (fun _ _ _ _ _ _ _ => trivial) (K_keep (Weak.p1 (Weak.p1 (Weak.p1 (Weak.refl _)))) ?_))
  refine O_pure rfl rfl rfl rfl (P_move rfl rfl) ?_
  refine O_pure rfl rfl rfl rfl (P_extract rfl rfl rfl) ?_
  refine O_pure rfl rfl rfl rfl (P_extract rfl rfl rfl) ?_
  refine O_pure rfl rfl rfl rfl (P_assign rfl rfl) ?_
  refine O_pure rfl rfl rfl rfl (P_assign rfl rfl) ?_
  refine O_nil ?_
  refine St.env (.cons (t := 0) rfl (.cons (t := 1) rfl (.cons (t := 6) rfl (.cons (t := 7) rfl (.cons (t := 8) rfl (.cons (t := 9) rfl (.cons (t := 10) rfl .nil))))))) ?_
  refine Q_then ?_
  refine R_seq ?_
  refine R_seq ?_
  refine St.res (rs' := [blk w [.pointer (some ⟨p0, 0, none⟩), .pointer (some ⟨p1, 0, none⟩), .pointer (some ⟨q0, 0, none⟩), .pointer (some ⟨q1, 0, none⟩), .slice sb0 sg0.length sc0, .slice sb1 sg1.length sc1, .slice tb0 tg0.length tc0, .slice tb1 tg1.length tc1, .slice zb ss.length zc] 79, blk b5 (opC kd wh at_ a base xs.length c sl tw lg) 72, REG p0 (sg0) (rc0), REF q0 (tg0) (rc0), ownS 27 1 (.slice sb0 sg0.length sc0) (sg0).length (ptrs (sg0)), ownS 114 1 (.slice tb0 tg0.length tc0) (tg0).length (ptrs (tg0)), ownS 33 16 (.slice zb ss.length zc) (ss).length (flat .u8 (ss)), REG p1 (sg1) (rc1), REF q1 (tg1) (rc1), ownS 27 1 (.slice sb1 sg1.length sc1) (sg1).length (ptrs (sg1)), ownS 114 1 (.slice tb1 tg1.length tc1) (tg1).length (ptrs (tg1))]) (Weak.p1 (Weak.p1 (Weak.p1 (Weak.refl _)))) ?_
  refine R_region ?_
  refine L_val rfl rfl rfl (OpP.v (P_move rfl rfl)) ?_
  refine L_op rfl (W_callV rfl rfl rfl rfl fn_ca_17 (num_ok 2) (fun _ _ => trivial) ?_)
  refine L_val rfl rfl rfl (OpP.v (P_move rfl rfl)) ?_
  refine L_op rfl (W_callV rfl rfl rfl rfl fn_ca_17 (num_ok 2) (fun _ _ => trivial) ?_)
  refine L_val rfl rfl rfl (OpP.v (P_neq rfl rfl rfl)) ?_
  refine E_false (t := 39) rfl (rfl) ?_
  refine L_val rfl rfl rfl (OpP.v (P_move rfl rfl)) ?_
  refine L_val rfl rfl rfl (OpP.v (P_move rfl rfl)) ?_
  refine L_val rfl rfl rfl (OpP.v (P_eqNil0 rfl ty_ptr_27 rfl rfl)) ?_
  refine L_val rfl rfl rfl (OpP.v (P_move rfl rfl)) ?_
  refine L_val rfl rfl rfl (OpP.v (P_eqNil0 rfl ty_ptr_114 rfl rfl)) ?_
  refine L_val rfl rfl rfl (OpP.v (P_neq_bool rfl ty_bool_4 rfl rfl)) ?_
  refine E_false (t := 45) rfl (rfl) ?_
  refine L_val rfl rfl rfl (OpP.v (P_pick rfl rfl rfl)) ?_
  refine L_nil ?_
  refine St.env (.cons (t := 0) rfl (.cons (t := 1) rfl (.cons (t := 6) rfl (.cons (t := 7) rfl (.cons (t := 9) rfl (.cons (t := 46) rfl .nil)))))) ?_
  refine Q_then ?_
  refine R_condF rfl ?_
  refine R_skip ?_
  refine Q_then ?_
  refine R_seq ?_
  refine R_seq ?_
  refine R_region ?_
  refine L_val rfl rfl rfl (OpP.v (P_move rfl rfl)) ?_
  refine L_val rfl rfl rfl (OpP.v (P_neNil0 rfl ty_ptr_114 rfl rfl)) ?_
  refine L_nil ?_
  refine St.env (.cons (t := 0) rfl (.cons (t := 1) rfl (.cons (t := 6) rfl (.cons (t := 7) rfl (.cons (t := 9) rfl (.cons (t := 48) rfl .nil)))))) ?_
  refine Q_then ?_
  refine R_condF rfl ?_
  refine R_skip ?_
  refine Q_then ?_
  refine R_seq ?_
  refine R_region ?_
  refine L_val rfl rfl rfl (OpP.v (P_assign rfl rfl)) ?_
  refine L_nil ?_
  refine St.env (.cons (t := 6) rfl .nil) ?_
  refine Q_then ?_
  refine R_ret ?_
  exact R_end (rs2 := [TWO w (n + 1)]) rfl rfl (.tmp rfl .nil) (⟨rfl, rfl⟩) ((Weak.keep (Weak.drop (Weak.refl _))).trans ((Weak.keep (Weak.keep (Weak.keep (Weak.keep (Weak.keep (Weak.pick (p := [_]) (Weak.pick (p := [_]) (Weak.pick (p := [_]) (Weak.pick (p := [_]) (Weak.keep (Weak.nil _))))))))))).trans (two_close (n := n + 1) (rs := []) ⟨⟨p0, q0, sg0, tg0, rc0, .slice sb0 sg0.length sc0, .slice tb0 tg0.length tc0⟩, ⟨p1, q1, sg1, tg1, rc1, .slice sb1 sg1.length sc1, .slice tb1 tg1.length tc1⟩, .slice zb ss.length zc, ss⟩ ⟨⟨hen0, Nat.le_succ_of_le hs0, Nat.le_succ_of_le hr0⟩, ⟨hen1, Nat.le_succ_of_le hs1, Nat.le_succ_of_le hr1⟩, Nat.le_succ_of_le hzl, hz16⟩)))
theorem enters_twice0 {gl : Nat → Obj} (w n : Nat) (p0 q0 p1 q1 : Nat) (sg0 tg0 sg1 tg1 : List (Int × Nat)) (rc0 rc1 : List Rcd) (vs0 vt0 vs1 vt1 z : Value) (ss : List (List Int)) (hen0 : enOf sg0 = enOf tg0) (hen1 : enOf sg1 = enOf tg1) (hs0 : sg0.length ≤ n) (hs1 : sg1.length ≤ n) (hr0 : rc0.length ≤ n) (hr1 : rc1.length ≤ n) (hzl : ss.length ≤ n) (hz16 : ∀ s ∈ ss, s.length = 16) (hn : n ≤ 1599289640354) (kd wh at_ a : Int) (base : Option Addr) (c : Nat) (xs sl : List Int) (tw : Int) (lg : Bool) (ha : a ≠ 0) (hin : isIn sg0 a = true) : SpecR (cx gl) 48 [.pointer (some ⟨w, 0, none⟩), .int .i64 0, .agg (opC kd wh at_ a base xs.length c sl tw lg).toArray] (fun _ _ => True) [blk w [.pointer (some ⟨p0, 0, none⟩), .pointer (some ⟨p1, 0, none⟩), .pointer (some ⟨q0, 0, none⟩), .pointer (some ⟨q1, 0, none⟩), vs0, vs1, vt0, vt1, z] 79, REG p0 (sg0) (rc0), REF q0 (tg0) (rc0), ownS 27 1 (vs0) (sg0).length (ptrs (sg0)), ownS 114 1 (vt0) (tg0).length (ptrs (tg0)), REG p1 (sg1) (rc1), REF q1 (tg1) (rc1), ownS 27 1 (vs1) (sg1).length (ptrs (sg1)), ownS 114 1 (vt1) (tg1).length (ptrs (tg1)), ownS 33 16 (z) (ss).length (flat .u8 (ss))] (.bool true) [TWO w (n + 1)] := by
  refine Spec.enter (C := cx gl) Tryd.func48 rfl 77 rfl rfl fun w0 h0 hsep hsub hpre => ?_
  show St (cx gl) _ [(0, .pointer (some ⟨w, 0, none⟩)), (1, .int .i64 0), (2, .agg (opC kd wh at_ a base xs.length c sl tw lg).toArray)] _ _
  have htl0 : tg0.length = sg0.length := (enOf_len hen0).symm
  have htl1 : tg1.length = sg1.length := (enOf_len hen1).symm
  refine St.ownForm (p := [_, _, _]) fun sb0 sc0 hsb0_ hsc0 => ?_
  subst hsb0_
  refine St.ownForm (p := [_, _, _, _]) fun tb0 tc0 htb0_ htc0 => ?_
  subst htb0_
  refine St.ownForm (p := [_, _, _, _, _, _, _]) fun sb1 sc1 hsb1_ hsc1 => ?_
  subst hsb1_
  refine St.ownForm (p := [_, _, _, _, _, _, _, _]) fun tb1 tc1 htb1_ htc1 => ?_
  subst htb1_
  refine St.ownForm (p := [_, _, _, _, _, _, _, _, _]) fun zb zc hzb_ hzc => ?_
  subst hzb_
  refine St.res (rs' := [blk w [.pointer (some ⟨p0, 0, none⟩), .pointer (some ⟨p1, 0, none⟩), .pointer (some ⟨q0, 0, none⟩), .pointer (some ⟨q1, 0, none⟩), .slice sb0 sg0.length sc0, .slice sb1 sg1.length sc1, .slice tb0 tg0.length tc0, .slice tb1 tg1.length tc1, .slice zb ss.length zc] 79, REG p0 (sg0) (rc0), REF q0 (tg0) (rc0), ownS 27 1 (.slice sb0 sg0.length sc0) (sg0).length (ptrs (sg0)), ownS 114 1 (.slice tb0 tg0.length tc0) (tg0).length (ptrs (tg0)), REG p1 (sg1) (rc1), REF q1 (tg1) (rc1), ownS 27 1 (.slice sb1 sg1.length sc1) (sg1).length (ptrs (sg1)), ownS 114 1 (.slice tb1 tg1.length tc1) (tg1).length (ptrs (tg1)), ownS 33 16 (.slice zb ss.length zc) (ss).length (flat .u8 (ss))]) (Weak.refl _) ?_
  refine R_seq ?_
  refine R_region ?_
  refine L_op rfl (W_box (opC kd wh at_ a base xs.length c sl tw lg) rfl rfl rfl rfl rfl fun b5 => ?_)
  refine L_val rfl rfl rfl (OpP.v (P_assign rfl rfl)) ?_
  refine L_nil ?_
  refine St.env (.cons (t := 0) rfl (.cons (t := 1) rfl (.cons (t := 5) rfl (.cons (t := 6) rfl .nil)))) ?_
  refine Q_then ?_
  refine R_seq ?_
  refine St.res (rs' := [blk w [.pointer (some ⟨p0, 0, none⟩), .pointer (some ⟨p1, 0, none⟩), .pointer (some ⟨q0, 0, none⟩), .pointer (some ⟨q1, 0, none⟩), .slice sb0 sg0.length sc0, .slice sb1 sg1.length sc1, .slice tb0 tg0.length tc0, .slice tb1 tg1.length tc1, .slice zb ss.length zc] 79, blk b5 (opC kd wh at_ a base xs.length c sl tw lg) 72, REG p0 (sg0) (rc0), REF q0 (tg0) (rc0), ownS 27 1 (.slice sb0 sg0.length sc0) (sg0).length (ptrs (sg0)), ownS 114 1 (.slice tb0 tg0.length tc0) (tg0).length (ptrs (tg0)), ownS 33 16 (.slice zb ss.length zc) (ss).length (flat .u8 (ss)), REG p1 (sg1) (rc1), REF q1 (tg1) (rc1), ownS 27 1 (.slice sb1 sg1.length sc1) (sg1).length (ptrs (sg1)), ownS 114 1 (.slice tb1 tg1.length tc1) (tg1).length (ptrs (tg1))]) ((Weak.swap.trans (Weak.refl _)).trans (Weak.keep (Weak.keep (Weak.keep (Weak.keep (Weak.keep (Weak.keep (Weak.pick (p := [_, _, _, _]) (Weak.keep (Weak.keep (Weak.keep (Weak.keep (Weak.nil _))))))))))))) ?_
  refine R_open [(0, 0), (1, 0), (2, 0), (3, 0), (4, 0), (5, 1), (6, 0), (7, 1), (8, 2), (9, 0), (10, 0), (11, 0), (12, 0), (13, 0)] mixed (by kernel_rfl) (QOk.then QOk.body) ?_
  refine O_pure rfl rfl rfl rfl (P_move rfl rfl) ?_
  refine O_pure rfl rfl rfl rfl (P_move rfl rfl) ?_
  refine O_pure rfl rfl rfl rfl (P_nil rfl rfl) ?_
  refine O_pure rfl rfl rfl rfl (P_fld0 rfl ty_fl_79_0 rfl) ?_
  first | (refine O_pure rfl rfl rfl rfl (P_ixa0 (0) rfl ty_ar_53 rfl rfl (by first | rfl | omega) (by omega)) ?_) | (refine O_pure rfl rfl rfl rfl (P_ixa (0) rfl ty_ar_53 rfl rfl (by first | rfl | omega) (by omega)) ?_)
  refine O_val rfl rfl rfl rfl (V_load rfl rfl ty_sc_25 (Rd.blk .h0 rfl)) ?_
  refine O_pure rfl rfl rfl rfl (P_fld0 rfl ty_fl_72_3 rfl) ?_
  refine O_val rfl rfl rfl rfl (V_load rfl rfl ty_sc_23 (Rd.blk .h1 rfl)) ?_
  refine O_keep rfl rfl (W_callR rfl rfl rfl rfl fn_ca_16 (enter_twice p0 sg0 rc0 a ha hin) (Split.one (p := [_, _])) (fun _ _ _ _ _ _ _ => trivial) (K_keep (Weak.p1 (Weak.p1 (Weak.refl _))) ?_))
  refine O_pure rfl rfl rfl rfl (P_move rfl rfl) ?_
  refine O_pure rfl rfl rfl rfl (P_extract rfl rfl rfl) ?_
  refine O_pure rfl rfl rfl rfl (P_extract rfl rfl rfl) ?_
  refine O_pure rfl rfl rfl rfl (P_assign rfl rfl) ?_
  refine O_pure rfl rfl rfl rfl (P_assign rfl rfl) ?_
  refine O_nil ?_
  refine St.env (.cons (t := 0) rfl (.cons (t := 1) rfl (.cons (t := 5) rfl (.cons (t := 6) rfl (.cons (t := 7) rfl (.cons (t := 8) rfl .nil)))))) ?_
  refine Q_then ?_
  refine R_seq ?_
  refine St.res (rs' := [blk w [.pointer (some ⟨p0, 0, none⟩), .pointer (some ⟨p1, 0, none⟩), .pointer (some ⟨q0, 0, none⟩), .pointer (some ⟨q1, 0, none⟩), .slice sb0 sg0.length sc0, .slice sb1 sg1.length sc1, .slice tb0 tg0.length tc0, .slice tb1 tg1.length tc1, .slice zb ss.length zc] 79, blk b5 (opC kd wh at_ a base xs.length c sl tw lg) 72, REG p0 (sg0) (rc0), REF q0 (tg0) (rc0), ownS 27 1 (.slice sb0 sg0.length sc0) (sg0).length (ptrs (sg0)), ownS 114 1 (.slice tb0 tg0.length tc0) (tg0).length (ptrs (tg0)), ownS 33 16 (.slice zb ss.length zc) (ss).length (flat .u8 (ss)), REG p1 (sg1) (rc1), REF q1 (tg1) (rc1), ownS 27 1 (.slice sb1 sg1.length sc1) (sg1).length (ptrs (sg1)), ownS 114 1 (.slice tb1 tg1.length tc1) (tg1).length (ptrs (tg1))]) (Weak.p1 (Weak.p1 (Weak.refl _))) ?_
  refine R_open [(0, 0), (1, 0), (2, 0), (3, 0), (4, 0), (5, 1), (6, 0), (7, 1), (8, 2), (9, 0), (10, 0), (11, 0), (12, 0), (13, 0)] mixed (by kernel_rfl) (QOk.then QOk.body) ?_
  refine O_pure rfl rfl rfl rfl (P_move rfl rfl) ?_
  refine O_pure rfl rfl rfl rfl (P_move rfl rfl) ?_
  refine O_pure rfl rfl rfl rfl (P_nil rfl rfl) ?_
  refine O_pure rfl rfl rfl rfl (P_fld0 rfl ty_fl_79_1 rfl) ?_
  first | (refine O_pure rfl rfl rfl rfl (P_ixa0 (0) rfl ty_ar_74 rfl rfl (by first | rfl | omega) (by omega)) ?_) | (refine O_pure rfl rfl rfl rfl (P_ixa (0) rfl ty_ar_74 rfl rfl (by first | rfl | omega) (by omega)) ?_)
  refine O_val rfl rfl rfl rfl (V_load rfl rfl ty_sc_73 (Rd.blk .h0 rfl)) ?_
  refine O_pure rfl rfl rfl rfl (P_fld0 rfl ty_fl_72_3 rfl) ?_
  refine O_val rfl rfl rfl rfl (V_load rfl rfl ty_sc_23 (Rd.blk .h1 rfl)) ?_
  refine O_keep rfl rfl (W_callR rfl rfl rfl rfl fn_ca_62 (renter_twice q0 tg0 rc0 a ha (by rw [← hen0]; exact (isIn_iff _ _).1 hin) (by omega)) (Split.one (p := [_, _, _])) (fun _ _ _ _ _ _ _ => trivial) (K_keep (Weak.p1 (Weak.p1 (Weak.p1 (Weak.refl _)))) ?_))
  refine O_pure rfl rfl rfl rfl (P_move rfl rfl) ?_
  refine O_pure rfl rfl rfl rfl (P_extract rfl rfl rfl) ?_
  refine O_pure rfl rfl rfl rfl (P_extract rfl rfl rfl) ?_
  refine O_pure rfl rfl rfl rfl (P_assign rfl rfl) ?_
  refine O_pure rfl rfl rfl rfl (P_assign rfl rfl) ?_
  refine O_nil ?_
  refine St.env (.cons (t := 0) rfl (.cons (t := 1) rfl (.cons (t := 6) rfl (.cons (t := 7) rfl (.cons (t := 8) rfl (.cons (t := 9) rfl (.cons (t := 10) rfl .nil))))))) ?_
  refine Q_then ?_
  refine R_seq ?_
  refine R_seq ?_
  refine St.res (rs' := [blk w [.pointer (some ⟨p0, 0, none⟩), .pointer (some ⟨p1, 0, none⟩), .pointer (some ⟨q0, 0, none⟩), .pointer (some ⟨q1, 0, none⟩), .slice sb0 sg0.length sc0, .slice sb1 sg1.length sc1, .slice tb0 tg0.length tc0, .slice tb1 tg1.length tc1, .slice zb ss.length zc] 79, blk b5 (opC kd wh at_ a base xs.length c sl tw lg) 72, REG p0 (sg0) (rc0), REF q0 (tg0) (rc0), ownS 27 1 (.slice sb0 sg0.length sc0) (sg0).length (ptrs (sg0)), ownS 114 1 (.slice tb0 tg0.length tc0) (tg0).length (ptrs (tg0)), ownS 33 16 (.slice zb ss.length zc) (ss).length (flat .u8 (ss)), REG p1 (sg1) (rc1), REF q1 (tg1) (rc1), ownS 27 1 (.slice sb1 sg1.length sc1) (sg1).length (ptrs (sg1)), ownS 114 1 (.slice tb1 tg1.length tc1) (tg1).length (ptrs (tg1))]) (Weak.p1 (Weak.p1 (Weak.p1 (Weak.refl _)))) ?_
  refine R_region ?_
  refine L_val rfl rfl rfl (OpP.v (P_move rfl rfl)) ?_
  refine L_op rfl (W_callV rfl rfl rfl rfl fn_ca_17 (num_ok 30) (fun _ _ => trivial) ?_)
  refine L_val rfl rfl rfl (OpP.v (P_move rfl rfl)) ?_
  refine L_op rfl (W_callV rfl rfl rfl rfl fn_ca_17 (num_ok 30) (fun _ _ => trivial) ?_)
  refine L_val rfl rfl rfl (OpP.v (P_neq rfl rfl rfl)) ?_
  refine E_false (t := 39) rfl (rfl) ?_
  refine L_val rfl rfl rfl (OpP.v (P_move rfl rfl)) ?_
  refine L_val rfl rfl rfl (OpP.v (P_move rfl rfl)) ?_
  refine L_val rfl rfl rfl (OpP.v (P_eqNil0 rfl ty_ptr_27 rfl rfl)) ?_
  refine L_val rfl rfl rfl (OpP.v (P_move rfl rfl)) ?_
  refine L_val rfl rfl rfl (OpP.v (P_eqNil0 rfl ty_ptr_114 rfl rfl)) ?_
  refine L_val rfl rfl rfl (OpP.v (P_neq_bool rfl ty_bool_4 rfl rfl)) ?_
  refine E_false (t := 45) rfl (rfl) ?_
  refine L_val rfl rfl rfl (OpP.v (P_pick rfl rfl rfl)) ?_
  refine L_nil ?_
  refine St.env (.cons (t := 0) rfl (.cons (t := 1) rfl (.cons (t := 6) rfl (.cons (t := 7) rfl (.cons (t := 9) rfl (.cons (t := 46) rfl .nil)))))) ?_
  refine Q_then ?_
  refine R_condF rfl ?_
  refine R_skip ?_
  refine Q_then ?_
  refine R_seq ?_
  refine R_seq ?_
  refine R_region ?_
  refine L_val rfl rfl rfl (OpP.v (P_move rfl rfl)) ?_
  refine L_val rfl rfl rfl (OpP.v (P_neNil0 rfl ty_ptr_114 rfl rfl)) ?_
  refine L_nil ?_
  refine St.env (.cons (t := 0) rfl (.cons (t := 1) rfl (.cons (t := 6) rfl (.cons (t := 7) rfl (.cons (t := 9) rfl (.cons (t := 48) rfl .nil)))))) ?_
  refine Q_then ?_
  refine R_condF rfl ?_
  refine R_skip ?_
  refine Q_then ?_
  refine R_seq ?_
  refine R_region ?_
  refine L_val rfl rfl rfl (OpP.v (P_assign rfl rfl)) ?_
  refine L_nil ?_
  refine St.env (.cons (t := 6) rfl .nil) ?_
  refine Q_then ?_
  refine R_ret ?_
  exact R_end (rs2 := [TWO w (n + 1)]) rfl rfl (.tmp rfl .nil) (⟨rfl, rfl⟩) ((Weak.keep (Weak.drop (Weak.refl _))).trans ((Weak.keep (Weak.keep (Weak.keep (Weak.keep (Weak.keep (Weak.pick (p := [_]) (Weak.pick (p := [_]) (Weak.pick (p := [_]) (Weak.pick (p := [_]) (Weak.keep (Weak.nil _))))))))))).trans (two_close (n := n + 1) (rs := []) ⟨⟨p0, q0, sg0, tg0, rc0, .slice sb0 sg0.length sc0, .slice tb0 tg0.length tc0⟩, ⟨p1, q1, sg1, tg1, rc1, .slice sb1 sg1.length sc1, .slice tb1 tg1.length tc1⟩, .slice zb ss.length zc, ss⟩ ⟨⟨hen0, Nat.le_succ_of_le hs0, Nat.le_succ_of_le hr0⟩, ⟨hen1, Nat.le_succ_of_le hs1, Nat.le_succ_of_le hr1⟩, Nat.le_succ_of_le hzl, hz16⟩)))
theorem enters_new0 {gl : Nat → Obj} (w n : Nat) (p0 q0 p1 q1 : Nat) (sg0 tg0 sg1 tg1 : List (Int × Nat)) (rc0 rc1 : List Rcd) (vs0 vt0 vs1 vt1 z : Value) (ss : List (List Int)) (hen0 : enOf sg0 = enOf tg0) (hen1 : enOf sg1 = enOf tg1) (hs0 : sg0.length ≤ n) (hs1 : sg1.length ≤ n) (hr0 : rc0.length ≤ n) (hr1 : rc1.length ≤ n) (hzl : ss.length ≤ n) (hz16 : ∀ s ∈ ss, s.length = 16) (hn : n ≤ 1599289640354) (kd wh at_ a : Int) (base : Option Addr) (c : Nat) (xs sl : List Int) (tw : Int) (lg : Bool) (ha : a ≠ 0) (hin : isIn sg0 a = false) : SpecR (cx gl) 48 [.pointer (some ⟨w, 0, none⟩), .int .i64 0, .agg (opC kd wh at_ a base xs.length c sl tw lg).toArray] (fun _ _ => True) [blk w [.pointer (some ⟨p0, 0, none⟩), .pointer (some ⟨p1, 0, none⟩), .pointer (some ⟨q0, 0, none⟩), .pointer (some ⟨q1, 0, none⟩), vs0, vs1, vt0, vt1, z] 79, REG p0 (sg0) (rc0), REF q0 (tg0) (rc0), ownS 27 1 (vs0) (sg0).length (ptrs (sg0)), ownS 114 1 (vt0) (tg0).length (ptrs (tg0)), REG p1 (sg1) (rc1), REF q1 (tg1) (rc1), ownS 27 1 (vs1) (sg1).length (ptrs (sg1)), ownS 114 1 (vt1) (tg1).length (ptrs (tg1)), ownS 33 16 (z) (ss).length (flat .u8 (ss))] (.bool true) [TWO w (n + 1)] := by
  refine Spec.enter (C := cx gl) Tryd.func48 rfl 77 rfl rfl fun w0 h0 hsep hsub hpre => ?_
  show St (cx gl) _ [(0, .pointer (some ⟨w, 0, none⟩)), (1, .int .i64 0), (2, .agg (opC kd wh at_ a base xs.length c sl tw lg).toArray)] _ _
  have htl0 : tg0.length = sg0.length := (enOf_len hen0).symm
  have htl1 : tg1.length = sg1.length := (enOf_len hen1).symm
  refine St.ownForm (p := [_, _, _]) fun sb0 sc0 hsb0_ hsc0 => ?_
  subst hsb0_
  refine St.ownForm (p := [_, _, _, _]) fun tb0 tc0 htb0_ htc0 => ?_
  subst htb0_
  refine St.ownForm (p := [_, _, _, _, _, _, _]) fun sb1 sc1 hsb1_ hsc1 => ?_
  subst hsb1_
  refine St.ownForm (p := [_, _, _, _, _, _, _, _]) fun tb1 tc1 htb1_ htc1 => ?_
  subst htb1_
  refine St.ownForm (p := [_, _, _, _, _, _, _, _, _]) fun zb zc hzb_ hzc => ?_
  subst hzb_
  refine St.res (rs' := [blk w [.pointer (some ⟨p0, 0, none⟩), .pointer (some ⟨p1, 0, none⟩), .pointer (some ⟨q0, 0, none⟩), .pointer (some ⟨q1, 0, none⟩), .slice sb0 sg0.length sc0, .slice sb1 sg1.length sc1, .slice tb0 tg0.length tc0, .slice tb1 tg1.length tc1, .slice zb ss.length zc] 79, REG p0 (sg0) (rc0), REF q0 (tg0) (rc0), ownS 27 1 (.slice sb0 sg0.length sc0) (sg0).length (ptrs (sg0)), ownS 114 1 (.slice tb0 tg0.length tc0) (tg0).length (ptrs (tg0)), REG p1 (sg1) (rc1), REF q1 (tg1) (rc1), ownS 27 1 (.slice sb1 sg1.length sc1) (sg1).length (ptrs (sg1)), ownS 114 1 (.slice tb1 tg1.length tc1) (tg1).length (ptrs (tg1)), ownS 33 16 (.slice zb ss.length zc) (ss).length (flat .u8 (ss))]) (Weak.refl _) ?_
  refine R_seq ?_
  refine R_region ?_
  refine L_op rfl (W_box (opC kd wh at_ a base xs.length c sl tw lg) rfl rfl rfl rfl rfl fun b5 => ?_)
  refine L_val rfl rfl rfl (OpP.v (P_assign rfl rfl)) ?_
  refine L_nil ?_
  refine St.env (.cons (t := 0) rfl (.cons (t := 1) rfl (.cons (t := 5) rfl (.cons (t := 6) rfl .nil)))) ?_
  refine Q_then ?_
  refine R_seq ?_
  refine St.res (rs' := [blk w [.pointer (some ⟨p0, 0, none⟩), .pointer (some ⟨p1, 0, none⟩), .pointer (some ⟨q0, 0, none⟩), .pointer (some ⟨q1, 0, none⟩), .slice sb0 sg0.length sc0, .slice sb1 sg1.length sc1, .slice tb0 tg0.length tc0, .slice tb1 tg1.length tc1, .slice zb ss.length zc] 79, blk b5 (opC kd wh at_ a base xs.length c sl tw lg) 72, REG p0 (sg0) (rc0), REF q0 (tg0) (rc0), ownS 27 1 (.slice sb0 sg0.length sc0) (sg0).length (ptrs (sg0)), ownS 114 1 (.slice tb0 tg0.length tc0) (tg0).length (ptrs (tg0)), ownS 33 16 (.slice zb ss.length zc) (ss).length (flat .u8 (ss)), REG p1 (sg1) (rc1), REF q1 (tg1) (rc1), ownS 27 1 (.slice sb1 sg1.length sc1) (sg1).length (ptrs (sg1)), ownS 114 1 (.slice tb1 tg1.length tc1) (tg1).length (ptrs (tg1))]) ((Weak.swap.trans (Weak.refl _)).trans (Weak.keep (Weak.keep (Weak.keep (Weak.keep (Weak.keep (Weak.keep (Weak.pick (p := [_, _, _, _]) (Weak.keep (Weak.keep (Weak.keep (Weak.keep (Weak.nil _))))))))))))) ?_
  refine R_open [(0, 0), (1, 0), (2, 0), (3, 0), (4, 0), (5, 1), (6, 0), (7, 1), (8, 3), (9, 0), (10, 0), (11, 0), (12, 0), (13, 0)] mixed (by kernel_rfl) (QOk.then QOk.body) ?_
  refine O_pure rfl rfl rfl rfl (P_move rfl rfl) ?_
  refine O_pure rfl rfl rfl rfl (P_move rfl rfl) ?_
  refine O_pure rfl rfl rfl rfl (P_nil rfl rfl) ?_
  refine O_pure rfl rfl rfl rfl (P_fld0 rfl ty_fl_79_0 rfl) ?_
  first | (refine O_pure rfl rfl rfl rfl (P_ixa0 (0) rfl ty_ar_53 rfl rfl (by first | rfl | omega) (by omega)) ?_) | (refine O_pure rfl rfl rfl rfl (P_ixa (0) rfl ty_ar_53 rfl rfl (by first | rfl | omega) (by omega)) ?_)
  refine O_val rfl rfl rfl rfl (V_load rfl rfl ty_sc_25 (Rd.blk .h0 rfl)) ?_
  refine O_pure rfl rfl rfl rfl (P_fld0 rfl ty_fl_72_3 rfl) ?_
  refine O_val rfl rfl rfl rfl (V_load rfl rfl ty_sc_23 (Rd.blk .h1 rfl)) ?_
  refine O_new rfl rfl (W_call rfl rfl rfl rfl fn_ca_16 (enter_new p0 sg0 rc0 a ha hin) (Split.one (p := [_, _])) (fun _ _ _ _ _ _ _ => trivial) fun v20 rs1 ⟨s, e1, e2⟩ => ?_)
  subst e1; subst e2
  refine K_new ?_
  refine O_pure rfl rfl rfl rfl (P_move rfl rfl) ?_
  refine O_pure rfl rfl rfl rfl (P_extract rfl rfl rfl) ?_
  refine O_pure rfl rfl rfl rfl (P_extract rfl rfl rfl) ?_
  refine O_pure rfl rfl rfl rfl (P_assign rfl rfl) ?_
  refine O_pure rfl rfl rfl rfl (P_assign rfl rfl) ?_
  refine O_nil ?_
  refine St.env (.cons (t := 0) rfl (.cons (t := 1) rfl (.cons (t := 5) rfl (.cons (t := 6) rfl (.cons (t := 7) rfl (.cons (t := 8) rfl .nil)))))) ?_
  refine Q_then ?_
  refine R_seq ?_
  refine St.res (rs' := [blk w [.pointer (some ⟨p0, 0, none⟩), .pointer (some ⟨p1, 0, none⟩), .pointer (some ⟨q0, 0, none⟩), .pointer (some ⟨q1, 0, none⟩), .slice sb0 sg0.length sc0, .slice sb1 sg1.length sc1, .slice tb0 tg0.length tc0, .slice tb1 tg1.length tc1, .slice zb ss.length zc] 79, blk b5 (opC kd wh at_ a base xs.length c sl tw lg) 72, REG p0 (sg0 ++ [(a, s)]) (rc0), REF q0 (tg0) (rc0), ownS 27 1 (.slice sb0 sg0.length sc0) (sg0).length (ptrs (sg0)), ownS 114 1 (.slice tb0 tg0.length tc0) (tg0).length (ptrs (tg0)), ownS 33 16 (.slice zb ss.length zc) (ss).length (flat .u8 (ss)), REG p1 (sg1) (rc1), REF q1 (tg1) (rc1), ownS 27 1 (.slice sb1 sg1.length sc1) (sg1).length (ptrs (sg1)), ownS 114 1 (.slice tb1 tg1.length tc1) (tg1).length (ptrs (tg1))]) (Weak.p1 (Weak.p1 (Weak.refl _))) ?_
  refine R_open [(0, 0), (1, 0), (2, 0), (3, 0), (4, 0), (5, 1), (6, 0), (7, 1), (8, 3), (9, 0), (10, 0), (11, 0), (12, 0), (13, 0)] mixed (by kernel_rfl) (QOk.then QOk.body) ?_
  refine O_pure rfl rfl rfl rfl (P_move rfl rfl) ?_
  refine O_pure rfl rfl rfl rfl (P_move rfl rfl) ?_
  refine O_pure rfl rfl rfl rfl (P_nil rfl rfl) ?_
  refine O_pure rfl rfl rfl rfl (P_fld0 rfl ty_fl_79_1 rfl) ?_
  first | (refine O_pure rfl rfl rfl rfl (P_ixa0 (0) rfl ty_ar_74 rfl rfl (by first | rfl | omega) (by omega)) ?_) | (refine O_pure rfl rfl rfl rfl (P_ixa (0) rfl ty_ar_74 rfl rfl (by first | rfl | omega) (by omega)) ?_)
  refine O_val rfl rfl rfl rfl (V_load rfl rfl ty_sc_73 (Rd.blk .h0 rfl)) ?_
  refine O_pure rfl rfl rfl rfl (P_fld0 rfl ty_fl_72_3 rfl) ?_
  refine O_val rfl rfl rfl rfl (V_load rfl rfl ty_sc_23 (Rd.blk .h1 rfl)) ?_
  refine O_new rfl rfl (W_call rfl rfl rfl rfl fn_ca_62 (renter_new q0 tg0 rc0 a ha (by rw [← hen0]; exact fun h => by rw [(isIn_iff _ _).2 h] at hin; cases hin) (by omega)) (Split.one (p := [_, _, _])) (fun _ _ _ _ _ _ _ => trivial) fun v32 rs2 ⟨t, e3, e4⟩ => ?_)
  subst e3; subst e4
  refine K_new ?_
  refine O_pure rfl rfl rfl rfl (P_move rfl rfl) ?_
  refine O_pure rfl rfl rfl rfl (P_extract rfl rfl rfl) ?_
  refine O_pure rfl rfl rfl rfl (P_extract rfl rfl rfl) ?_
  refine O_pure rfl rfl rfl rfl (P_assign rfl rfl) ?_
  refine O_pure rfl rfl rfl rfl (P_assign rfl rfl) ?_
  refine O_nil ?_
  refine St.env (.cons (t := 0) rfl (.cons (t := 1) rfl (.cons (t := 6) rfl (.cons (t := 7) rfl (.cons (t := 8) rfl (.cons (t := 9) rfl (.cons (t := 10) rfl .nil))))))) ?_
  refine Q_then ?_
  refine R_seq ?_
  refine R_seq ?_
  refine St.res (rs' := [blk w [.pointer (some ⟨p0, 0, none⟩), .pointer (some ⟨p1, 0, none⟩), .pointer (some ⟨q0, 0, none⟩), .pointer (some ⟨q1, 0, none⟩), .slice sb0 sg0.length sc0, .slice sb1 sg1.length sc1, .slice tb0 tg0.length tc0, .slice tb1 tg1.length tc1, .slice zb ss.length zc] 79, blk b5 (opC kd wh at_ a base xs.length c sl tw lg) 72, REG p0 (sg0 ++ [(a, s)]) (rc0), REF q0 (tg0 ++ [(a, t)]) (rc0), ownS 27 1 (.slice sb0 sg0.length sc0) (sg0).length (ptrs (sg0)), ownS 114 1 (.slice tb0 tg0.length tc0) (tg0).length (ptrs (tg0)), ownS 33 16 (.slice zb ss.length zc) (ss).length (flat .u8 (ss)), REG p1 (sg1) (rc1), REF q1 (tg1) (rc1), ownS 27 1 (.slice sb1 sg1.length sc1) (sg1).length (ptrs (sg1)), ownS 114 1 (.slice tb1 tg1.length tc1) (tg1).length (ptrs (tg1))]) (Weak.p1 (Weak.p1 (Weak.p1 (Weak.refl _)))) ?_
  refine R_region ?_
  refine L_val rfl rfl rfl (OpP.v (P_move rfl rfl)) ?_
  refine L_op rfl (W_callV rfl rfl rfl rfl fn_ca_17 (num_ok 0) (fun _ _ => trivial) ?_)
  refine L_val rfl rfl rfl (OpP.v (P_move rfl rfl)) ?_
  refine L_op rfl (W_callV rfl rfl rfl rfl fn_ca_17 (num_ok 0) (fun _ _ => trivial) ?_)
  refine L_val rfl rfl rfl (OpP.v (P_neq rfl rfl rfl)) ?_
  refine E_false (t := 39) rfl (rfl) ?_
  refine L_val rfl rfl rfl (OpP.v (P_move rfl rfl)) ?_
  refine L_val rfl rfl rfl (OpP.v (P_move rfl rfl)) ?_
  refine L_val rfl rfl rfl (OpP.v (P_eqNil rfl ty_ptr_27 rfl rfl)) ?_
  refine L_val rfl rfl rfl (OpP.v (P_move rfl rfl)) ?_
  refine L_val rfl rfl rfl (OpP.v (P_eqNil rfl ty_ptr_114 rfl rfl)) ?_
  refine L_val rfl rfl rfl (OpP.v (P_neq_bool rfl ty_bool_4 rfl rfl)) ?_
  refine E_false (t := 45) rfl (rfl) ?_
  refine L_val rfl rfl rfl (OpP.v (P_pick rfl rfl rfl)) ?_
  refine L_nil ?_
  refine St.env (.cons (t := 0) rfl (.cons (t := 1) rfl (.cons (t := 6) rfl (.cons (t := 7) rfl (.cons (t := 9) rfl (.cons (t := 46) rfl .nil)))))) ?_
  refine Q_then ?_
  refine R_condF rfl ?_
  refine R_skip ?_
  refine Q_then ?_
  refine R_seq ?_
  refine R_seq ?_
  refine R_region ?_
  refine L_val rfl rfl rfl (OpP.v (P_move rfl rfl)) ?_
  refine L_val rfl rfl rfl (OpP.v (P_neNil rfl ty_ptr_114 rfl rfl)) ?_
  refine L_nil ?_
  refine St.env (.cons (t := 0) rfl (.cons (t := 1) rfl (.cons (t := 6) rfl (.cons (t := 7) rfl (.cons (t := 9) rfl (.cons (t := 48) rfl .nil)))))) ?_
  refine Q_then ?_
  refine R_condT rfl ?_
  refine R_seq ?_
  refine R_open [(0, 0), (1, 0), (2, 0), (3, 0), (4, 0), (5, 0), (6, 0), (7, 1), (8, 0), (11, 0), (12, 0), (9, 2), (10, 3), (13, 0), (14, 3)] mixed (by kernel_rfl) (QOk.then (QOk.then QOk.body)) ?_
  refine O_pure rfl rfl rfl rfl (P_move rfl rfl) ?_
  refine O_pure rfl rfl rfl rfl (P_move rfl rfl) ?_
  refine O_pure rfl rfl rfl rfl (P_move rfl rfl) ?_
  refine O_pure rfl rfl rfl rfl (P_move rfl rfl) ?_
  refine O_pure rfl rfl rfl rfl (P_nil rfl rfl) ?_
  refine O_pure rfl rfl rfl rfl (P_fld0 rfl ty_fl_79_2 rfl) ?_
  first | (refine O_pure rfl rfl rfl rfl (P_ixa0 (0) rfl ty_ar_55 rfl rfl (by first | rfl | omega) (by omega)) ?_) | (refine O_pure rfl rfl rfl rfl (P_ixa (0) rfl ty_ar_55 rfl rfl (by first | rfl | omega) (by omega)) ?_)
  refine O_val rfl rfl rfl rfl (V_load rfl rfl ty_sc_54 (Rd.blk .h0 rfl)) ?_
  refine O_pure rfl rfl rfl rfl (P_move rfl rfl) ?_
  refine O_pure rfl rfl rfl rfl (P_nil rfl rfl) ?_
  refine O_pure rfl rfl rfl rfl (P_fld0 rfl ty_fl_79_2 rfl) ?_
  refine O_keep rfl rfl (W_lit (z := .nilIface) ([.pointer (some ⟨s, 0, none⟩)]) rfl rfl rfl ty_sl_54 ty_lz_54 rfl rfl rfl (by decide) (by decide) (by simp [Value.cells]) (rfl) fun b58 => (K_keep (Weak.drop (Weak.refl _)) ?_))
  refine O_new rfl rfl (W_append (p := [_, _, _, _, _]) rfl rfl rfl ty_sl_54 ty_ap_54 ty_src_54 rfl rfl rfl (Src.slice (sz := 1) (news := [.pointer (some ⟨s, 0, none⟩)]) (Rds.blk .h0) rfl (by intro v hv; simp only [List.mem_singleton] at hv; subst hv; rfl)) (by omega) (by simp only [maxLen]; omega) fun v59 => (K_new ?_))
  refine St.ownForm (p := [_, _, _, _, _]) fun nb nc hnb_ hnc => ?_
  subst hnb_
  first | (refine O_pure rfl rfl rfl rfl (P_ixa0 (0) rfl ty_ar_55 rfl rfl (by first | rfl | omega) (by omega)) ?_) | (refine O_pure rfl rfl rfl rfl (P_ixa (0) rfl ty_ar_55 rfl rfl (by first | rfl | omega) (by omega)) ?_)
  refine O_new rfl rfl (W_store rfl rfl rfl rfl ty_sc_54 rfl .h1 (by first | decide | (simp [ints]; done) | (simp [ints]; omega)) (K_new ?_))
  refine O_nil ?_
  refine St.env (.cons (t := 0) rfl (.cons (t := 1) rfl (.cons (t := 6) rfl (.cons (t := 9) rfl .nil)))) ?_
  refine Q_then ?_
  refine St.res (rs' := [blk w [.pointer (some ⟨p0, 0, none⟩), .pointer (some ⟨p1, 0, none⟩), .pointer (some ⟨q0, 0, none⟩), .pointer (some ⟨q1, 0, none⟩), .slice nb (sg0.length + 1) nc, .slice sb1 sg1.length sc1, .slice tb0 tg0.length tc0, .slice tb1 tg1.length tc1, .slice zb ss.length zc] 79, blk b5 (opC kd wh at_ a base xs.length c sl tw lg) 72, REG p0 (sg0 ++ [(a, s)]) (rc0), REF q0 (tg0 ++ [(a, t)]) (rc0), ownS 27 1 (.slice nb (sg0.length + 1) nc) (sg0 ++ [(a, s)]).length (ptrs (sg0 ++ [(a, s)])), ownS 114 1 (.slice tb0 tg0.length tc0) (tg0).length (ptrs (tg0)), ownS 33 16 (.slice zb ss.length zc) (ss).length (flat .u8 (ss)), REG p1 (sg1) (rc1), REF q1 (tg1) (rc1), ownS 27 1 (.slice sb1 sg1.length sc1) (sg1).length (ptrs (sg1)), ownS 114 1 (.slice tb1 tg1.length tc1) (tg1).length (ptrs (tg1))]) (by have e : (sg0 ++ [(a, s)]).length = sg0.length + 1 := (by simp); rw [ptrs_snoc sg0 a s, e]; exact Weak.drop (Weak.refl _)) ?_
  refine R_open [(0, 0), (1, 0), (2, 0), (3, 0), (4, 0), (5, 0), (6, 0), (7, 1), (8, 0), (11, 0), (12, 0), (9, 2), (10, 3), (13, 0), (14, 3)] mixed (by kernel_rfl) (QOk.then QOk.body) ?_
  refine O_pure rfl rfl rfl rfl (P_move rfl rfl) ?_
  refine O_pure rfl rfl rfl rfl (P_move rfl rfl) ?_
  refine O_pure rfl rfl rfl rfl (P_move rfl rfl) ?_
  refine O_pure rfl rfl rfl rfl (P_move rfl rfl) ?_
  refine O_pure rfl rfl rfl rfl (P_nil rfl rfl) ?_
  refine O_pure rfl rfl rfl rfl (P_fld0 rfl ty_fl_79_3 rfl) ?_
  first | (refine O_pure rfl rfl rfl rfl (P_ixa0 (0) rfl ty_ar_76 rfl rfl (by first | rfl | omega) (by omega)) ?_) | (refine O_pure rfl rfl rfl rfl (P_ixa (0) rfl ty_ar_76 rfl rfl (by first | rfl | omega) (by omega)) ?_)
  refine O_val rfl rfl rfl rfl (V_load rfl rfl ty_sc_75 (Rd.blk .h0 rfl)) ?_
  refine O_pure rfl rfl rfl rfl (P_move rfl rfl) ?_
  refine O_pure rfl rfl rfl rfl (P_nil rfl rfl) ?_
  refine O_pure rfl rfl rfl rfl (P_fld0 rfl ty_fl_79_3 rfl) ?_
  refine O_keep rfl rfl (W_lit (z := .nilIface) ([.pointer (some ⟨t, 0, none⟩)]) rfl rfl rfl ty_sl_75 ty_lz_75 rfl rfl rfl (by decide) (by decide) (by simp [Value.cells]) (rfl) fun b72 => (K_keep (Weak.drop (Weak.refl _)) ?_))
  refine O_new rfl rfl (W_append (p := [_, _, _, _, _, _]) rfl rfl rfl ty_sl_75 ty_ap_75 ty_src_75 rfl rfl rfl (Src.slice (sz := 1) (news := [.pointer (some ⟨t, 0, none⟩)]) (Rds.blk .h0) rfl (by intro v hv; simp only [List.mem_singleton] at hv; subst hv; rfl)) (by omega) (by simp only [maxLen]; omega) fun v73 => (K_new ?_))
  refine St.ownForm (p := [_, _, _, _, _, _]) fun mb mc hmb_ hmc => ?_
  subst hmb_
  first | (refine O_pure rfl rfl rfl rfl (P_ixa0 (0) rfl ty_ar_76 rfl rfl (by first | rfl | omega) (by omega)) ?_) | (refine O_pure rfl rfl rfl rfl (P_ixa (0) rfl ty_ar_76 rfl rfl (by first | rfl | omega) (by omega)) ?_)
  refine O_new rfl rfl (W_store rfl rfl rfl rfl ty_sc_75 rfl .h1 (by first | decide | (simp [ints]; done) | (simp [ints]; omega)) (K_new ?_))
  refine O_nil ?_
  refine St.env (.cons (t := 6) rfl .nil) ?_
  refine Q_then ?_
  refine R_seq ?_
  refine St.res (rs' := [blk w [.pointer (some ⟨p0, 0, none⟩), .pointer (some ⟨p1, 0, none⟩), .pointer (some ⟨q0, 0, none⟩), .pointer (some ⟨q1, 0, none⟩), .slice nb (sg0.length + 1) nc, .slice sb1 sg1.length sc1, .slice mb (tg0.length + 1) mc, .slice tb1 tg1.length tc1, .slice zb ss.length zc] 79, blk b5 (opC kd wh at_ a base xs.length c sl tw lg) 72, REG p0 (sg0 ++ [(a, s)]) (rc0), REF q0 (tg0 ++ [(a, t)]) (rc0), ownS 27 1 (.slice nb (sg0.length + 1) nc) (sg0 ++ [(a, s)]).length (ptrs (sg0 ++ [(a, s)])), ownS 114 1 (.slice mb (tg0.length + 1) mc) (tg0 ++ [(a, t)]).length (ptrs (tg0 ++ [(a, t)])), ownS 33 16 (.slice zb ss.length zc) (ss).length (flat .u8 (ss)), REG p1 (sg1) (rc1), REF q1 (tg1) (rc1), ownS 27 1 (.slice sb1 sg1.length sc1) (sg1).length (ptrs (sg1)), ownS 114 1 (.slice tb1 tg1.length tc1) (tg1).length (ptrs (tg1))]) (by have e : (tg0 ++ [(a, t)]).length = tg0.length + 1 := (by simp); rw [ptrs_snoc tg0 a t, e]; exact Weak.drop (Weak.refl _)) ?_
  refine R_region ?_
  refine L_val rfl rfl rfl (OpP.v (P_assign rfl rfl)) ?_
  refine L_nil ?_
  refine Q_then ?_
  refine R_ret ?_
  exact R_end (rs2 := [TWO w (n + 1)]) rfl rfl (.tmp rfl .nil) (⟨rfl, rfl⟩) ((Weak.keep (Weak.drop (Weak.refl _))).trans ((Weak.keep (Weak.keep (Weak.keep (Weak.keep (Weak.keep (Weak.pick (p := [_]) (Weak.pick (p := [_]) (Weak.pick (p := [_]) (Weak.pick (p := [_]) (Weak.keep (Weak.nil _))))))))))).trans (two_close (n := n + 1) (rs := []) ⟨⟨p0, q0, sg0 ++ [(a, s)], tg0 ++ [(a, t)], rc0, .slice nb (sg0.length + 1) nc, .slice mb (tg0.length + 1) mc⟩, ⟨p1, q1, sg1, tg1, rc1, .slice sb1 sg1.length sc1, .slice tb1 tg1.length tc1⟩, .slice zb ss.length zc, ss⟩ ⟨⟨by show enOf (_ ++ [_]) = enOf (_ ++ [_]); rw [enOf_snoc, enOf_snoc, hen0], snoc_le hs0, Nat.le_succ_of_le hr0⟩, ⟨hen1, Nat.le_succ_of_le hs1, Nat.le_succ_of_le hr1⟩, Nat.le_succ_of_le hzl, hz16⟩)))
theorem enters_ok0 {gl : Nat → Obj} (w n : Nat) (hn : n ≤ 1599289640354) (kd wh at_ a : Int) (base : Option Addr) (c : Nat) (xs sl : List Int) (tw : Int) (lg : Bool) : SpecR (cx gl) 48 [.pointer (some ⟨w, 0, none⟩), .int .i64 0, .agg (opC kd wh at_ a base xs.length c sl tw lg).toArray] (fun _ _ => True) [TWO w n] (.bool true) [TWO w (n + 1)] := Spec.openEx fun ⟨⟨p0, q0, sg0, tg0, rc0, vs0, vt0⟩, ⟨p1, q1, sg1, tg1, rc1, vs1, vt1⟩, z, ss⟩ hok => by
  obtain ⟨⟨hen0, hs0, hr0⟩, ⟨hen1, hs1, hr1⟩, hzl, hz16⟩ := hok
  by_cases ha : a = 0
  · exact enters_zero0 w n p0 q0 p1 q1 sg0 tg0 sg1 tg1 rc0 rc1 vs0 vt0 vs1 vt1 z ss hen0 hen1 hs0 hs1 hr0 hr1 hzl hz16 hn kd wh at_ a base c xs sl tw lg ha
  · cases hin : isIn sg0 a with
    | true => exact enters_twice0 w n p0 q0 p1 q1 sg0 tg0 sg1 tg1 rc0 rc1 vs0 vt0 vs1 vt1 z ss hen0 hen1 hs0 hs1 hr0 hr1 hzl hz16 hn kd wh at_ a base c xs sl tw lg ha hin
    | false => exact enters_new0 w n p0 q0 p1 q1 sg0 tg0 sg1 tg1 rc0 rc1 vs0 vt0 vs1 vt1 z ss hen0 hen1 hs0 hs1 hr0 hr1 hzl hz16 hn kd wh at_ a base c xs sl tw lg ha hin
theorem enters_zero1 {gl : Nat → Obj} (w n : Nat) (p0 q0 p1 q1 : Nat) (sg0 tg0 sg1 tg1 : List (Int × Nat)) (rc0 rc1 : List Rcd) (vs0 vt0 vs1 vt1 z : Value) (ss : List (List Int)) (hen0 : enOf sg0 = enOf tg0) (hen1 : enOf sg1 = enOf tg1) (hs0 : sg0.length ≤ n) (hs1 : sg1.length ≤ n) (hr0 : rc0.length ≤ n) (hr1 : rc1.length ≤ n) (hzl : ss.length ≤ n) (hz16 : ∀ s ∈ ss, s.length = 16) (hn : n ≤ 1599289640354) (kd wh at_ a : Int) (base : Option Addr) (c : Nat) (xs sl : List Int) (tw : Int) (lg : Bool) (ha : a = 0) : SpecR (cx gl) 48 [.pointer (some ⟨w, 0, none⟩), .int .i64 1, .agg (opC kd wh at_ a base xs.length c sl tw lg).toArray] (fun _ _ => True) [blk w [.pointer (some ⟨p0, 0, none⟩), .pointer (some ⟨p1, 0, none⟩), .pointer (some ⟨q0, 0, none⟩), .pointer (some ⟨q1, 0, none⟩), vs0, vs1, vt0, vt1, z] 79, REG p0 (sg0) (rc0), REF q0 (tg0) (rc0), ownS 27 1 (vs0) (sg0).length (ptrs (sg0)), ownS 114 1 (vt0) (tg0).length (ptrs (tg0)), REG p1 (sg1) (rc1), REF q1 (tg1) (rc1), ownS 27 1 (vs1) (sg1).length (ptrs (sg1)), ownS 114 1 (vt1) (tg1).length (ptrs (tg1)), ownS 33 16 (z) (ss).length (flat .u8 (ss))] (.bool true) [TWO w (n + 1)] := by
  refine Spec.enter (C := cx gl) Tryd.func48 rfl 77 rfl rfl fun w0 h0 hsep hsub hpre => ?_
  show St (cx gl) _ [(0, .pointer (some ⟨w, 0, none⟩)), (1, .int .i64 1), (2, .agg (opC kd wh at_ a base xs.length c sl tw lg).toArray)] _ _
  have htl0 : tg0.length = sg0.length := (enOf_len hen0).symm
  have htl1 : tg1.length = sg1.length := (enOf_len hen1).symm
  refine St.ownForm (p := [_, _, _]) fun sb0 sc0 hsb0_ hsc0 => ?_
  subst hsb0_
  refine St.ownForm (p := [_, _, _, _]) fun tb0 tc0 htb0_ htc0 => ?_
  subst htb0_
  refine St.ownForm (p := [_, _, _, _, _, _, _]) fun sb1 sc1 hsb1_ hsc1 => ?_
  subst hsb1_
  refine St.ownForm (p := [_, _, _, _, _, _, _, _]) fun tb1 tc1 htb1_ htc1 => ?_
  subst htb1_
  refine St.ownForm (p := [_, _, _, _, _, _, _, _, _]) fun zb zc hzb_ hzc => ?_
  subst hzb_
  refine St.res (rs' := [blk w [.pointer (some ⟨p0, 0, none⟩), .pointer (some ⟨p1, 0, none⟩), .pointer (some ⟨q0, 0, none⟩), .pointer (some ⟨q1, 0, none⟩), .slice sb0 sg0.length sc0, .slice sb1 sg1.length sc1, .slice tb0 tg0.length tc0, .slice tb1 tg1.length tc1, .slice zb ss.length zc] 79, REG p0 (sg0) (rc0), REF q0 (tg0) (rc0), ownS 27 1 (.slice sb0 sg0.length sc0) (sg0).length (ptrs (sg0)), ownS 114 1 (.slice tb0 tg0.length tc0) (tg0).length (ptrs (tg0)), REG p1 (sg1) (rc1), REF q1 (tg1) (rc1), ownS 27 1 (.slice sb1 sg1.length sc1) (sg1).length (ptrs (sg1)), ownS 114 1 (.slice tb1 tg1.length tc1) (tg1).length (ptrs (tg1)), ownS 33 16 (.slice zb ss.length zc) (ss).length (flat .u8 (ss))]) (Weak.refl _) ?_
  refine R_seq ?_
  refine R_region ?_
  refine L_op rfl (W_box (opC kd wh at_ a base xs.length c sl tw lg) rfl rfl rfl rfl rfl fun b5 => ?_)
  refine L_val rfl rfl rfl (OpP.v (P_assign rfl rfl)) ?_
  refine L_nil ?_
  refine St.env (.cons (t := 0) rfl (.cons (t := 1) rfl (.cons (t := 5) rfl (.cons (t := 6) rfl .nil)))) ?_
  refine Q_then ?_
  refine R_seq ?_
  refine St.res (rs' := [blk w [.pointer (some ⟨p0, 0, none⟩), .pointer (some ⟨p1, 0, none⟩), .pointer (some ⟨q0, 0, none⟩), .pointer (some ⟨q1, 0, none⟩), .slice sb0 sg0.length sc0, .slice sb1 sg1.length sc1, .slice tb0 tg0.length tc0, .slice tb1 tg1.length tc1, .slice zb ss.length zc] 79, blk b5 (opC kd wh at_ a base xs.length c sl tw lg) 72, REG p1 (sg1) (rc1), REF q1 (tg1) (rc1), ownS 27 1 (.slice sb1 sg1.length sc1) (sg1).length (ptrs (sg1)), ownS 114 1 (.slice tb1 tg1.length tc1) (tg1).length (ptrs (tg1)), ownS 33 16 (.slice zb ss.length zc) (ss).length (flat .u8 (ss)), REG p0 (sg0) (rc0), REF q0 (tg0) (rc0), ownS 27 1 (.slice sb0 sg0.length sc0) (sg0).length (ptrs (sg0)), ownS 114 1 (.slice tb0 tg0.length tc0) (tg0).length (ptrs (tg0))]) ((Weak.swap.trans (Weak.refl _)).trans (Weak.keep (Weak.keep (Weak.pick (p := [_, _, _, _]) (Weak.pick (p := [_, _, _, _]) (Weak.pick (p := [_, _, _, _]) (Weak.pick (p := [_, _, _, _]) (Weak.pick (p := [_, _, _, _]) (Weak.keep (Weak.keep (Weak.keep (Weak.keep (Weak.nil _))))))))))))) ?_
  refine R_open [(0, 0), (1, 0), (2, 0), (3, 0), (4, 0), (5, 1), (6, 0), (7, 1), (8, 2), (9, 0), (10, 0), (11, 0), (12, 0), (13, 0)] mixed (by kernel_rfl) (QOk.then QOk.body) ?_
  refine O_pure rfl rfl rfl rfl (P_move rfl rfl) ?_
  refine O_pure rfl rfl rfl rfl (P_move rfl rfl) ?_
  refine O_pure rfl rfl rfl rfl (P_nil rfl rfl) ?_
  refine O_pure rfl rfl rfl rfl (P_fld0 rfl ty_fl_79_0 rfl) ?_
  first | (refine O_pure rfl rfl rfl rfl (P_ixa0 (1) rfl ty_ar_53 rfl rfl (by first | rfl | omega) (by omega)) ?_) | (refine O_pure rfl rfl rfl rfl (P_ixa (1) rfl ty_ar_53 rfl rfl (by first | rfl | omega) (by omega)) ?_)
  refine O_val rfl rfl rfl rfl (V_load rfl rfl ty_sc_25 (Rd.blk .h0 rfl)) ?_
  refine O_pure rfl rfl rfl rfl (P_fld0 rfl ty_fl_72_3 rfl) ?_
  refine O_val rfl rfl rfl rfl (V_load rfl rfl ty_sc_23 (Rd.blk .h1 rfl)) ?_
  refine O_keep rfl rfl (W_callR rfl rfl rfl rfl fn_ca_16 (by subst ha; exact enter_zero p1 sg1 rc1) (Split.one (p := [_, _])) (fun _ _ _ _ _ _ _ => trivial) (K_keep (Weak.p1 (Weak.p1 (Weak.refl _))) ?_))
  refine O_pure rfl rfl rfl rfl (P_move rfl rfl) ?_
  refine O_pure rfl rfl rfl rfl (P_extract rfl rfl rfl) ?_
  refine O_pure rfl rfl rfl rfl (P_extract rfl rfl rfl) ?_
  refine O_pure rfl rfl rfl rfl (P_assign rfl rfl) ?_
  refine O_pure rfl rfl rfl rfl (P_assign rfl rfl) ?_
  refine O_nil ?_
  refine St.env (.cons (t := 0) rfl (.cons (t := 1) rfl (.cons (t := 5) rfl (.cons (t := 6) rfl (.cons (t := 7) rfl (.cons (t := 8) rfl .nil)))))) ?_
  refine Q_then ?_
  refine R_seq ?_
  refine St.res (rs' := [blk w [.pointer (some ⟨p0, 0, none⟩), .pointer (some ⟨p1, 0, none⟩), .pointer (some ⟨q0, 0, none⟩), .pointer (some ⟨q1, 0, none⟩), .slice sb0 sg0.length sc0, .slice sb1 sg1.length sc1, .slice tb0 tg0.length tc0, .slice tb1 tg1.length tc1, .slice zb ss.length zc] 79, blk b5 (opC kd wh at_ a base xs.length c sl tw lg) 72, REG p1 (sg1) (rc1), REF q1 (tg1) (rc1), ownS 27 1 (.slice sb1 sg1.length sc1) (sg1).length (ptrs (sg1)), ownS 114 1 (.slice tb1 tg1.length tc1) (tg1).length (ptrs (tg1)), ownS 33 16 (.slice zb ss.length zc) (ss).length (flat .u8 (ss)), REG p0 (sg0) (rc0), REF q0 (tg0) (rc0), ownS 27 1 (.slice sb0 sg0.length sc0) (sg0).length (ptrs (sg0)), ownS 114 1 (.slice tb0 tg0.length tc0) (tg0).length (ptrs (tg0))]) (Weak.p1 (Weak.p1 (Weak.refl _))) ?_
  refine R_open [(0, 0), (1, 0), (2, 0), (3, 0), (4, 0), (5, 1), (6, 0), (7, 1), (8, 2), (9, 0), (10, 0), (11, 0), (12, 0), (13, 0)] mixed (by kernel_rfl) (QOk.then QOk.body) ?_
  refine O_pure rfl rfl rfl rfl (P_move rfl rfl) ?_
  refine O_pure rfl rfl rfl rfl (P_move rfl rfl) ?_
  refine O_pure rfl rfl rfl rfl (P_nil rfl rfl) ?_
  refine O_pure rfl rfl rfl rfl (P_fld0 rfl ty_fl_79_1 rfl) ?_
  first | (refine O_pure rfl rfl rfl rfl (P_ixa0 (1) rfl ty_ar_74 rfl rfl (by first | rfl | omega) (by omega)) ?_) | (refine O_pure rfl rfl rfl rfl (P_ixa (1) rfl ty_ar_74 rfl rfl (by first | rfl | omega) (by omega)) ?_)
  refine O_val rfl rfl rfl rfl (V_load rfl rfl ty_sc_73 (Rd.blk .h0 rfl)) ?_
  refine O_pure rfl rfl rfl rfl (P_fld0 rfl ty_fl_72_3 rfl) ?_
  refine O_val rfl rfl rfl rfl (V_load rfl rfl ty_sc_23 (Rd.blk .h1 rfl)) ?_
  refine O_keep rfl rfl (W_callR rfl rfl rfl rfl fn_ca_62 (by subst ha; exact renter_zero q1 tg1 rc1) (Split.one (p := [_, _, _])) (fun _ _ _ _ _ _ _ => trivial) (K_keep (Weak.p1 (Weak.p1 (Weak.p1 (Weak.refl _)))) ?_))
  refine O_pure rfl rfl rfl rfl (P_move rfl rfl) ?_
  refine O_pure rfl rfl rfl rfl (P_extract rfl rfl rfl) ?_
  refine O_pure rfl rfl rfl rfl (P_extract rfl rfl rfl) ?_
  refine O_pure rfl rfl rfl rfl (P_assign rfl rfl) ?_
  refine O_pure rfl rfl rfl rfl (P_assign rfl rfl) ?_
  refine O_nil ?_
  refine St.env (.cons (t := 0) rfl (.cons (t := 1) rfl (.cons (t := 6) rfl (.cons (t := 7) rfl (.cons (t := 8) rfl (.cons (t := 9) rfl (.cons (t := 10) rfl .nil))))))) ?_
  refine Q_then ?_
  refine R_seq ?_
  refine R_seq ?_
  refine St.res (rs' := [blk w [.pointer (some ⟨p0, 0, none⟩), .pointer (some ⟨p1, 0, none⟩), .pointer (some ⟨q0, 0, none⟩), .pointer (some ⟨q1, 0, none⟩), .slice sb0 sg0.length sc0, .slice sb1 sg1.length sc1, .slice tb0 tg0.length tc0, .slice tb1 tg1.length tc1, .slice zb ss.length zc] 79, blk b5 (opC kd wh at_ a base xs.length c sl tw lg) 72, REG p1 (sg1) (rc1), REF q1 (tg1) (rc1), ownS 27 1 (.slice sb1 sg1.length sc1) (sg1).length (ptrs (sg1)), ownS 114 1 (.slice tb1 tg1.length tc1) (tg1).length (ptrs (tg1)), ownS 33 16 (.slice zb ss.length zc) (ss).length (flat .u8 (ss)), REG p0 (sg0) (rc0), REF q0 (tg0) (rc0), ownS 27 1 (.slice sb0 sg0.length sc0) (sg0).length (ptrs (sg0)), ownS 114 1 (.slice tb0 tg0.length tc0) (tg0).length (ptrs (tg0))]) (Weak.p1 (Weak.p1 (Weak.p1 (Weak.refl _)))) ?_
  refine R_region ?_
  refine L_val rfl rfl rfl (OpP.v (P_move rfl rfl)) ?_
  refine L_op rfl (W_callV rfl rfl rfl rfl fn_ca_17 (num_ok 2) (fun _ _ => trivial) ?_)
  refine L_val rfl rfl rfl (OpP.v (P_move rfl rfl)) ?_
  refine L_op rfl (W_callV rfl rfl rfl rfl fn_ca_17 (num_ok 2) (fun _ _ => trivial) ?_)
  refine L_val rfl rfl rfl (OpP.v (P_neq rfl rfl rfl)) ?_
  refine E_false (t := 39) rfl (rfl) ?_
  refine L_val rfl rfl rfl (OpP.v (P_move rfl rfl)) ?_
  refine L_val rfl rfl rfl (OpP.v (P_move rfl rfl)) ?_
  refine L_val rfl rfl rfl (OpP.v (P_eqNil0 rfl ty_ptr_27 rfl rfl)) ?_
  refine L_val rfl rfl rfl (OpP.v (P_move rfl rfl)) ?_
  refine L_val rfl rfl rfl (OpP.v (P_eqNil0 rfl ty_ptr_114 rfl rfl)) ?_
  refine L_val rfl rfl rfl (OpP.v (P_neq_bool rfl ty_bool_4 rfl rfl)) ?_
  refine E_false (t := 45) rfl (rfl) ?_
  refine L_val rfl rfl rfl (OpP.v (P_pick rfl rfl rfl)) ?_
  refine L_nil ?_
  refine St.env (.cons (t := 0) rfl (.cons (t := 1) rfl (.cons (t := 6) rfl (.cons (t := 7) rfl (.cons (t := 9) rfl (.cons (t := 46) rfl .nil)))))) ?_
  refine Q_then ?_
  refine R_condF rfl ?_
  refine R_skip ?_
  refine Q_then ?_
  refine R_seq ?_
  refine R_seq ?_
  refine R_region ?_
  refine L_val rfl rfl rfl (OpP.v (P_move rfl rfl)) ?_
  refine L_val rfl rfl rfl (OpP.v (P_neNil0 rfl ty_ptr_114 rfl rfl)) ?_
  refine L_nil ?_
  refine St.env (.cons (t := 0) rfl (.cons (t := 1) rfl (.cons (t := 6) rfl (.cons (t := 7) rfl (.cons (t := 9) rfl (.cons (t := 48) rfl .nil)))))) ?_
  refine Q_then ?_
  refine R_condF rfl ?_
  refine R_skip ?_
  refine Q_then ?_
  refine R_seq ?_
  refine R_region ?_
  refine L_val rfl rfl rfl (OpP.v (P_assign rfl rfl)) ?_
  refine L_nil ?_
  refine St.env (.cons (t := 6) rfl .nil) ?_
  refine Q_then ?_
  refine R_ret ?_
  exact R_end (rs2 := [TWO w (n + 1)]) rfl rfl (.tmp rfl .nil) (⟨rfl, rfl⟩) ((Weak.keep (Weak.drop (Weak.refl _))).trans ((Weak.keep (Weak.pick (p := [_, _, _, _, _]) (Weak.pick (p := [_, _, _, _, _]) (Weak.pick (p := [_, _, _, _, _]) (Weak.pick (p := [_, _, _, _, _]) (Weak.keep (Weak.keep (Weak.keep (Weak.keep (Weak.keep (Weak.nil _))))))))))).trans (two_close (n := n + 1) (rs := []) ⟨⟨p0, q0, sg0, tg0, rc0, .slice sb0 sg0.length sc0, .slice tb0 tg0.length tc0⟩, ⟨p1, q1, sg1, tg1, rc1, .slice sb1 sg1.length sc1, .slice tb1 tg1.length tc1⟩, .slice zb ss.length zc, ss⟩ ⟨⟨hen0, Nat.le_succ_of_le hs0, Nat.le_succ_of_le hr0⟩, ⟨hen1, Nat.le_succ_of_le hs1, Nat.le_succ_of_le hr1⟩, Nat.le_succ_of_le hzl, hz16⟩)))
theorem enters_twice1 {gl : Nat → Obj} (w n : Nat) (p0 q0 p1 q1 : Nat) (sg0 tg0 sg1 tg1 : List (Int × Nat)) (rc0 rc1 : List Rcd) (vs0 vt0 vs1 vt1 z : Value) (ss : List (List Int)) (hen0 : enOf sg0 = enOf tg0) (hen1 : enOf sg1 = enOf tg1) (hs0 : sg0.length ≤ n) (hs1 : sg1.length ≤ n) (hr0 : rc0.length ≤ n) (hr1 : rc1.length ≤ n) (hzl : ss.length ≤ n) (hz16 : ∀ s ∈ ss, s.length = 16) (hn : n ≤ 1599289640354) (kd wh at_ a : Int) (base : Option Addr) (c : Nat) (xs sl : List Int) (tw : Int) (lg : Bool) (ha : a ≠ 0) (hin : isIn sg1 a = true) : SpecR (cx gl) 48 [.pointer (some ⟨w, 0, none⟩), .int .i64 1, .agg (opC kd wh at_ a base xs.length c sl tw lg).toArray] (fun _ _ => True) [blk w [.pointer (some ⟨p0, 0, none⟩), .pointer (some ⟨p1, 0, none⟩), .pointer (some ⟨q0, 0, none⟩), .pointer (some ⟨q1, 0, none⟩), vs0, vs1, vt0, vt1, z] 79, REG p0 (sg0) (rc0), REF q0 (tg0) (rc0), ownS 27 1 (vs0) (sg0).length (ptrs (sg0)), ownS 114 1 (vt0) (tg0).length (ptrs (tg0)), REG p1 (sg1) (rc1), REF q1 (tg1) (rc1), ownS 27 1 (vs1) (sg1).length (ptrs (sg1)), ownS 114 1 (vt1) (tg1).length (ptrs (tg1)), ownS 33 16 (z) (ss).length (flat .u8 (ss))] (.bool true) [TWO w (n + 1)] := by
  refine Spec.enter (C := cx gl) Tryd.func48 rfl 77 rfl rfl fun w0 h0 hsep hsub hpre => ?_
  show St (cx gl) _ [(0, .pointer (some ⟨w, 0, none⟩)), (1, .int .i64 1), (2, .agg (opC kd wh at_ a base xs.length c sl tw lg).toArray)] _ _
  have htl0 : tg0.length = sg0.length := (enOf_len hen0).symm
  have htl1 : tg1.length = sg1.length := (enOf_len hen1).symm
  refine St.ownForm (p := [_, _, _]) fun sb0 sc0 hsb0_ hsc0 => ?_
  subst hsb0_
  refine St.ownForm (p := [_, _, _, _]) fun tb0 tc0 htb0_ htc0 => ?_
  subst htb0_
  refine St.ownForm (p := [_, _, _, _, _, _, _]) fun sb1 sc1 hsb1_ hsc1 => ?_
  subst hsb1_
  refine St.ownForm (p := [_, _, _, _, _, _, _, _]) fun tb1 tc1 htb1_ htc1 => ?_
  subst htb1_
  refine St.ownForm (p := [_, _, _, _, _, _, _, _, _]) fun zb zc hzb_ hzc => ?_
  subst hzb_
  refine St.res (rs' := [blk w [.pointer (some ⟨p0, 0, none⟩), .pointer (some ⟨p1, 0, none⟩), .pointer (some ⟨q0, 0, none⟩), .pointer (some ⟨q1, 0, none⟩), .slice sb0 sg0.length sc0, .slice sb1 sg1.length sc1, .slice tb0 tg0.length tc0, .slice tb1 tg1.length tc1, .slice zb ss.length zc] 79, REG p0 (sg0) (rc0), REF q0 (tg0) (rc0), ownS 27 1 (.slice sb0 sg0.length sc0) (sg0).length (ptrs (sg0)), ownS 114 1 (.slice tb0 tg0.length tc0) (tg0).length (ptrs (tg0)), REG p1 (sg1) (rc1), REF q1 (tg1) (rc1), ownS 27 1 (.slice sb1 sg1.length sc1) (sg1).length (ptrs (sg1)), ownS 114 1 (.slice tb1 tg1.length tc1) (tg1).length (ptrs (tg1)), ownS 33 16 (.slice zb ss.length zc) (ss).length (flat .u8 (ss))]) (Weak.refl _) ?_
  refine R_seq ?_
  refine R_region ?_
  refine L_op rfl (W_box (opC kd wh at_ a base xs.length c sl tw lg) rfl rfl rfl rfl rfl fun b5 => ?_)
  refine L_val rfl rfl rfl (OpP.v (P_assign rfl rfl)) ?_
  refine L_nil ?_
  refine St.env (.cons (t := 0) rfl (.cons (t := 1) rfl (.cons (t := 5) rfl (.cons (t := 6) rfl .nil)))) ?_
  refine Q_then ?_
  refine R_seq ?_
  refine St.res (rs' := [blk w [.pointer (some ⟨p0, 0, none⟩), .pointer (some ⟨p1, 0, none⟩), .pointer (some ⟨q0, 0, none⟩), .pointer (some ⟨q1, 0, none⟩), .slice sb0 sg0.length sc0, .slice sb1 sg1.length sc1, .slice tb0 tg0.length tc0, .slice tb1 tg1.length tc1, .slice zb ss.length zc] 79, blk b5 (opC kd wh at_ a base xs.length c sl tw lg) 72, REG p1 (sg1) (rc1), REF q1 (tg1) (rc1), ownS 27 1 (.slice sb1 sg1.length sc1) (sg1).length (ptrs (sg1)), ownS 114 1 (.slice tb1 tg1.length tc1) (tg1).length (ptrs (tg1)), ownS 33 16 (.slice zb ss.length zc) (ss).length (flat .u8 (ss)), REG p0 (sg0) (rc0), REF q0 (tg0) (rc0), ownS 27 1 (.slice sb0 sg0.length sc0) (sg0).length (ptrs (sg0)), ownS 114 1 (.slice tb0 tg0.length tc0) (tg0).length (ptrs (tg0))]) ((Weak.swap.trans (Weak.refl _)).trans (Weak.keep (Weak.keep (Weak.pick (p := [_, _, _, _]) (Weak.pick (p := [_, _, _, _]) (Weak.pick (p := [_, _, _, _]) (Weak.pick (p := [_, _, _, _]) (Weak.pick (p := [_, _, _, _]) (Weak.keep (Weak.keep (Weak.keep (Weak.keep (Weak.nil _))))))))))))) ?_
  refine R_open [(0, 0), (1, 0), (2, 0), (3, 0), (4, 0), (5, 1), (6, 0), (7, 1), (8, 2), (9, 0), (10, 0), (11, 0), (12, 0), (13, 0)] mixed (by kernel_rfl) (QOk.then QOk.body) ?_
  refine O_pure rfl rfl rfl rfl (P_move rfl rfl) ?_
  refine O_pure rfl rfl rfl rfl (P_move rfl rfl) ?_
  refine O_pure rfl rfl rfl rfl (P_nil rfl rfl) ?_
  refine O_pure rfl rfl rfl rfl (P_fld0 rfl ty_fl_79_0 rfl) ?_
  first | (refine O_pure rfl rfl rfl rfl (P_ixa0 (1) rfl ty_ar_53 rfl rfl (by first | rfl | omega) (by omega)) ?_) | (refine O_pure rfl rfl rfl rfl (P_ixa (1) rfl ty_ar_53 rfl rfl (by first | rfl | omega) (by omega)) ?_)
  refine O_val rfl rfl rfl rfl (V_load rfl rfl ty_sc_25 (Rd.blk .h0 rfl)) ?_
  refine O_pure rfl rfl rfl rfl (P_fld0 rfl ty_fl_72_3 rfl) ?_
  refine O_val rfl rfl rfl rfl (V_load rfl rfl ty_sc_23 (Rd.blk .h1 rfl)) ?_
  refine O_keep rfl rfl (W_callR rfl rfl rfl rfl fn_ca_16 (enter_twice p1 sg1 rc1 a ha hin) (Split.one (p := [_, _])) (fun _ _ _ _ _ _ _ => trivial) (K_keep (Weak.p1 (Weak.p1 (Weak.refl _))) ?_))
  refine O_pure rfl rfl rfl rfl (P_move rfl rfl) ?_
  refine O_pure rfl rfl rfl rfl (P_extract rfl rfl rfl) ?_
  refine O_pure rfl rfl rfl rfl (P_extract rfl rfl rfl) ?_
  refine O_pure rfl rfl rfl rfl (P_assign rfl rfl) ?_
  refine O_pure rfl rfl rfl rfl (P_assign rfl rfl) ?_
  refine O_nil ?_
  refine St.env (.cons (t := 0) rfl (.cons (t := 1) rfl (.cons (t := 5) rfl (.cons (t := 6) rfl (.cons (t := 7) rfl (.cons (t := 8) rfl .nil)))))) ?_
  refine Q_then ?_
  refine R_seq ?_
  refine St.res (rs' := [blk w [.pointer (some ⟨p0, 0, none⟩), .pointer (some ⟨p1, 0, none⟩), .pointer (some ⟨q0, 0, none⟩), .pointer (some ⟨q1, 0, none⟩), .slice sb0 sg0.length sc0, .slice sb1 sg1.length sc1, .slice tb0 tg0.length tc0, .slice tb1 tg1.length tc1, .slice zb ss.length zc] 79, blk b5 (opC kd wh at_ a base xs.length c sl tw lg) 72, REG p1 (sg1) (rc1), REF q1 (tg1) (rc1), ownS 27 1 (.slice sb1 sg1.length sc1) (sg1).length (ptrs (sg1)), ownS 114 1 (.slice tb1 tg1.length tc1) (tg1).length (ptrs (tg1)), ownS 33 16 (.slice zb ss.length zc) (ss).length (flat .u8 (ss)), REG p0 (sg0) (rc0), REF q0 (tg0) (rc0), ownS 27 1 (.slice sb0 sg0.length sc0) (sg0).length (ptrs (sg0)), ownS 114 1 (.slice tb0 tg0.length tc0) (tg0).length (ptrs (tg0))]) (Weak.p1 (Weak.p1 (Weak.refl _))) ?_
  refine R_open [(0, 0), (1, 0), (2, 0), (3, 0), (4, 0), (5, 1), (6, 0), (7, 1), (8, 2), (9, 0), (10, 0), (11, 0), (12, 0), (13, 0)] mixed (by kernel_rfl) (QOk.then QOk.body) ?_
  refine O_pure rfl rfl rfl rfl (P_move rfl rfl) ?_
  refine O_pure rfl rfl rfl rfl (P_move rfl rfl) ?_
  refine O_pure rfl rfl rfl rfl (P_nil rfl rfl) ?_
  refine O_pure rfl rfl rfl rfl (P_fld0 rfl ty_fl_79_1 rfl) ?_
  first | (refine O_pure rfl rfl rfl rfl (P_ixa0 (1) rfl ty_ar_74 rfl rfl (by first | rfl | omega) (by omega)) ?_) | (refine O_pure rfl rfl rfl rfl (P_ixa (1) rfl ty_ar_74 rfl rfl (by first | rfl | omega) (by omega)) ?_)
  refine O_val rfl rfl rfl rfl (V_load rfl rfl ty_sc_73 (Rd.blk .h0 rfl)) ?_
  refine O_pure rfl rfl rfl rfl (P_fld0 rfl ty_fl_72_3 rfl) ?_
  refine O_val rfl rfl rfl rfl (V_load rfl rfl ty_sc_23 (Rd.blk .h1 rfl)) ?_
  refine O_keep rfl rfl (W_callR rfl rfl rfl rfl fn_ca_62 (renter_twice q1 tg1 rc1 a ha (by rw [← hen1]; exact (isIn_iff _ _).1 hin) (by omega)) (Split.one (p := [_, _, _])) (fun _ _ _ _ _ _ _ => trivial) (K_keep (Weak.p1 (Weak.p1 (Weak.p1 (Weak.refl _)))) ?_))
  refine O_pure rfl rfl rfl rfl (P_move rfl rfl) ?_
  refine O_pure rfl rfl rfl rfl (P_extract rfl rfl rfl) ?_
  refine O_pure rfl rfl rfl rfl (P_extract rfl rfl rfl) ?_
  refine O_pure rfl rfl rfl rfl (P_assign rfl rfl) ?_
  refine O_pure rfl rfl rfl rfl (P_assign rfl rfl) ?_
  refine O_nil ?_
  refine St.env (.cons (t := 0) rfl (.cons (t := 1) rfl (.cons (t := 6) rfl (.cons (t := 7) rfl (.cons (t := 8) rfl (.cons (t := 9) rfl (.cons (t := 10) rfl .nil))))))) ?_
  refine Q_then ?_
  refine R_seq ?_
  refine R_seq ?_
  refine St.res (rs' := [blk w [.pointer (some ⟨p0, 0, none⟩), .pointer (some ⟨p1, 0, none⟩), .pointer (some ⟨q0, 0, none⟩), .pointer (some ⟨q1, 0, none⟩), .slice sb0 sg0.length sc0, .slice sb1 sg1.length sc1, .slice tb0 tg0.length tc0, .slice tb1 tg1.length tc1, .slice zb ss.length zc] 79, blk b5 (opC kd wh at_ a base xs.length c sl tw lg) 72, REG p1 (sg1) (rc1), REF q1 (tg1) (rc1), ownS 27 1 (.slice sb1 sg1.length sc1) (sg1).length (ptrs (sg1)), ownS 114 1 (.slice tb1 tg1.length tc1) (tg1).length (ptrs (tg1)), ownS 33 16 (.slice zb ss.length zc) (ss).length (flat .u8 (ss)), REG p0 (sg0) (rc0), REF q0 (tg0) (rc0), ownS 27 1 (.slice sb0 sg0.length sc0) (sg0).length (ptrs (sg0)), ownS 114 1 (.slice tb0 tg0.length tc0) (tg0).length (ptrs (tg0))]) (Weak.p1 (Weak.p1 (Weak.p1 (Weak.refl _)))) ?_
  refine R_region ?_
  refine L_val rfl rfl rfl (OpP.v (P_move rfl rfl)) ?_
  refine L_op rfl (W_callV rfl rfl rfl rfl fn_ca_17 (num_ok 30) (fun _ _ => trivial) ?_)
  refine L_val rfl rfl rfl (OpP.v (P_move rfl rfl)) ?_
  refine L_op rfl (W_callV rfl rfl rfl rfl fn_ca_17 (num_ok 30) (fun _ _ => trivial) ?_)
  refine L_val rfl rfl rfl (OpP.v (P_neq rfl rfl rfl)) ?_
  refine E_false (t := 39) rfl (rfl) ?_
  refine L_val rfl rfl rfl (OpP.v (P_move rfl rfl)) ?_
  refine L_val rfl rfl rfl (OpP.v (P_move rfl rfl)) ?_
  refine L_val rfl rfl rfl (OpP.v (P_eqNil0 rfl ty_ptr_27 rfl rfl)) ?_
  refine L_val rfl rfl rfl (OpP.v (P_move rfl rfl)) ?_
  refine L_val rfl rfl rfl (OpP.v (P_eqNil0 rfl ty_ptr_114 rfl rfl)) ?_
  refine L_val rfl rfl rfl (OpP.v (P_neq_bool rfl ty_bool_4 rfl rfl)) ?_
  refine E_false (t := 45) rfl (rfl) ?_
  refine L_val rfl rfl rfl (OpP.v (P_pick rfl rfl rfl)) ?_
  refine L_nil ?_
  refine St.env (.cons (t := 0) rfl (.cons (t := 1) rfl (.cons (t := 6) rfl (.cons (t := 7) rfl (.cons (t := 9) rfl (.cons (t := 46) rfl .nil)))))) ?_
  refine Q_then ?_
  refine R_condF rfl ?_
  refine R_skip ?_
  refine Q_then ?_
  refine R_seq ?_
  refine R_seq ?_
  refine R_region ?_
  refine L_val rfl rfl rfl (OpP.v (P_move rfl rfl)) ?_
  refine L_val rfl rfl rfl (OpP.v (P_neNil0 rfl ty_ptr_114 rfl rfl)) ?_
  refine L_nil ?_
  refine St.env (.cons (t := 0) rfl (.cons (t := 1) rfl (.cons (t := 6) rfl (.cons (t := 7) rfl (.cons (t := 9) rfl (.cons (t := 48) rfl .nil)))))) ?_
  refine Q_then ?_
  refine R_condF rfl ?_
  refine R_skip ?_
  refine Q_then ?_
  refine R_seq ?_
  refine R_region ?_
  refine L_val rfl rfl rfl (OpP.v (P_assign rfl rfl)) ?_
  refine L_nil ?_
  refine St.env (.cons (t := 6) rfl .nil) ?_
  refine Q_then ?_
  refine R_ret ?_
  exact R_end (rs2 := [TWO w (n + 1)]) rfl rfl (.tmp rfl .nil) (⟨rfl, rfl⟩) ((Weak.keep (Weak.drop (Weak.refl _))).trans ((Weak.keep (Weak.pick (p := [_, _, _, _, _]) (Weak.pick (p := [_, _, _, _, _]) (Weak.pick (p := [_, _, _, _, _]) (Weak.pick (p := [_, _, _, _, _]) (Weak.keep (Weak.keep (Weak.keep (Weak.keep (Weak.keep (Weak.nil _))))))))))).trans (two_close (n := n + 1) (rs := []) ⟨⟨p0, q0, sg0, tg0, rc0, .slice sb0 sg0.length sc0, .slice tb0 tg0.length tc0⟩, ⟨p1, q1, sg1, tg1, rc1, .slice sb1 sg1.length sc1, .slice tb1 tg1.length tc1⟩, .slice zb ss.length zc, ss⟩ ⟨⟨hen0, Nat.le_succ_of_le hs0, Nat.le_succ_of_le hr0⟩, ⟨hen1, Nat.le_succ_of_le hs1, Nat.le_succ_of_le hr1⟩, Nat.le_succ_of_le hzl, hz16⟩)))
theorem enters_new1 {gl : Nat → Obj} (w n : Nat) (p0 q0 p1 q1 : Nat) (sg0 tg0 sg1 tg1 : List (Int × Nat)) (rc0 rc1 : List Rcd) (vs0 vt0 vs1 vt1 z : Value) (ss : List (List Int)) (hen0 : enOf sg0 = enOf tg0) (hen1 : enOf sg1 = enOf tg1) (hs0 : sg0.length ≤ n) (hs1 : sg1.length ≤ n) (hr0 : rc0.length ≤ n) (hr1 : rc1.length ≤ n) (hzl : ss.length ≤ n) (hz16 : ∀ s ∈ ss, s.length = 16) (hn : n ≤ 1599289640354) (kd wh at_ a : Int) (base : Option Addr) (c : Nat) (xs sl : List Int) (tw : Int) (lg : Bool) (ha : a ≠ 0) (hin : isIn sg1 a = false) : SpecR (cx gl) 48 [.pointer (some ⟨w, 0, none⟩), .int .i64 1, .agg (opC kd wh at_ a base xs.length c sl tw lg).toArray] (fun _ _ => True) [blk w [.pointer (some ⟨p0, 0, none⟩), .pointer (some ⟨p1, 0, none⟩), .pointer (some ⟨q0, 0, none⟩), .pointer (some ⟨q1, 0, none⟩), vs0, vs1, vt0, vt1, z] 79, REG p0 (sg0) (rc0), REF q0 (tg0) (rc0), ownS 27 1 (vs0) (sg0).length (ptrs (sg0)), ownS 114 1 (vt0) (tg0).length (ptrs (tg0)), REG p1 (sg1) (rc1), REF q1 (tg1) (rc1), ownS 27 1 (vs1) (sg1).length (ptrs (sg1)), ownS 114 1 (vt1) (tg1).length (ptrs (tg1)), ownS 33 16 (z) (ss).length (flat .u8 (ss))] (.bool true) [TWO w (n + 1)] := by
  refine Spec.enter (C := cx gl) Tryd.func48 rfl 77 rfl rfl fun w0 h0 hsep hsub hpre => ?_
  show St (cx gl) _ [(0, .pointer (some ⟨w, 0, none⟩)), (1, .int .i64 1), (2, .agg (opC kd wh at_ a base xs.length c sl tw lg).toArray)] _ _
  have htl0 : tg0.length = sg0.length := (enOf_len hen0).symm
  have htl1 : tg1.length = sg1.length := (enOf_len hen1).symm
  refine St.ownForm (p := [_, _, _]) fun sb0 sc0 hsb0_ hsc0 => ?_
  subst hsb0_
  refine St.ownForm (p := [_, _, _, _]) fun tb0 tc0 htb0_ htc0 => ?_
  subst htb0_
  refine St.ownForm (p := [_, _, _, _, _, _, _]) fun sb1 sc1 hsb1_ hsc1 => ?_
  subst hsb1_
  refine St.ownForm (p := [_, _, _, _, _, _, _, _]) fun tb1 tc1 htb1_ htc1 => ?_
  subst htb1_
  refine St.ownForm (p := [_, _, _, _, _, _, _, _, _]) fun zb zc hzb_ hzc => ?_
  subst hzb_
  refine St.res (rs' := [blk w [.pointer (some ⟨p0, 0, none⟩), .pointer (some ⟨p1, 0, none⟩), .pointer (some ⟨q0, 0, none⟩), .pointer (some ⟨q1, 0, none⟩), .slice sb0 sg0.length sc0, .slice sb1 sg1.length sc1, .slice tb0 tg0.length tc0, .slice tb1 tg1.length tc1, .slice zb ss.length zc] 79, REG p0 (sg0) (rc0), REF q0 (tg0) (rc0), ownS 27 1 (.slice sb0 sg0.length sc0) (sg0).length (ptrs (sg0)), ownS 114 1 (.slice tb0 tg0.length tc0) (tg0).length (ptrs (tg0)), REG p1 (sg1) (rc1), REF q1 (tg1) (rc1), ownS 27 1 (.slice sb1 sg1.length sc1) (sg1).length (ptrs (sg1)), ownS 114 1 (.slice tb1 tg1.length tc1) (tg1).length (ptrs (tg1)), ownS 33 16 (.slice zb ss.length zc) (ss).length (flat .u8 (ss))]) (Weak.refl _) ?_
  refine R_seq ?_
  refine R_region ?_
  refine L_op rfl (W_box (opC kd wh at_ a base xs.length c sl tw lg) rfl rfl rfl rfl rfl fun b5 => ?_)
  refine L_val rfl rfl rfl (OpP.v (P_assign rfl rfl)) ?_
  refine L_nil ?_
  refine St.env (.cons (t := 0) rfl (.cons (t := 1) rfl (.cons (t := 5) rfl (.cons (t := 6) rfl .nil)))) ?_
  refine Q_then ?_
  refine R_seq ?_
  refine St.res (rs' := [blk w [.pointer (some ⟨p0, 0, none⟩), .pointer (some ⟨p1, 0, none⟩), .pointer (some ⟨q0, 0, none⟩), .pointer (some ⟨q1, 0, none⟩), .slice sb0 sg0.length sc0, .slice sb1 sg1.length sc1, .slice tb0 tg0.length tc0, .slice tb1 tg1.length tc1, .slice zb ss.length zc] 79, blk b5 (opC kd wh at_ a base xs.length c sl tw lg) 72, REG p1 (sg1) (rc1), REF q1 (tg1) (rc1), ownS 27 1 (.slice sb1 sg1.length sc1) (sg1).length (ptrs (sg1)), ownS 114 1 (.slice tb1 tg1.length tc1) (tg1).length (ptrs (tg1)), ownS 33 16 (.slice zb ss.length zc) (ss).length (flat .u8 (ss)), REG p0 (sg0) (rc0), REF q0 (tg0) (rc0), ownS 27 1 (.slice sb0 sg0.length sc0) (sg0).length (ptrs (sg0)), ownS 114 1 (.slice tb0 tg0.length tc0) (tg0).length (ptrs (tg0))]) ((Weak.swap.trans (Weak.refl _)).trans (Weak.keep (Weak.keep (Weak.pick (p := [_, _, _, _]) (Weak.pick (p := [_, _, _, _]) (Weak.pick (p := [_, _, _, _]) (Weak.pick (p := [_, _, _, _]) (Weak.pick (p := [_, _, _, _]) (Weak.keep (Weak.keep (Weak.keep (Weak.keep (Weak.nil _))))))))))))) ?_
  refine R_open [(0, 0), (1, 0), (2, 0), (3, 0), (4, 0), (5, 1), (6, 0), (7, 1), (8, 3), (9, 0), (10, 0), (11, 0), (12, 0), (13, 0)] mixed (by kernel_rfl) (QOk.then QOk.body) ?_
  refine O_pure rfl rfl rfl rfl (P_move rfl rfl) ?_
  refine O_pure rfl rfl rfl rfl (P_move rfl rfl) ?_
  refine O_pure rfl rfl rfl rfl (P_nil rfl rfl) ?_
  refine O_pure rfl rfl rfl rfl (P_fld0 rfl ty_fl_79_0 rfl) ?_
  first | (refine O_pure rfl rfl rfl rfl (P_ixa0 (1) rfl ty_ar_53 rfl rfl (by first | rfl | omega) (by omega)) ?_) | (refine O_pure rfl rfl rfl rfl (P_ixa (1) rfl ty_ar_53 rfl rfl (by first | rfl | omega) (by omega)) ?_)
  refine O_val rfl rfl rfl rfl (V_load rfl rfl ty_sc_25 (Rd.blk .h0 rfl)) ?_
  refine O_pure rfl rfl rfl rfl (P_fld0 rfl ty_fl_72_3 rfl) ?_
  refine O_val rfl rfl rfl rfl (V_load rfl rfl ty_sc_23 (Rd.blk .h1 rfl)) ?_
  refine O_new rfl rfl (W_call rfl rfl rfl rfl fn_ca_16 (enter_new p1 sg1 rc1 a ha hin) (Split.one (p := [_, _])) (fun _ _ _ _ _ _ _ => trivial) fun v20 rs1 ⟨s, e1, e2⟩ => ?_)
  subst e1; subst e2
  refine K_new ?_
  refine O_pure rfl rfl rfl rfl (P_move rfl rfl) ?_
  refine O_pure rfl rfl rfl rfl (P_extract rfl rfl rfl) ?_
  refine O_pure rfl rfl rfl rfl (P_extract rfl rfl rfl) ?_
  refine O_pure rfl rfl rfl rfl (P_assign rfl rfl) ?_
  refine O_pure rfl rfl rfl rfl (P_assign rfl rfl) ?_
  refine O_nil ?_
  refine St.env (.cons (t := 0) rfl (.cons (t := 1) rfl (.cons (t := 5) rfl (.cons (t := 6) rfl (.cons (t := 7) rfl (.cons (t := 8) rfl .nil)))))) ?_
  refine Q_then ?_
  refine R_seq ?_
  refine St.res (rs' := [blk w [.pointer (some ⟨p0, 0, none⟩), .pointer (some ⟨p1, 0, none⟩), .pointer (some ⟨q0, 0, none⟩), .pointer (some ⟨q1, 0, none⟩), .slice sb0 sg0.length sc0, .slice sb1 sg1.length sc1, .slice tb0 tg0.length tc0, .slice tb1 tg1.length tc1, .slice zb ss.length zc] 79, blk b5 (opC kd wh at_ a base xs.length c sl tw lg) 72, REG p1 (sg1 ++ [(a, s)]) (rc1), REF q1 (tg1) (rc1), ownS 27 1 (.slice sb1 sg1.length sc1) (sg1).length (ptrs (sg1)), ownS 114 1 (.slice tb1 tg1.length tc1) (tg1).length (ptrs (tg1)), ownS 33 16 (.slice zb ss.length zc) (ss).length (flat .u8 (ss)), REG p0 (sg0) (rc0), REF q0 (tg0) (rc0), ownS 27 1 (.slice sb0 sg0.length sc0) (sg0).length (ptrs (sg0)), ownS 114 1 (.slice tb0 tg0.length tc0) (tg0).length (ptrs (tg0))]) (Weak.p1 (Weak.p1 (Weak.refl _))) ?_
  refine R_open [(0, 0), (1, 0), (2, 0), (3, 0), (4, 0), (5, 1), (6, 0), (7, 1), (8, 3), (9, 0), (10, 0), (11, 0), (12, 0), (13, 0)] mixed (by kernel_rfl) (QOk.then QOk.body) ?_
  refine O_pure rfl rfl rfl rfl (P_move rfl rfl) ?_
  refine O_pure rfl rfl rfl rfl (P_move rfl rfl) ?_
  refine O_pure rfl rfl rfl rfl (P_nil rfl rfl) ?_
  refine O_pure rfl rfl rfl rfl (P_fld0 rfl ty_fl_79_1 rfl) ?_
  first | (refine O_pure rfl rfl rfl rfl (P_ixa0 (1) rfl ty_ar_74 rfl rfl (by first | rfl | omega) (by omega)) ?_) | (refine O_pure rfl rfl rfl rfl (P_ixa (1) rfl ty_ar_74 rfl rfl (by first | rfl | omega) (by omega)) ?_)
  refine O_val rfl rfl rfl rfl (V_load rfl rfl ty_sc_73 (Rd.blk .h0 rfl)) ?_
  refine O_pure rfl rfl rfl rfl (P_fld0 rfl ty_fl_72_3 rfl) ?_
  refine O_val rfl rfl rfl rfl (V_load rfl rfl ty_sc_23 (Rd.blk .h1 rfl)) ?_
  refine O_new rfl rfl (W_call rfl rfl rfl rfl fn_ca_62 (renter_new q1 tg1 rc1 a ha (by rw [← hen1]; exact fun h => by rw [(isIn_iff _ _).2 h] at hin; cases hin) (by omega)) (Split.one (p := [_, _, _])) (fun _ _ _ _ _ _ _ => trivial) fun v32 rs2 ⟨t, e3, e4⟩ => ?_)
  subst e3; subst e4
  refine K_new ?_
  refine O_pure rfl rfl rfl rfl (P_move rfl rfl) ?_
  refine O_pure rfl rfl rfl rfl (P_extract rfl rfl rfl) ?_
  refine O_pure rfl rfl rfl rfl (P_extract rfl rfl rfl) ?_
  refine O_pure rfl rfl rfl rfl (P_assign rfl rfl) ?_
  refine O_pure rfl rfl rfl rfl (P_assign rfl rfl) ?_
  refine O_nil ?_
  refine St.env (.cons (t := 0) rfl (.cons (t := 1) rfl (.cons (t := 6) rfl (.cons (t := 7) rfl (.cons (t := 8) rfl (.cons (t := 9) rfl (.cons (t := 10) rfl .nil))))))) ?_
  refine Q_then ?_
  refine R_seq ?_
  refine R_seq ?_
  refine St.res (rs' := [blk w [.pointer (some ⟨p0, 0, none⟩), .pointer (some ⟨p1, 0, none⟩), .pointer (some ⟨q0, 0, none⟩), .pointer (some ⟨q1, 0, none⟩), .slice sb0 sg0.length sc0, .slice sb1 sg1.length sc1, .slice tb0 tg0.length tc0, .slice tb1 tg1.length tc1, .slice zb ss.length zc] 79, blk b5 (opC kd wh at_ a base xs.length c sl tw lg) 72, REG p1 (sg1 ++ [(a, s)]) (rc1), REF q1 (tg1 ++ [(a, t)]) (rc1), ownS 27 1 (.slice sb1 sg1.length sc1) (sg1).length (ptrs (sg1)), ownS 114 1 (.slice tb1 tg1.length tc1) (tg1).length (ptrs (tg1)), ownS 33 16 (.slice zb ss.length zc) (ss).length (flat .u8 (ss)), REG p0 (sg0) (rc0), REF q0 (tg0) (rc0), ownS 27 1 (.slice sb0 sg0.length sc0) (sg0).length (ptrs (sg0)), ownS 114 1 (.slice tb0 tg0.length tc0) (tg0).length (ptrs (tg0))]) (Weak.p1 (Weak.p1 (Weak.p1 (Weak.refl _)))) ?_
  refine R_region ?_
  refine L_val rfl rfl rfl (OpP.v (P_move rfl rfl)) ?_
  refine L_op rfl (W_callV rfl rfl rfl rfl fn_ca_17 (num_ok 0) (fun _ _ => trivial) ?_)
  refine L_val rfl rfl rfl (OpP.v (P_move rfl rfl)) ?_
  refine L_op rfl (W_callV rfl rfl rfl rfl fn_ca_17 (num_ok 0) (fun _ _ => trivial) ?_)
  refine L_val rfl rfl rfl (OpP.v (P_neq rfl rfl rfl)) ?_
  refine E_false (t := 39) rfl (rfl) ?_
  refine L_val rfl rfl rfl (OpP.v (P_move rfl rfl)) ?_
  refine L_val rfl rfl rfl (OpP.v (P_move rfl rfl)) ?_
  refine L_val rfl rfl rfl (OpP.v (P_eqNil rfl ty_ptr_27 rfl rfl)) ?_
  refine L_val rfl rfl rfl (OpP.v (P_move rfl rfl)) ?_
  refine L_val rfl rfl rfl (OpP.v (P_eqNil rfl ty_ptr_114 rfl rfl)) ?_
  refine L_val rfl rfl rfl (OpP.v (P_neq_bool rfl ty_bool_4 rfl rfl)) ?_
  refine E_false (t := 45) rfl (rfl) ?_
  refine L_val rfl rfl rfl (OpP.v (P_pick rfl rfl rfl)) ?_
  refine L_nil ?_
  refine St.env (.cons (t := 0) rfl (.cons (t := 1) rfl (.cons (t := 6) rfl (.cons (t := 7) rfl (.cons (t := 9) rfl (.cons (t := 46) rfl .nil)))))) ?_
  refine Q_then ?_
  refine R_condF rfl ?_
  refine R_skip ?_
  refine Q_then ?_
  refine R_seq ?_
  refine R_seq ?_
  refine R_region ?_
  refine L_val rfl rfl rfl (OpP.v (P_move rfl rfl)) ?_
  refine L_val rfl rfl rfl (OpP.v (P_neNil rfl ty_ptr_114 rfl rfl)) ?_
  refine L_nil ?_
  refine St.env (.cons (t := 0) rfl (.cons (t := 1) rfl (.cons (t := 6) rfl (.cons (t := 7) rfl (.cons (t := 9) rfl (.cons (t := 48) rfl .nil)))))) ?_
  refine Q_then ?_
  refine R_condT rfl ?_
  refine R_seq ?_
  refine R_open [(0, 0), (1, 0), (2, 0), (3, 0), (4, 0), (5, 0), (6, 0), (7, 1), (8, 0), (11, 0), (12, 0), (9, 2), (10, 3), (13, 0), (14, 3)] mixed (by kernel_rfl) (QOk.then (QOk.then QOk.body)) ?_
  refine O_pure rfl rfl rfl rfl (P_move rfl rfl) ?_
  refine O_pure rfl rfl rfl rfl (P_move rfl rfl) ?_
  refine O_pure rfl rfl rfl rfl (P_move rfl rfl) ?_
  refine O_pure rfl rfl rfl rfl (P_move rfl rfl) ?_
  refine O_pure rfl rfl rfl rfl (P_nil rfl rfl) ?_
  refine O_pure rfl rfl rfl rfl (P_fld0 rfl ty_fl_79_2 rfl) ?_
  first | (refine O_pure rfl rfl rfl rfl (P_ixa0 (1) rfl ty_ar_55 rfl rfl (by first | rfl | omega) (by omega)) ?_) | (refine O_pure rfl rfl rfl rfl (P_ixa (1) rfl ty_ar_55 rfl rfl (by first | rfl | omega) (by omega)) ?_)
  refine O_val rfl rfl rfl rfl (V_load rfl rfl ty_sc_54 (Rd.blk .h0 rfl)) ?_
  refine O_pure rfl rfl rfl rfl (P_move rfl rfl) ?_
  refine O_pure rfl rfl rfl rfl (P_nil rfl rfl) ?_
  refine O_pure rfl rfl rfl rfl (P_fld0 rfl ty_fl_79_2 rfl) ?_
  refine O_keep rfl rfl (W_lit (z := .nilIface) ([.pointer (some ⟨s, 0, none⟩)]) rfl rfl rfl ty_sl_54 ty_lz_54 rfl rfl rfl (by decide) (by decide) (by simp [Value.cells]) (rfl) fun b58 => (K_keep (Weak.drop (Weak.refl _)) ?_))
  refine O_new rfl rfl (W_append (p := [_, _, _, _, _]) rfl rfl rfl ty_sl_54 ty_ap_54 ty_src_54 rfl rfl rfl (Src.slice (sz := 1) (news := [.pointer (some ⟨s, 0, none⟩)]) (Rds.blk .h0) rfl (by intro v hv; simp only [List.mem_singleton] at hv; subst hv; rfl)) (by omega) (by simp only [maxLen]; omega) fun v59 => (K_new ?_))
  refine St.ownForm (p := [_, _, _, _, _]) fun nb nc hnb_ hnc => ?_
  subst hnb_
  first | (refine O_pure rfl rfl rfl rfl (P_ixa0 (1) rfl ty_ar_55 rfl rfl (by first | rfl | omega) (by omega)) ?_) | (refine O_pure rfl rfl rfl rfl (P_ixa (1) rfl ty_ar_55 rfl rfl (by first | rfl | omega) (by omega)) ?_)
  refine O_new rfl rfl (W_store rfl rfl rfl rfl ty_sc_54 rfl .h1 (by first | decide | (simp [ints]; done) | (simp [ints]; omega)) (K_new ?_))
  refine O_nil ?_
  refine St.env (.cons (t := 0) rfl (.cons (t := 1) rfl (.cons (t := 6) rfl (.cons (t := 9) rfl .nil)))) ?_
  refine Q_then ?_
  refine St.res (rs' := [blk w [.pointer (some ⟨p0, 0, none⟩), .pointer (some ⟨p1, 0, none⟩), .pointer (some ⟨q0, 0, none⟩), .pointer (some ⟨q1, 0, none⟩), .slice sb0 sg0.length sc0, .slice nb (sg1.length + 1) nc, .slice tb0 tg0.length tc0, .slice tb1 tg1.length tc1, .slice zb ss.length zc] 79, blk b5 (opC kd wh at_ a base xs.length c sl tw lg) 72, REG p1 (sg1 ++ [(a, s)]) (rc1), REF q1 (tg1 ++ [(a, t)]) (rc1), ownS 27 1 (.slice nb (sg1.length + 1) nc) (sg1 ++ [(a, s)]).length (ptrs (sg1 ++ [(a, s)])), ownS 114 1 (.slice tb1 tg1.length tc1) (tg1).length (ptrs (tg1)), ownS 33 16 (.slice zb ss.length zc) (ss).length (flat .u8 (ss)), REG p0 (sg0) (rc0), REF q0 (tg0) (rc0), ownS 27 1 (.slice sb0 sg0.length sc0) (sg0).length (ptrs (sg0)), ownS 114 1 (.slice tb0 tg0.length tc0) (tg0).length (ptrs (tg0))]) (by have e : (sg1 ++ [(a, s)]).length = sg1.length + 1 := (by simp); rw [ptrs_snoc sg1 a s, e]; exact Weak.drop (Weak.refl _)) ?_
  refine R_open [(0, 0), (1, 0), (2, 0), (3, 0), (4, 0), (5, 0), (6, 0), (7, 1), (8, 0), (11, 0), (12, 0), (9, 2), (10, 3), (13, 0), (14, 3)] mixed (by kernel_rfl) (QOk.then QOk.body) ?_
  refine O_pure rfl rfl rfl rfl (P_move rfl rfl) ?_
  refine O_pure rfl rfl rfl rfl (P_move rfl rfl) ?_
  refine O_pure rfl rfl rfl rfl (P_move rfl rfl) ?_
  refine O_pure rfl rfl rfl rfl (P_move rfl rfl) ?_
  refine O_pure rfl rfl rfl rfl (P_nil rfl rfl) ?_
  refine O_pure rfl rfl rfl rfl (P_fld0 rfl ty_fl_79_3 rfl) ?_
  first | (refine O_pure rfl rfl rfl rfl (P_ixa0 (1) rfl ty_ar_76 rfl rfl (by first | rfl | omega) (by omega)) ?_) | (refine O_pure rfl rfl rfl rfl (P_ixa (1) rfl ty_ar_76 rfl rfl (by first | rfl | omega) (by omega)) ?_)
  refine O_val rfl rfl rfl rfl (V_load rfl rfl ty_sc_75 (Rd.blk .h0 rfl)) ?_
  refine O_pure rfl rfl rfl rfl (P_move rfl rfl) ?_
  refine O_pure rfl rfl rfl rfl (P_nil rfl rfl) ?_
  refine O_pure rfl rfl rfl rfl (P_fld0 rfl ty_fl_79_3 rfl) ?_
  refine O_keep rfl rfl (W_lit (z := .nilIface) ([.pointer (some ⟨t, 0, none⟩)]) rfl rfl rfl ty_sl_75 ty_lz_75 rfl rfl rfl (by decide) (by decide) (by simp [Value.cells]) (rfl) fun b72 => (K_keep (Weak.drop (Weak.refl _)) ?_))
  refine O_new rfl rfl (W_append (p := [_, _, _, _, _, _]) rfl rfl rfl ty_sl_75 ty_ap_75 ty_src_75 rfl rfl rfl (Src.slice (sz := 1) (news := [.pointer (some ⟨t, 0, none⟩)]) (Rds.blk .h0) rfl (by intro v hv; simp only [List.mem_singleton] at hv; subst hv; rfl)) (by omega) (by simp only [maxLen]; omega) fun v73 => (K_new ?_))
  refine St.ownForm (p := [_, _, _, _, _, _]) fun mb mc hmb_ hmc => ?_
  subst hmb_
  first | (refine O_pure rfl rfl rfl rfl (P_ixa0 (1) rfl ty_ar_76 rfl rfl (by first | rfl | omega) (by omega)) ?_) | (refine O_pure rfl rfl rfl rfl (P_ixa (1) rfl ty_ar_76 rfl rfl (by first | rfl | omega) (by omega)) ?_)
  refine O_new rfl rfl (W_store rfl rfl rfl rfl ty_sc_75 rfl .h1 (by first | decide | (simp [ints]; done) | (simp [ints]; omega)) (K_new ?_))
  refine O_nil ?_
  refine St.env (.cons (t := 6) rfl .nil) ?_
  refine Q_then ?_
  refine R_seq ?_
  refine St.res (rs' := [blk w [.pointer (some ⟨p0, 0, none⟩), .pointer (some ⟨p1, 0, none⟩), .pointer (some ⟨q0, 0, none⟩), .pointer (some ⟨q1, 0, none⟩), .slice sb0 sg0.length sc0, .slice nb (sg1.length + 1) nc, .slice tb0 tg0.length tc0, .slice mb (tg1.length + 1) mc, .slice zb ss.length zc] 79, blk b5 (opC kd wh at_ a base xs.length c sl tw lg) 72, REG p1 (sg1 ++ [(a, s)]) (rc1), REF q1 (tg1 ++ [(a, t)]) (rc1), ownS 27 1 (.slice nb (sg1.length + 1) nc) (sg1 ++ [(a, s)]).length (ptrs (sg1 ++ [(a, s)])), ownS 114 1 (.slice mb (tg1.length + 1) mc) (tg1 ++ [(a, t)]).length (ptrs (tg1 ++ [(a, t)])), ownS 33 16 (.slice zb ss.length zc) (ss).length (flat .u8 (ss)), REG p0 (sg0) (rc0), REF q0 (tg0) (rc0), ownS 27 1 (.slice sb0 sg0.length sc0) (sg0).length (ptrs (sg0)), ownS 114 1 (.slice tb0 tg0.length tc0) (tg0).length (ptrs (tg0))]) (by have e : (tg1 ++ [(a, t)]).length = tg1.length + 1 := (by simp); rw [ptrs_snoc tg1 a t, e]; exact Weak.drop (Weak.refl _)) ?_
  refine R_region ?_
  refine L_val rfl rfl rfl (OpP.v (P_assign rfl rfl)) ?_
  refine L_nil ?_
  refine Q_then ?_
  refine R_ret ?_
  exact R_end (rs2 := [TWO w (n + 1)]) rfl rfl (.tmp rfl .nil) (⟨rfl, rfl⟩) ((Weak.keep (Weak.drop (Weak.refl _))).trans ((Weak.keep (Weak.pick (p := [_, _, _, _, _]) (Weak.pick (p := [_, _, _, _, _]) (Weak.pick (p := [_, _, _, _, _]) (Weak.pick (p := [_, _, _, _, _]) (Weak.keep (Weak.keep (Weak.keep (Weak.keep (Weak.keep (Weak.nil _))))))))))).trans (two_close (n := n + 1) (rs := []) ⟨⟨p0, q0, sg0, tg0, rc0, .slice sb0 sg0.length sc0, .slice tb0 tg0.length tc0⟩, ⟨p1, q1, sg1 ++ [(a, s)], tg1 ++ [(a, t)], rc1, .slice nb (sg1.length + 1) nc, .slice mb (tg1.length + 1) mc⟩, .slice zb ss.length zc, ss⟩ ⟨⟨hen0, Nat.le_succ_of_le hs0, Nat.le_succ_of_le hr0⟩, ⟨by show enOf (_ ++ [_]) = enOf (_ ++ [_]); rw [enOf_snoc, enOf_snoc, hen1], snoc_le hs1, Nat.le_succ_of_le hr1⟩, Nat.le_succ_of_le hzl, hz16⟩)))
theorem enters_ok1 {gl : Nat → Obj} (w n : Nat) (hn : n ≤ 1599289640354) (kd wh at_ a : Int) (base : Option Addr) (c : Nat) (xs sl : List Int) (tw : Int) (lg : Bool) : SpecR (cx gl) 48 [.pointer (some ⟨w, 0, none⟩), .int .i64 1, .agg (opC kd wh at_ a base xs.length c sl tw lg).toArray] (fun _ _ => True) [TWO w n] (.bool true) [TWO w (n + 1)] := Spec.openEx fun ⟨⟨p0, q0, sg0, tg0, rc0, vs0, vt0⟩, ⟨p1, q1, sg1, tg1, rc1, vs1, vt1⟩, z, ss⟩ hok => by
  obtain ⟨⟨hen0, hs0, hr0⟩, ⟨hen1, hs1, hr1⟩, hzl, hz16⟩ := hok
  by_cases ha : a = 0
  · exact enters_zero1 w n p0 q0 p1 q1 sg0 tg0 sg1 tg1 rc0 rc1 vs0 vt0 vs1 vt1 z ss hen0 hen1 hs0 hs1 hr0 hr1 hzl hz16 hn kd wh at_ a base c xs sl tw lg ha
  · cases hin : isIn sg1 a with
    | true => exact enters_twice1 w n p0 q0 p1 q1 sg0 tg0 sg1 tg1 rc0 rc1 vs0 vt0 vs1 vt1 z ss hen0 hen1 hs0 hs1 hr0 hr1 hzl hz16 hn kd wh at_ a base c xs sl tw lg ha hin
    | false => exact enters_new1 w n p0 q0 p1 q1 sg0 tg0 sg1 tg1 rc0 rc1 vs0 vt0 vs1 vt1 z ss hen0 hen1 hs0 hs1 hr0 hr1 hzl hz16 hn kd wh at_ a base c xs sl tw lg ha hin
end Go.Proofs.YtnaadddnbfnahaaDoor
