/- The book beside two registries: enter, sign. Printed by gen.py. -/
import Derived.Test.YtnaadddnbfnahaaDoorV1
set_option linter.unusedVariables false
set_option linter.unusedSimpArgs false
set_option maxRecDepth 100000
namespace Go.Proofs.YtnaadddnbfnahaaDoor
open Go Go.RowKit Go.Proofs
/-- An address more, if it may be entered and isn't yet. -/
def eAdd (e : List Int) (a : Int) : List Int := if a = 0 ∨ a ∈ e then e else e ++ [a]
theorem eAdd_le {e : List Int} {a : Int} {n : Nat} (h : e.length ≤ n) : (eAdd e a).length ≤ n + 1 := by
  unfold eAdd
  split
  · omega
  · rw [List.length_append, List.length_singleton]; omega
/-- What is signed stands in the book. -/
def signB (k : Int) (e : List Int) (at_ : Int) (m : List Int) (bk : List Wrt) : List Wrt :=
  if e.length = 0 ∨ 1048576 < m.length then bk else match e[(aroundI at_ (e.length : Int)).toNat]? with
    | some a => addB bk (k, a, m)
    | none => bk
theorem signB_le {k : Int} {e : List Int} {at_ : Int} {m : List Int} {bk : List Wrt} {n : Nat} (h : bk.length ≤ n) : (signB k e at_ m bk).length ≤ n + 1 := by
  unfold signB
  split
  · omega
  · split
    · exact addB_le h
    · omega
theorem signB_ok {k : Int} (hk : k = 0 ∨ k = 1) {e : List Int} {at_ : Int} {m : List Int} (hm : IsB m) {bk : List Wrt} (h : BkOK bk) : BkOK (signB k e at_ m bk) := by
  unfold signB
  split
  · exact h
  · rename_i hn
    split
    · exact h.add hk hm (show m.length ≤ 1048576 by omega)
    · exact h
theorem build_wr (k a : Int) (m : List Int) : fillL [(0, 1), (1, 1), (2, 1), (3, 16)] (.int .i64 0 :: .int .u64 0 :: .string ByteArray.empty :: List.replicate 16 (.int .u8 0)) ([0, 1, 2, 3].zip [.int .i64 k, .int .u64 a, .string (strOfNums m), .agg (ints .u8 (sealH a m)).toArray]) = some (wrC (k, a, m)) := by
  have h1 : (ints .u8 (sealH a m)).length = 16 := by rw [ints_length, sealH_length]
  simp [fillL, Value.cells, h1, splice, wrC]
theorem bkC_snoc (bk : List Wrt) (x : Wrt) : bkC bk ++ wrC x = bkC (bk ++ [x]) := by simp [bkC]
theorem enOf_get {sg : List (Int × Nat)} {i : Nat} {a : Int} {s : Nat} (h : sg[i]? = some (a, s)) : (enOf sg)[i]? = some a := by simp [enOf, h]
theorem enter_zero_s0 {gl : Nat → Obj} (w : Nat) (p0 p1 : Nat) (sg0 sg1 : List (Int × Nat)) (S0 S1 A0 A1 B : Value) (bk : List Wrt) (hbk : BkOK bk) (hs0 : sg0.length ≤ 1599289640354) (hs1 : sg1.length ≤ 1599289640354) (hbl : bk.length ≤ 1599289640354) (a : Int) (ha : a = 0) : SpecR (cx gl) 44 [.pointer (some ⟨w, 0, none⟩), .int .i64 0, .int .u64 a] (fun _ _ => True) [blk w [.pointer (some ⟨p0, 0, none⟩), .pointer (some ⟨p1, 0, none⟩), S0, S1, A0, A1, B, .bool false] 59, REG p0 (sg0) (rcOf 0 bk), ownS 27 1 (S0) (sg0).length (ptrs (sg0)), ownS 23 1 (A0) (sg0).length (ints .u64 (enOf (sg0))), REG p1 (sg1) (rcOf 1 bk), ownS 27 1 (S1) (sg1).length (ptrs (sg1)), ownS 23 1 (A1) (sg1).length (ints .u64 (enOf (sg1))), ownS 64 19 (B) (bk).length (bkC (bk))] (.tuple #[]) [SIGHT w (eAdd (enOf sg0) a) (enOf sg1) bk] := by
  refine Spec.enter (C := cx gl) Tryd.func44 rfl 70 rfl rfl fun w0 h0 hsep hsub hpre => ?_
  show St (cx gl) _ [(0, .pointer (some ⟨w, 0, none⟩)), (1, .int .i64 0), (2, .int .u64 a)] _ _
  refine St.ownForm (p := [_, _]) fun sb0 sc0 hsb0_ hsc0 => ?_
  subst hsb0_
  refine St.ownForm (p := [_, _, _]) fun ab0 ac0 hab0_ hac0 => ?_
  subst hab0_
  refine St.ownForm (p := [_, _, _, _, _]) fun sb1 sc1 hsb1_ hsc1 => ?_
  subst hsb1_
  refine St.ownForm (p := [_, _, _, _, _, _]) fun ab1 ac1 hab1_ hac1 => ?_
  subst hab1_
  refine St.ownForm (p := [_, _, _, _, _, _, _]) fun bb bc hbb_ hbc => ?_
  subst hbb_
  refine St.res (rs' := [blk w [.pointer (some ⟨p0, 0, none⟩), .pointer (some ⟨p1, 0, none⟩), .slice sb0 sg0.length sc0, .slice sb1 sg1.length sc1, .slice ab0 sg0.length ac0, .slice ab1 sg1.length ac1, .slice bb bk.length bc, .bool false] 59, REG p0 (sg0) (rcOf 0 bk), ownS 27 1 (.slice sb0 sg0.length sc0) (sg0).length (ptrs (sg0)), ownS 23 1 (.slice ab0 sg0.length ac0) (sg0).length (ints .u64 (enOf (sg0))), REG p1 (sg1) (rcOf 1 bk), ownS 27 1 (.slice sb1 sg1.length sc1) (sg1).length (ptrs (sg1)), ownS 23 1 (.slice ab1 sg1.length ac1) (sg1).length (ints .u64 (enOf (sg1))), ownS 64 19 (.slice bb bk.length bc) (bk).length (bkC (bk))]) (Weak.refl _) ?_
  refine St.res (rs' := [blk w [.pointer (some ⟨p0, 0, none⟩), .pointer (some ⟨p1, 0, none⟩), .slice sb0 sg0.length sc0, .slice sb1 sg1.length sc1, .slice ab0 sg0.length ac0, .slice ab1 sg1.length ac1, .slice bb bk.length bc, .bool false] 59, REG p0 (sg0) (rcOf 0 bk), ownS 27 1 (.slice sb0 sg0.length sc0) (sg0).length (ptrs (sg0)), ownS 23 1 (.slice ab0 sg0.length ac0) (sg0).length (ints .u64 (enOf (sg0))), ownS 64 19 (.slice bb bk.length bc) (bk).length (bkC (bk)), REG p1 (sg1) (rcOf 1 bk), ownS 27 1 (.slice sb1 sg1.length sc1) (sg1).length (ptrs (sg1)), ownS 23 1 (.slice ab1 sg1.length ac1) (sg1).length (ints .u64 (enOf (sg1)))]) (Weak.keep (Weak.keep (Weak.keep (Weak.keep (Weak.pick (p := [_, _, _]) (Weak.keep (Weak.keep (Weak.keep (Weak.nil _))))))))) ?_
  refine R_seq ?_
  refine R_region ?_
  refine L_val rfl rfl rfl (OpP.v (P_move rfl rfl)) ?_
  refine L_val rfl rfl rfl (OpP.v (P_move rfl rfl)) ?_
  refine L_val rfl rfl rfl (OpP.v (P_nil rfl rfl)) ?_
  refine L_val rfl rfl rfl (OpP.v (P_fld0 rfl ty_fl_59_0 rfl)) ?_
  first | (refine L_val rfl rfl rfl (OpP.v (P_ixa0 (0) rfl ty_ar_53 rfl rfl (by first | rfl | omega) (by omega))) ?_) | (refine L_val rfl rfl rfl (OpP.v (P_ixa (0) rfl ty_ar_53 rfl rfl (by first | rfl | omega) (by omega))) ?_)
  refine L_val rfl rfl rfl (V_load rfl rfl ty_sc_25 (Rd.blk .h0 rfl)) ?_
  refine L_val rfl rfl rfl (OpP.v (P_move rfl rfl)) ?_
  refine L_op rfl (W_callR rfl rfl rfl rfl fn_ca_16 (by subst ha; exact enter_zero p0 sg0 (rcOf 0 bk)) (Split.one (p := [_])) (fun _ _ _ _ _ _ _ => trivial) ?_)
  refine St.res (rs' := [blk w [.pointer (some ⟨p0, 0, none⟩), .pointer (some ⟨p1, 0, none⟩), .slice sb0 sg0.length sc0, .slice sb1 sg1.length sc1, .slice ab0 sg0.length ac0, .slice ab1 sg1.length ac1, .slice bb bk.length bc, .bool false] 59, REG p0 (sg0) (rcOf 0 bk), ownS 27 1 (.slice sb0 sg0.length sc0) (sg0).length (ptrs (sg0)), ownS 23 1 (.slice ab0 sg0.length ac0) (sg0).length (ints .u64 (enOf (sg0))), ownS 64 19 (.slice bb bk.length bc) (bk).length (bkC (bk)), REG p1 (sg1) (rcOf 1 bk), ownS 27 1 (.slice sb1 sg1.length sc1) (sg1).length (ptrs (sg1)), ownS 23 1 (.slice ab1 sg1.length ac1) (sg1).length (ints .u64 (enOf (sg1)))]) (Weak.p1 (Weak.refl _)) ?_
  refine L_val rfl rfl rfl (OpP.v (P_move rfl rfl)) ?_
  refine L_val rfl rfl rfl (OpP.v (P_extract rfl rfl rfl)) ?_
  refine L_val rfl rfl rfl (OpP.v (P_extract rfl rfl rfl)) ?_
  refine L_val rfl rfl rfl (OpP.v (P_assign rfl rfl)) ?_
  refine L_val rfl rfl rfl (OpP.v (P_assign rfl rfl)) ?_
  refine L_nil ?_
  refine St.env (.cons (t := 0) rfl (.cons (t := 1) rfl (.cons (t := 2) rfl (.cons (t := 6) rfl (.cons (t := 7) rfl .nil))))) ?_
  refine Q_then ?_
  refine R_seq ?_
  refine R_region ?_
  refine L_val rfl rfl rfl (OpP.v (P_assign rfl rfl)) ?_
  refine L_nil ?_
  refine Q_then ?_
  refine R_seq ?_
  refine R_seq ?_
  refine R_region ?_
  refine L_val rfl rfl rfl (OpP.v (P_move rfl rfl)) ?_
  refine L_val rfl rfl rfl (OpP.v (P_eql rfl rfl rfl)) ?_
  refine E_true (t := 21) rfl (decide_eq_true ha) ?_
  refine L_nil ?_
  refine St.env (.cons (t := 0) rfl (.cons (t := 1) rfl (.cons (t := 2) rfl (.cons (t := 6) rfl (.cons (t := 7) rfl (.cons (t := 8) rfl (.cons (t := 21) rfl .nil))))))) ?_
  refine Q_then ?_
  refine R_condT rfl ?_
  refine R_region ?_
  refine L_val rfl rfl rfl (OpP.v (P_assign rfl rfl)) ?_
  refine L_nil ?_
  refine St.env (.cons (t := 0) rfl (.cons (t := 1) rfl (.cons (t := 2) rfl (.cons (t := 6) rfl (.cons (t := 7) rfl (.cons (t := 8) rfl .nil)))))) ?_
  refine Q_then ?_
  refine R_seq ?_
  refine R_seq ?_
  refine R_region ?_
  refine L_val rfl rfl rfl (OpP.v (P_move rfl rfl)) ?_
  refine L_op rfl (W_callV rfl rfl rfl rfl fn_ca_17 (num_ok 2) (fun _ _ => trivial) ?_)
  refine L_val rfl rfl rfl (OpP.v (P_move rfl rfl)) ?_
  refine L_val rfl rfl rfl (OpP.v (P_neq rfl rfl rfl)) ?_
  refine E_false (t := 29) rfl (rfl) ?_
  refine L_val rfl rfl rfl (OpP.v (P_move rfl rfl)) ?_
  refine L_val rfl rfl rfl (OpP.v (P_move rfl rfl)) ?_
  refine L_val rfl rfl rfl (OpP.v (P_eqNil0 rfl ty_ptr_27 rfl rfl)) ?_
  refine L_val rfl rfl rfl (OpP.v (P_move rfl rfl)) ?_
  refine L_val rfl rfl rfl (OpP.v (P_neq rfl rfl rfl)) ?_
  refine E_true (t := 34) rfl (rfl) ?_
  refine L_val rfl rfl rfl (OpP.v (P_neq_bool rfl ty_bool_4 rfl rfl)) ?_
  refine E_false (t := 35) rfl (rfl) ?_
  refine L_val rfl rfl rfl (OpP.v (P_pick rfl rfl rfl)) ?_
  refine L_nil ?_
  refine St.env (.cons (t := 0) rfl (.cons (t := 1) rfl (.cons (t := 2) rfl (.cons (t := 6) rfl (.cons (t := 8) rfl (.cons (t := 36) rfl .nil)))))) ?_
  refine Q_then ?_
  refine R_condF rfl ?_
  refine R_skip ?_
  refine Q_then ?_
  refine R_seq ?_
  refine R_region ?_
  refine L_val rfl rfl rfl (OpP.v (P_move rfl rfl)) ?_
  refine L_val rfl rfl rfl (OpP.v (P_eql rfl rfl rfl)) ?_
  refine E_false (t := 41) rfl (rfl) ?_
  refine L_nil ?_
  refine St.env (.cons (t := 0) rfl (.cons (t := 1) rfl (.cons (t := 2) rfl (.cons (t := 6) rfl (.cons (t := 41) rfl .nil))))) ?_
  refine Q_then ?_
  refine R_condF rfl ?_
  refine R_skip ?_
  exact R_end0 (rs2 := [SIGHT w (eAdd (enOf sg0) a) (enOf sg1) bk]) rfl rfl (.nil) (⟨rfl, rfl⟩) (by rw [show eAdd (enOf sg0) a = enOf sg0 from if_pos (.inl ha)]; exact (Weak.refl _).trans ((Weak.keep (Weak.keep (Weak.keep (Weak.keep (Weak.pick (p := [_]) (Weak.pick (p := [_]) (Weak.pick (p := [_]) (Weak.keep (Weak.nil _))))))))).trans (sight_close (rs := []) ⟨p0, p1, sg0, sg1, .slice sb0 sg0.length sc0, .slice sb1 sg1.length sc1, .slice ab0 sg0.length ac0, .slice ab1 sg1.length ac1, .slice bb bk.length bc⟩)))
theorem enter_twice_s0 {gl : Nat → Obj} (w : Nat) (p0 p1 : Nat) (sg0 sg1 : List (Int × Nat)) (S0 S1 A0 A1 B : Value) (bk : List Wrt) (hbk : BkOK bk) (hs0 : sg0.length ≤ 1599289640354) (hs1 : sg1.length ≤ 1599289640354) (hbl : bk.length ≤ 1599289640354) (a : Int) (ha : a ≠ 0) (hin : isIn sg0 a = true) : SpecR (cx gl) 44 [.pointer (some ⟨w, 0, none⟩), .int .i64 0, .int .u64 a] (fun _ _ => True) [blk w [.pointer (some ⟨p0, 0, none⟩), .pointer (some ⟨p1, 0, none⟩), S0, S1, A0, A1, B, .bool false] 59, REG p0 (sg0) (rcOf 0 bk), ownS 27 1 (S0) (sg0).length (ptrs (sg0)), ownS 23 1 (A0) (sg0).length (ints .u64 (enOf (sg0))), REG p1 (sg1) (rcOf 1 bk), ownS 27 1 (S1) (sg1).length (ptrs (sg1)), ownS 23 1 (A1) (sg1).length (ints .u64 (enOf (sg1))), ownS 64 19 (B) (bk).length (bkC (bk))] (.tuple #[]) [SIGHT w (eAdd (enOf sg0) a) (enOf sg1) bk] := by
  refine Spec.enter (C := cx gl) Tryd.func44 rfl 70 rfl rfl fun w0 h0 hsep hsub hpre => ?_
  show St (cx gl) _ [(0, .pointer (some ⟨w, 0, none⟩)), (1, .int .i64 0), (2, .int .u64 a)] _ _
  refine St.ownForm (p := [_, _]) fun sb0 sc0 hsb0_ hsc0 => ?_
  subst hsb0_
  refine St.ownForm (p := [_, _, _]) fun ab0 ac0 hab0_ hac0 => ?_
  subst hab0_
  refine St.ownForm (p := [_, _, _, _, _]) fun sb1 sc1 hsb1_ hsc1 => ?_
  subst hsb1_
  refine St.ownForm (p := [_, _, _, _, _, _]) fun ab1 ac1 hab1_ hac1 => ?_
  subst hab1_
  refine St.ownForm (p := [_, _, _, _, _, _, _]) fun bb bc hbb_ hbc => ?_
  subst hbb_
  refine St.res (rs' := [blk w [.pointer (some ⟨p0, 0, none⟩), .pointer (some ⟨p1, 0, none⟩), .slice sb0 sg0.length sc0, .slice sb1 sg1.length sc1, .slice ab0 sg0.length ac0, .slice ab1 sg1.length ac1, .slice bb bk.length bc, .bool false] 59, REG p0 (sg0) (rcOf 0 bk), ownS 27 1 (.slice sb0 sg0.length sc0) (sg0).length (ptrs (sg0)), ownS 23 1 (.slice ab0 sg0.length ac0) (sg0).length (ints .u64 (enOf (sg0))), REG p1 (sg1) (rcOf 1 bk), ownS 27 1 (.slice sb1 sg1.length sc1) (sg1).length (ptrs (sg1)), ownS 23 1 (.slice ab1 sg1.length ac1) (sg1).length (ints .u64 (enOf (sg1))), ownS 64 19 (.slice bb bk.length bc) (bk).length (bkC (bk))]) (Weak.refl _) ?_
  refine St.res (rs' := [blk w [.pointer (some ⟨p0, 0, none⟩), .pointer (some ⟨p1, 0, none⟩), .slice sb0 sg0.length sc0, .slice sb1 sg1.length sc1, .slice ab0 sg0.length ac0, .slice ab1 sg1.length ac1, .slice bb bk.length bc, .bool false] 59, REG p0 (sg0) (rcOf 0 bk), ownS 27 1 (.slice sb0 sg0.length sc0) (sg0).length (ptrs (sg0)), ownS 23 1 (.slice ab0 sg0.length ac0) (sg0).length (ints .u64 (enOf (sg0))), ownS 64 19 (.slice bb bk.length bc) (bk).length (bkC (bk)), REG p1 (sg1) (rcOf 1 bk), ownS 27 1 (.slice sb1 sg1.length sc1) (sg1).length (ptrs (sg1)), ownS 23 1 (.slice ab1 sg1.length ac1) (sg1).length (ints .u64 (enOf (sg1)))]) (Weak.keep (Weak.keep (Weak.keep (Weak.keep (Weak.pick (p := [_, _, _]) (Weak.keep (Weak.keep (Weak.keep (Weak.nil _))))))))) ?_
  refine R_seq ?_
  refine R_region ?_
  refine L_val rfl rfl rfl (OpP.v (P_move rfl rfl)) ?_
  refine L_val rfl rfl rfl (OpP.v (P_move rfl rfl)) ?_
  refine L_val rfl rfl rfl (OpP.v (P_nil rfl rfl)) ?_
  refine L_val rfl rfl rfl (OpP.v (P_fld0 rfl ty_fl_59_0 rfl)) ?_
  first | (refine L_val rfl rfl rfl (OpP.v (P_ixa0 (0) rfl ty_ar_53 rfl rfl (by first | rfl | omega) (by omega))) ?_) | (refine L_val rfl rfl rfl (OpP.v (P_ixa (0) rfl ty_ar_53 rfl rfl (by first | rfl | omega) (by omega))) ?_)
  refine L_val rfl rfl rfl (V_load rfl rfl ty_sc_25 (Rd.blk .h0 rfl)) ?_
  refine L_val rfl rfl rfl (OpP.v (P_move rfl rfl)) ?_
  refine L_op rfl (W_callR rfl rfl rfl rfl fn_ca_16 (enter_twice p0 sg0 (rcOf 0 bk) a ha hin) (Split.one (p := [_])) (fun _ _ _ _ _ _ _ => trivial) ?_)
  refine St.res (rs' := [blk w [.pointer (some ⟨p0, 0, none⟩), .pointer (some ⟨p1, 0, none⟩), .slice sb0 sg0.length sc0, .slice sb1 sg1.length sc1, .slice ab0 sg0.length ac0, .slice ab1 sg1.length ac1, .slice bb bk.length bc, .bool false] 59, REG p0 (sg0) (rcOf 0 bk), ownS 27 1 (.slice sb0 sg0.length sc0) (sg0).length (ptrs (sg0)), ownS 23 1 (.slice ab0 sg0.length ac0) (sg0).length (ints .u64 (enOf (sg0))), ownS 64 19 (.slice bb bk.length bc) (bk).length (bkC (bk)), REG p1 (sg1) (rcOf 1 bk), ownS 27 1 (.slice sb1 sg1.length sc1) (sg1).length (ptrs (sg1)), ownS 23 1 (.slice ab1 sg1.length ac1) (sg1).length (ints .u64 (enOf (sg1)))]) (Weak.p1 (Weak.refl _)) ?_
  refine L_val rfl rfl rfl (OpP.v (P_move rfl rfl)) ?_
  refine L_val rfl rfl rfl (OpP.v (P_extract rfl rfl rfl)) ?_
  refine L_val rfl rfl rfl (OpP.v (P_extract rfl rfl rfl)) ?_
  refine L_val rfl rfl rfl (OpP.v (P_assign rfl rfl)) ?_
  refine L_val rfl rfl rfl (OpP.v (P_assign rfl rfl)) ?_
  refine L_nil ?_
  refine St.env (.cons (t := 0) rfl (.cons (t := 1) rfl (.cons (t := 2) rfl (.cons (t := 6) rfl (.cons (t := 7) rfl .nil))))) ?_
  refine Q_then ?_
  refine R_seq ?_
  refine R_region ?_
  refine L_val rfl rfl rfl (OpP.v (P_assign rfl rfl)) ?_
  refine L_nil ?_
  refine Q_then ?_
  refine R_seq ?_
  refine R_seq ?_
  refine R_region ?_
  refine L_val rfl rfl rfl (OpP.v (P_move rfl rfl)) ?_
  refine L_val rfl rfl rfl (OpP.v (P_eql rfl rfl rfl)) ?_
  refine E_false (t := 21) rfl (decide_eq_false ha) ?_
  refine L_nil ?_
  refine St.env (.cons (t := 0) rfl (.cons (t := 1) rfl (.cons (t := 2) rfl (.cons (t := 6) rfl (.cons (t := 7) rfl (.cons (t := 8) rfl (.cons (t := 21) rfl .nil))))))) ?_
  refine Q_then ?_
  refine R_condF rfl ?_
  refine R_seq ?_
  refine R_region ?_
  refine L_val rfl rfl rfl (OpP.v (P_move rfl rfl)) ?_
  refine L_val rfl rfl rfl (OpP.v (P_move rfl rfl)) ?_
  refine L_val rfl rfl rfl (OpP.v (P_move rfl rfl)) ?_
  refine L_op rfl (W_callR rfl rfl rfl rfl fn_ca_60 (entered_ok0 w _ _ _ _ _ _ _ ab0 ac0 sg0 (by omega) a) (Weak.keep (Weak.pick (p := [_, _]) (Weak.keep (Weak.keep (Weak.keep (Weak.keep (Weak.keep (Weak.keep (Weak.nil _))))))))) (fun _ _ _ _ _ _ _ => trivial) ?_)
  refine St.res (rs' := [blk w [.pointer (some ⟨p0, 0, none⟩), .pointer (some ⟨p1, 0, none⟩), .slice sb0 sg0.length sc0, .slice sb1 sg1.length sc1, .slice ab0 sg0.length ac0, .slice ab1 sg1.length ac1, .slice bb bk.length bc, .bool false] 59, REG p0 (sg0) (rcOf 0 bk), ownS 27 1 (.slice sb0 sg0.length sc0) (sg0).length (ptrs (sg0)), ownS 23 1 (.slice ab0 sg0.length ac0) (sg0).length (ints .u64 (enOf (sg0))), ownS 64 19 (.slice bb bk.length bc) (bk).length (bkC (bk)), REG p1 (sg1) (rcOf 1 bk), ownS 27 1 (.slice sb1 sg1.length sc1) (sg1).length (ptrs (sg1)), ownS 23 1 (.slice ab1 sg1.length ac1) (sg1).length (ints .u64 (enOf (sg1)))]) (Weak.keep (Weak.pick (p := [_]) (Weak.pick (p := [_]) (Weak.keep (Weak.keep (Weak.keep (Weak.keep (Weak.keep (Weak.nil _))))))))) ?_
  refine E_true (t := 25) rfl (decide_eq_true ((isIn_iff _ _).1 hin)) ?_
  refine L_nil ?_
  refine St.env (.cons (t := 0) rfl (.cons (t := 1) rfl (.cons (t := 2) rfl (.cons (t := 6) rfl (.cons (t := 7) rfl (.cons (t := 8) rfl (.cons (t := 25) rfl .nil))))))) ?_
  refine Q_then ?_
  refine R_condT rfl ?_
  refine R_region ?_
  refine L_val rfl rfl rfl (OpP.v (P_assign rfl rfl)) ?_
  refine L_nil ?_
  refine St.env (.cons (t := 0) rfl (.cons (t := 1) rfl (.cons (t := 2) rfl (.cons (t := 6) rfl (.cons (t := 7) rfl (.cons (t := 8) rfl .nil)))))) ?_
  refine Q_then ?_
  refine R_seq ?_
  refine R_seq ?_
  refine R_region ?_
  refine L_val rfl rfl rfl (OpP.v (P_move rfl rfl)) ?_
  refine L_op rfl (W_callV rfl rfl rfl rfl fn_ca_17 (num_ok 30) (fun _ _ => trivial) ?_)
  refine L_val rfl rfl rfl (OpP.v (P_move rfl rfl)) ?_
  refine L_val rfl rfl rfl (OpP.v (P_neq rfl rfl rfl)) ?_
  refine E_false (t := 29) rfl (rfl) ?_
  refine L_val rfl rfl rfl (OpP.v (P_move rfl rfl)) ?_
  refine L_val rfl rfl rfl (OpP.v (P_move rfl rfl)) ?_
  refine L_val rfl rfl rfl (OpP.v (P_eqNil0 rfl ty_ptr_27 rfl rfl)) ?_
  refine L_val rfl rfl rfl (OpP.v (P_move rfl rfl)) ?_
  refine L_val rfl rfl rfl (OpP.v (P_neq rfl rfl rfl)) ?_
  refine E_true (t := 34) rfl (rfl) ?_
  refine L_val rfl rfl rfl (OpP.v (P_neq_bool rfl ty_bool_4 rfl rfl)) ?_
  refine E_false (t := 35) rfl (rfl) ?_
  refine L_val rfl rfl rfl (OpP.v (P_pick rfl rfl rfl)) ?_
  refine L_nil ?_
  refine St.env (.cons (t := 0) rfl (.cons (t := 1) rfl (.cons (t := 2) rfl (.cons (t := 6) rfl (.cons (t := 8) rfl (.cons (t := 36) rfl .nil)))))) ?_
  refine Q_then ?_
  refine R_condF rfl ?_
  refine R_skip ?_
  refine Q_then ?_
  refine R_seq ?_
  refine R_region ?_
  refine L_val rfl rfl rfl (OpP.v (P_move rfl rfl)) ?_
  refine L_val rfl rfl rfl (OpP.v (P_eql rfl rfl rfl)) ?_
  refine E_false (t := 41) rfl (rfl) ?_
  refine L_nil ?_
  refine St.env (.cons (t := 0) rfl (.cons (t := 1) rfl (.cons (t := 2) rfl (.cons (t := 6) rfl (.cons (t := 41) rfl .nil))))) ?_
  refine Q_then ?_
  refine R_condF rfl ?_
  refine R_skip ?_
  exact R_end0 (rs2 := [SIGHT w (eAdd (enOf sg0) a) (enOf sg1) bk]) rfl rfl (.nil) (⟨rfl, rfl⟩) (by rw [show eAdd (enOf sg0) a = enOf sg0 from if_pos (.inr ((isIn_iff _ _).1 hin))]; exact (Weak.refl _).trans ((Weak.keep (Weak.keep (Weak.keep (Weak.keep (Weak.pick (p := [_]) (Weak.pick (p := [_]) (Weak.pick (p := [_]) (Weak.keep (Weak.nil _))))))))).trans (sight_close (rs := []) ⟨p0, p1, sg0, sg1, .slice sb0 sg0.length sc0, .slice sb1 sg1.length sc1, .slice ab0 sg0.length ac0, .slice ab1 sg1.length ac1, .slice bb bk.length bc⟩)))
theorem enter_new_s0 {gl : Nat → Obj} (w : Nat) (p0 p1 : Nat) (sg0 sg1 : List (Int × Nat)) (S0 S1 A0 A1 B : Value) (bk : List Wrt) (hbk : BkOK bk) (hs0 : sg0.length ≤ 1599289640354) (hs1 : sg1.length ≤ 1599289640354) (hbl : bk.length ≤ 1599289640354) (a : Int) (ha : a ≠ 0) (hin : isIn sg0 a = false) : SpecR (cx gl) 44 [.pointer (some ⟨w, 0, none⟩), .int .i64 0, .int .u64 a] (fun _ _ => True) [blk w [.pointer (some ⟨p0, 0, none⟩), .pointer (some ⟨p1, 0, none⟩), S0, S1, A0, A1, B, .bool false] 59, REG p0 (sg0) (rcOf 0 bk), ownS 27 1 (S0) (sg0).length (ptrs (sg0)), ownS 23 1 (A0) (sg0).length (ints .u64 (enOf (sg0))), REG p1 (sg1) (rcOf 1 bk), ownS 27 1 (S1) (sg1).length (ptrs (sg1)), ownS 23 1 (A1) (sg1).length (ints .u64 (enOf (sg1))), ownS 64 19 (B) (bk).length (bkC (bk))] (.tuple #[]) [SIGHT w (eAdd (enOf sg0) a) (enOf sg1) bk] := by
  refine Spec.enter (C := cx gl) Tryd.func44 rfl 70 rfl rfl fun w0 h0 hsep hsub hpre => ?_
  show St (cx gl) _ [(0, .pointer (some ⟨w, 0, none⟩)), (1, .int .i64 0), (2, .int .u64 a)] _ _
  refine St.ownForm (p := [_, _]) fun sb0 sc0 hsb0_ hsc0 => ?_
  subst hsb0_
  refine St.ownForm (p := [_, _, _]) fun ab0 ac0 hab0_ hac0 => ?_
  subst hab0_
  refine St.ownForm (p := [_, _, _, _, _]) fun sb1 sc1 hsb1_ hsc1 => ?_
  subst hsb1_
  refine St.ownForm (p := [_, _, _, _, _, _]) fun ab1 ac1 hab1_ hac1 => ?_
  subst hab1_
  refine St.ownForm (p := [_, _, _, _, _, _, _]) fun bb bc hbb_ hbc => ?_
  subst hbb_
  refine St.res (rs' := [blk w [.pointer (some ⟨p0, 0, none⟩), .pointer (some ⟨p1, 0, none⟩), .slice sb0 sg0.length sc0, .slice sb1 sg1.length sc1, .slice ab0 sg0.length ac0, .slice ab1 sg1.length ac1, .slice bb bk.length bc, .bool false] 59, REG p0 (sg0) (rcOf 0 bk), ownS 27 1 (.slice sb0 sg0.length sc0) (sg0).length (ptrs (sg0)), ownS 23 1 (.slice ab0 sg0.length ac0) (sg0).length (ints .u64 (enOf (sg0))), REG p1 (sg1) (rcOf 1 bk), ownS 27 1 (.slice sb1 sg1.length sc1) (sg1).length (ptrs (sg1)), ownS 23 1 (.slice ab1 sg1.length ac1) (sg1).length (ints .u64 (enOf (sg1))), ownS 64 19 (.slice bb bk.length bc) (bk).length (bkC (bk))]) (Weak.refl _) ?_
  refine St.res (rs' := [blk w [.pointer (some ⟨p0, 0, none⟩), .pointer (some ⟨p1, 0, none⟩), .slice sb0 sg0.length sc0, .slice sb1 sg1.length sc1, .slice ab0 sg0.length ac0, .slice ab1 sg1.length ac1, .slice bb bk.length bc, .bool false] 59, REG p0 (sg0) (rcOf 0 bk), ownS 27 1 (.slice sb0 sg0.length sc0) (sg0).length (ptrs (sg0)), ownS 23 1 (.slice ab0 sg0.length ac0) (sg0).length (ints .u64 (enOf (sg0))), ownS 64 19 (.slice bb bk.length bc) (bk).length (bkC (bk)), REG p1 (sg1) (rcOf 1 bk), ownS 27 1 (.slice sb1 sg1.length sc1) (sg1).length (ptrs (sg1)), ownS 23 1 (.slice ab1 sg1.length ac1) (sg1).length (ints .u64 (enOf (sg1)))]) (Weak.keep (Weak.keep (Weak.keep (Weak.keep (Weak.pick (p := [_, _, _]) (Weak.keep (Weak.keep (Weak.keep (Weak.nil _))))))))) ?_
  refine R_seq ?_
  refine R_region ?_
  refine L_val rfl rfl rfl (OpP.v (P_move rfl rfl)) ?_
  refine L_val rfl rfl rfl (OpP.v (P_move rfl rfl)) ?_
  refine L_val rfl rfl rfl (OpP.v (P_nil rfl rfl)) ?_
  refine L_val rfl rfl rfl (OpP.v (P_fld0 rfl ty_fl_59_0 rfl)) ?_
  first | (refine L_val rfl rfl rfl (OpP.v (P_ixa0 (0) rfl ty_ar_53 rfl rfl (by first | rfl | omega) (by omega))) ?_) | (refine L_val rfl rfl rfl (OpP.v (P_ixa (0) rfl ty_ar_53 rfl rfl (by first | rfl | omega) (by omega))) ?_)
  refine L_val rfl rfl rfl (V_load rfl rfl ty_sc_25 (Rd.blk .h0 rfl)) ?_
  refine L_val rfl rfl rfl (OpP.v (P_move rfl rfl)) ?_
  refine L_op rfl (W_call rfl rfl rfl rfl fn_ca_16 (enter_new p0 sg0 (rcOf 0 bk) a ha hin) (Split.one (p := [_])) (fun _ _ _ _ _ _ _ => trivial) fun v17 rs1 ⟨s, e1, e2⟩ => ?_)
  subst e1; subst e2
  refine St.res (rs' := [blk w [.pointer (some ⟨p0, 0, none⟩), .pointer (some ⟨p1, 0, none⟩), .slice sb0 sg0.length sc0, .slice sb1 sg1.length sc1, .slice ab0 sg0.length ac0, .slice ab1 sg1.length ac1, .slice bb bk.length bc, .bool false] 59, REG p0 (sg0 ++ [(a, s)]) (rcOf 0 bk), ownS 27 1 (.slice sb0 sg0.length sc0) (sg0).length (ptrs (sg0)), ownS 23 1 (.slice ab0 sg0.length ac0) (sg0).length (ints .u64 (enOf (sg0))), ownS 64 19 (.slice bb bk.length bc) (bk).length (bkC (bk)), REG p1 (sg1) (rcOf 1 bk), ownS 27 1 (.slice sb1 sg1.length sc1) (sg1).length (ptrs (sg1)), ownS 23 1 (.slice ab1 sg1.length ac1) (sg1).length (ints .u64 (enOf (sg1)))]) (Weak.p1 (Weak.refl _)) ?_
  refine L_val rfl rfl rfl (OpP.v (P_move rfl rfl)) ?_
  refine L_val rfl rfl rfl (OpP.v (P_extract rfl rfl rfl)) ?_
  refine L_val rfl rfl rfl (OpP.v (P_extract rfl rfl rfl)) ?_
  refine L_val rfl rfl rfl (OpP.v (P_assign rfl rfl)) ?_
  refine L_val rfl rfl rfl (OpP.v (P_assign rfl rfl)) ?_
  refine L_nil ?_
  refine St.env (.cons (t := 0) rfl (.cons (t := 1) rfl (.cons (t := 2) rfl (.cons (t := 6) rfl (.cons (t := 7) rfl .nil))))) ?_
  refine Q_then ?_
  refine R_seq ?_
  refine R_region ?_
  refine L_val rfl rfl rfl (OpP.v (P_assign rfl rfl)) ?_
  refine L_nil ?_
  refine Q_then ?_
  refine R_seq ?_
  refine R_seq ?_
  refine R_region ?_
  refine L_val rfl rfl rfl (OpP.v (P_move rfl rfl)) ?_
  refine L_val rfl rfl rfl (OpP.v (P_eql rfl rfl rfl)) ?_
  refine E_false (t := 21) rfl (decide_eq_false ha) ?_
  refine L_nil ?_
  refine St.env (.cons (t := 0) rfl (.cons (t := 1) rfl (.cons (t := 2) rfl (.cons (t := 6) rfl (.cons (t := 7) rfl (.cons (t := 8) rfl (.cons (t := 21) rfl .nil))))))) ?_
  refine Q_then ?_
  refine R_condF rfl ?_
  refine R_seq ?_
  refine R_region ?_
  refine L_val rfl rfl rfl (OpP.v (P_move rfl rfl)) ?_
  refine L_val rfl rfl rfl (OpP.v (P_move rfl rfl)) ?_
  refine L_val rfl rfl rfl (OpP.v (P_move rfl rfl)) ?_
  refine L_op rfl (W_callR rfl rfl rfl rfl fn_ca_60 (entered_ok0 w _ _ _ _ _ _ _ ab0 ac0 sg0 (by omega) a) (Weak.keep (Weak.pick (p := [_, _]) (Weak.keep (Weak.keep (Weak.keep (Weak.keep (Weak.keep (Weak.keep (Weak.nil _))))))))) (fun _ _ _ _ _ _ _ => trivial) ?_)
  refine St.res (rs' := [blk w [.pointer (some ⟨p0, 0, none⟩), .pointer (some ⟨p1, 0, none⟩), .slice sb0 sg0.length sc0, .slice sb1 sg1.length sc1, .slice ab0 sg0.length ac0, .slice ab1 sg1.length ac1, .slice bb bk.length bc, .bool false] 59, REG p0 (sg0 ++ [(a, s)]) (rcOf 0 bk), ownS 27 1 (.slice sb0 sg0.length sc0) (sg0).length (ptrs (sg0)), ownS 23 1 (.slice ab0 sg0.length ac0) (sg0).length (ints .u64 (enOf (sg0))), ownS 64 19 (.slice bb bk.length bc) (bk).length (bkC (bk)), REG p1 (sg1) (rcOf 1 bk), ownS 27 1 (.slice sb1 sg1.length sc1) (sg1).length (ptrs (sg1)), ownS 23 1 (.slice ab1 sg1.length ac1) (sg1).length (ints .u64 (enOf (sg1)))]) (Weak.keep (Weak.pick (p := [_]) (Weak.pick (p := [_]) (Weak.keep (Weak.keep (Weak.keep (Weak.keep (Weak.keep (Weak.nil _))))))))) ?_
  refine E_false (t := 25) rfl (decide_eq_false (fun h => by rw [(isIn_iff _ _).2 h] at hin; cases hin)) ?_
  refine L_nil ?_
  refine St.env (.cons (t := 0) rfl (.cons (t := 1) rfl (.cons (t := 2) rfl (.cons (t := 6) rfl (.cons (t := 7) rfl (.cons (t := 8) rfl (.cons (t := 25) rfl .nil))))))) ?_
  refine Q_then ?_
  refine R_condF rfl ?_
  refine R_skip ?_
  refine Q_then ?_
  refine R_seq ?_
  refine R_seq ?_
  refine R_region ?_
  refine L_val rfl rfl rfl (OpP.v (P_move rfl rfl)) ?_
  refine L_op rfl (W_callV rfl rfl rfl rfl fn_ca_17 (num_ok 0) (fun _ _ => trivial) ?_)
  refine L_val rfl rfl rfl (OpP.v (P_move rfl rfl)) ?_
  refine L_val rfl rfl rfl (OpP.v (P_neq rfl rfl rfl)) ?_
  refine E_false (t := 29) rfl (rfl) ?_
  refine L_val rfl rfl rfl (OpP.v (P_move rfl rfl)) ?_
  refine L_val rfl rfl rfl (OpP.v (P_move rfl rfl)) ?_
  refine L_val rfl rfl rfl (OpP.v (P_eqNil rfl ty_ptr_27 rfl rfl)) ?_
  refine L_val rfl rfl rfl (OpP.v (P_move rfl rfl)) ?_
  refine L_val rfl rfl rfl (OpP.v (P_neq rfl rfl rfl)) ?_
  refine E_false (t := 34) rfl (rfl) ?_
  refine L_val rfl rfl rfl (OpP.v (P_neq_bool rfl ty_bool_4 rfl rfl)) ?_
  refine E_false (t := 35) rfl (rfl) ?_
  refine L_val rfl rfl rfl (OpP.v (P_pick rfl rfl rfl)) ?_
  refine L_nil ?_
  refine St.env (.cons (t := 0) rfl (.cons (t := 1) rfl (.cons (t := 2) rfl (.cons (t := 6) rfl (.cons (t := 8) rfl (.cons (t := 36) rfl .nil)))))) ?_
  refine Q_then ?_
  refine R_condF rfl ?_
  refine R_skip ?_
  refine Q_then ?_
  refine R_seq ?_
  refine R_region ?_
  refine L_val rfl rfl rfl (OpP.v (P_move rfl rfl)) ?_
  refine L_val rfl rfl rfl (OpP.v (P_eql rfl rfl rfl)) ?_
  refine E_true (t := 41) rfl (rfl) ?_
  refine L_nil ?_
  refine St.env (.cons (t := 0) rfl (.cons (t := 1) rfl (.cons (t := 2) rfl (.cons (t := 6) rfl (.cons (t := 41) rfl .nil))))) ?_
  refine Q_then ?_
  refine R_condT rfl ?_
  refine R_seq ?_
  refine R_open [(0, 0), (1, 0), (2, 0), (3, 0), (4, 0), (5, 0), (6, 0), (7, 1), (8, 0), (11, 0), (12, 0), (9, 2), (10, 3), (13, 0), (14, 3)] mixed (by kernel_rfl) (QOk.then QOk.body) ?_
  refine O_pure rfl rfl rfl rfl (P_move rfl rfl) ?_
  refine O_pure rfl rfl rfl rfl (P_move rfl rfl) ?_
  refine O_pure rfl rfl rfl rfl (P_move rfl rfl) ?_
  refine O_pure rfl rfl rfl rfl (P_move rfl rfl) ?_
  refine O_pure rfl rfl rfl rfl (P_nil rfl rfl) ?_
  refine O_pure rfl rfl rfl rfl (P_fld0 rfl ty_fl_59_1 rfl) ?_
  first | (refine O_pure rfl rfl rfl rfl (P_ixa0 (0) rfl ty_ar_55 rfl rfl (by first | rfl | omega) (by omega)) ?_) | (refine O_pure rfl rfl rfl rfl (P_ixa (0) rfl ty_ar_55 rfl rfl (by first | rfl | omega) (by omega)) ?_)
  refine O_val rfl rfl rfl rfl (V_load rfl rfl ty_sc_54 (Rd.blk .h0 rfl)) ?_
  refine O_pure rfl rfl rfl rfl (P_move rfl rfl) ?_
  refine O_pure rfl rfl rfl rfl (P_nil rfl rfl) ?_
  refine O_pure rfl rfl rfl rfl (P_fld0 rfl ty_fl_59_1 rfl) ?_
  refine O_keep rfl rfl (W_lit (z := .nilIface) ([.pointer (some ⟨s, 0, none⟩)]) rfl rfl rfl ty_sl_54 ty_lz_54 rfl rfl rfl (by decide) (by decide) (by simp [Value.cells]) (rfl) fun b51 => (K_keep (Weak.drop (Weak.refl _)) ?_))
  refine O_new rfl rfl (W_append (p := [_, _, _]) rfl rfl rfl ty_sl_54 ty_ap_54 ty_src_54 rfl rfl rfl (Src.slice (sz := 1) (news := [.pointer (some ⟨s, 0, none⟩)]) (Rds.blk .h0) rfl (by intro v hv; simp only [List.mem_singleton] at hv; subst hv; rfl)) (by omega) (by simp only [maxLen]; omega) fun v52 => (K_new ?_))
  refine St.ownForm (p := [_, _, _]) fun nb nc hnb_ hnc => ?_
  subst hnb_
  first | (refine O_pure rfl rfl rfl rfl (P_ixa0 (0) rfl ty_ar_55 rfl rfl (by first | rfl | omega) (by omega)) ?_) | (refine O_pure rfl rfl rfl rfl (P_ixa (0) rfl ty_ar_55 rfl rfl (by first | rfl | omega) (by omega)) ?_)
  refine O_new rfl rfl (W_store rfl rfl rfl rfl ty_sc_54 rfl .h1 (by first | decide | (simp [ints]; done) | (simp [ints]; omega)) (K_new ?_))
  refine O_nil ?_
  refine St.env (.cons (t := 0) rfl (.cons (t := 1) rfl (.cons (t := 2) rfl .nil))) ?_
  refine Q_then ?_
  refine St.res (rs' := [blk w [.pointer (some ⟨p0, 0, none⟩), .pointer (some ⟨p1, 0, none⟩), .slice nb (sg0.length + 1) nc, .slice sb1 sg1.length sc1, .slice ab0 sg0.length ac0, .slice ab1 sg1.length ac1, .slice bb bk.length bc, .bool false] 59, REG p0 (sg0 ++ [(a, s)]) (rcOf 0 bk), ownS 27 1 (.slice nb (sg0.length + 1) nc) (sg0 ++ [(a, s)]).length (ptrs (sg0 ++ [(a, s)])), ownS 23 1 (.slice ab0 sg0.length ac0) (sg0).length (ints .u64 (enOf (sg0))), ownS 64 19 (.slice bb bk.length bc) (bk).length (bkC (bk)), REG p1 (sg1) (rcOf 1 bk), ownS 27 1 (.slice sb1 sg1.length sc1) (sg1).length (ptrs (sg1)), ownS 23 1 (.slice ab1 sg1.length ac1) (sg1).length (ints .u64 (enOf (sg1)))]) (by have e : (sg0 ++ [(a, s)]).length = sg0.length + 1 := (by simp); rw [ptrs_snoc sg0 a s, e]; exact Weak.drop (Weak.refl _)) ?_
  refine R_open [(0, 0), (1, 0), (2, 0), (3, 0), (4, 0), (5, 0), (6, 0), (7, 1), (8, 0), (11, 0), (12, 0), (9, 2), (10, 3), (13, 0), (14, 3)] mixed (by kernel_rfl) QOk.body ?_
  refine O_pure rfl rfl rfl rfl (P_move rfl rfl) ?_
  refine O_pure rfl rfl rfl rfl (P_move rfl rfl) ?_
  refine O_pure rfl rfl rfl rfl (P_move rfl rfl) ?_
  refine O_pure rfl rfl rfl rfl (P_move rfl rfl) ?_
  refine O_pure rfl rfl rfl rfl (P_nil rfl rfl) ?_
  refine O_pure rfl rfl rfl rfl (P_fld0 rfl ty_fl_59_2 rfl) ?_
  first | (refine O_pure rfl rfl rfl rfl (P_ixa0 (0) rfl ty_ar_56 rfl rfl (by first | rfl | omega) (by omega)) ?_) | (refine O_pure rfl rfl rfl rfl (P_ixa (0) rfl ty_ar_56 rfl rfl (by first | rfl | omega) (by omega)) ?_)
  refine O_val rfl rfl rfl rfl (V_load rfl rfl ty_sc_52 (Rd.blk .h0 rfl)) ?_
  refine O_pure rfl rfl rfl rfl (P_move rfl rfl) ?_
  refine O_pure rfl rfl rfl rfl (P_nil rfl rfl) ?_
  refine O_pure rfl rfl rfl rfl (P_fld0 rfl ty_fl_59_2 rfl) ?_
  refine O_keep rfl rfl (W_lit (z := .nilIface) (ints .u64 [a]) rfl rfl rfl ty_sl_52 ty_lz_52 rfl rfl rfl (by decide) (by decide) (by simp [Value.cells]) (rfl) fun b65 => (K_keep (Weak.drop (Weak.refl _)) ?_))
  refine O_new rfl rfl (W_append (p := [_, _, _, _]) rfl rfl rfl ty_sl_52 ty_ap_52 ty_src_52 rfl rfl rfl (Src.slice (sz := 1) (news := ints .u64 [a]) (Rds.blk .h0) rfl ints_one) (by omega) (by simp only [maxLen]; omega) fun v66 => (K_new ?_))
  refine St.ownForm (p := [_, _, _, _]) fun mb mc hmb_ hmc => ?_
  subst hmb_
  first | (refine O_pure rfl rfl rfl rfl (P_ixa0 (0) rfl ty_ar_56 rfl rfl (by first | rfl | omega) (by omega)) ?_) | (refine O_pure rfl rfl rfl rfl (P_ixa (0) rfl ty_ar_56 rfl rfl (by first | rfl | omega) (by omega)) ?_)
  refine O_new rfl rfl (W_store rfl rfl rfl rfl ty_sc_52 rfl .h1 (by first | decide | (simp [ints]; done) | (simp [ints]; omega)) (K_new ?_))
  refine O_nil ?_
  refine St.env (.nil) ?_
  refine St.res (rs' := [blk w [.pointer (some ⟨p0, 0, none⟩), .pointer (some ⟨p1, 0, none⟩), .slice nb (sg0.length + 1) nc, .slice sb1 sg1.length sc1, .slice mb (sg0.length + 1) mc, .slice ab1 sg1.length ac1, .slice bb bk.length bc, .bool false] 59, REG p0 (sg0 ++ [(a, s)]) (rcOf 0 bk), ownS 27 1 (.slice nb (sg0.length + 1) nc) (sg0 ++ [(a, s)]).length (ptrs (sg0 ++ [(a, s)])), ownS 23 1 (.slice mb (sg0.length + 1) mc) (sg0 ++ [(a, s)]).length (ints .u64 (enOf (sg0 ++ [(a, s)]))), ownS 64 19 (.slice bb bk.length bc) (bk).length (bkC (bk)), REG p1 (sg1) (rcOf 1 bk), ownS 27 1 (.slice sb1 sg1.length sc1) (sg1).length (ptrs (sg1)), ownS 23 1 (.slice ab1 sg1.length ac1) (sg1).length (ints .u64 (enOf (sg1)))]) (by have e : (sg0 ++ [(a, s)]).length = sg0.length + 1 := (by simp); rw [ints_append, ← enOf_snoc sg0 a s]; rw [e]; exact Weak.drop (Weak.refl _)) ?_
  exact R_end0 (rs2 := [SIGHT w (eAdd (enOf sg0) a) (enOf sg1) bk]) rfl rfl (.nil) (⟨rfl, rfl⟩) (by rw [show eAdd (enOf sg0) a = enOf (sg0 ++ [(a, s)]) by rw [enOf_snoc]; exact if_neg (fun h => h.elim ha fun h => by rw [(isIn_iff _ _).2 h] at hin; cases hin)]; exact (Weak.refl _).trans ((Weak.keep (Weak.keep (Weak.keep (Weak.keep (Weak.pick (p := [_]) (Weak.pick (p := [_]) (Weak.pick (p := [_]) (Weak.keep (Weak.nil _))))))))).trans (sight_close (rs := []) ⟨p0, p1, sg0 ++ [(a, s)], sg1, .slice nb (sg0.length + 1) nc, .slice sb1 sg1.length sc1, .slice mb (sg0.length + 1) mc, .slice ab1 sg1.length ac1, .slice bb bk.length bc⟩)))
theorem sEnter_ok0 {gl : Nat → Obj} (w : Nat) (e0 e1 : List Int) (bk : List Wrt) (hbk : BkOK bk) (h0 : e0.length ≤ 1599289640354) (h1 : e1.length ≤ 1599289640354) (hbl : bk.length ≤ 1599289640354) (a : Int) : SpecR (cx gl) 44 [.pointer (some ⟨w, 0, none⟩), .int .i64 0, .int .u64 a] (fun _ _ => True) [SIGHT w e0 e1 bk] (.tuple #[]) [SIGHT w (eAdd e0 a) e1 bk] := Spec.openEx fun ⟨p0, p1, sg0, sg1, S0, S1, A0, A1, B⟩ hok => by
  obtain ⟨hx0, hx1⟩ := hok
  dsimp only at hx0 hx1
  subst hx0; subst hx1
  rw [enOf_length] at h0 h1
  by_cases ha : a = 0
  · exact enter_zero_s0 w p0 p1 sg0 sg1 S0 S1 A0 A1 B bk hbk h0 h1 hbl a ha
  · cases hin : isIn sg0 a with
    | true => exact enter_twice_s0 w p0 p1 sg0 sg1 S0 S1 A0 A1 B bk hbk h0 h1 hbl a ha hin
    | false => exact enter_new_s0 w p0 p1 sg0 sg1 S0 S1 A0 A1 B bk hbk h0 h1 hbl a ha hin
theorem sign_none_s0 {gl : Nat → Obj} (hG : Globs gl) (w : Nat) (p0 p1 : Nat) (sg0 sg1 : List (Int × Nat)) (S0 S1 A0 A1 B : Value) (bk : List Wrt) (hbk : BkOK bk) (hs0 : sg0.length ≤ 1599289640354) (hs1 : sg1.length ≤ 1599289640354) (hbl : bk.length ≤ 1599289640354) (at_ : Int) (base : Option Addr) (c : Nat) (m : List Int) (hmb : IsB m) (hml : m.length ≤ 140737488351300) (hz : sg0.length = 0) : SpecR (cx gl) 45 [.pointer (some ⟨w, 0, none⟩), .int .i64 0, .int .i64 at_, .slice base m.length c] (fun w h => Seen w h base (ints .u8 m)) [blk w [.pointer (some ⟨p0, 0, none⟩), .pointer (some ⟨p1, 0, none⟩), S0, S1, A0, A1, B, .bool false] 59, REG p0 (sg0) (rcOf 0 bk), ownS 27 1 (S0) (sg0).length (ptrs (sg0)), ownS 23 1 (A0) (sg0).length (ints .u64 (enOf (sg0))), REG p1 (sg1) (rcOf 1 bk), ownS 27 1 (S1) (sg1).length (ptrs (sg1)), ownS 23 1 (A1) (sg1).length (ints .u64 (enOf (sg1))), ownS 64 19 (B) (bk).length (bkC (bk))] (.tuple #[]) [SIGHT w (enOf sg0) (enOf sg1) (signB 0 (enOf sg0) at_ m bk)] := by
  refine Spec.enter (C := cx gl) Tryd.func45 rfl 109 rfl rfl fun w0 h0 hsep hsub hpre => ?_
  show St (cx gl) _ [(0, .pointer (some ⟨w, 0, none⟩)), (1, .int .i64 0), (2, .int .i64 at_), (3, .slice base m.length c)] _ _
  refine St.ownForm (p := [_, _]) fun sb0 sc0 hsb0_ hsc0 => ?_
  subst hsb0_
  refine St.ownForm (p := [_, _, _]) fun ab0 ac0 hab0_ hac0 => ?_
  subst hab0_
  refine St.ownForm (p := [_, _, _, _, _]) fun sb1 sc1 hsb1_ hsc1 => ?_
  subst hsb1_
  refine St.ownForm (p := [_, _, _, _, _, _]) fun ab1 ac1 hab1_ hac1 => ?_
  subst hab1_
  refine St.ownForm (p := [_, _, _, _, _, _, _]) fun bb bc hbb_ hbc => ?_
  subst hbb_
  refine St.res (rs' := [blk w [.pointer (some ⟨p0, 0, none⟩), .pointer (some ⟨p1, 0, none⟩), .slice sb0 sg0.length sc0, .slice sb1 sg1.length sc1, .slice ab0 sg0.length ac0, .slice ab1 sg1.length ac1, .slice bb bk.length bc, .bool false] 59, REG p0 (sg0) (rcOf 0 bk), ownS 27 1 (.slice sb0 sg0.length sc0) (sg0).length (ptrs (sg0)), ownS 23 1 (.slice ab0 sg0.length ac0) (sg0).length (ints .u64 (enOf (sg0))), REG p1 (sg1) (rcOf 1 bk), ownS 27 1 (.slice sb1 sg1.length sc1) (sg1).length (ptrs (sg1)), ownS 23 1 (.slice ab1 sg1.length ac1) (sg1).length (ints .u64 (enOf (sg1))), ownS 64 19 (.slice bb bk.length bc) (bk).length (bkC (bk))]) (Weak.refl _) ?_
  refine St.res (rs' := [blk w [.pointer (some ⟨p0, 0, none⟩), .pointer (some ⟨p1, 0, none⟩), .slice sb0 sg0.length sc0, .slice sb1 sg1.length sc1, .slice ab0 sg0.length ac0, .slice ab1 sg1.length ac1, .slice bb bk.length bc, .bool false] 59, REG p0 (sg0) (rcOf 0 bk), ownS 27 1 (.slice sb0 sg0.length sc0) (sg0).length (ptrs (sg0)), ownS 23 1 (.slice ab0 sg0.length ac0) (sg0).length (ints .u64 (enOf (sg0))), ownS 64 19 (.slice bb bk.length bc) (bk).length (bkC (bk)), REG p1 (sg1) (rcOf 1 bk), ownS 27 1 (.slice sb1 sg1.length sc1) (sg1).length (ptrs (sg1)), ownS 23 1 (.slice ab1 sg1.length ac1) (sg1).length (ints .u64 (enOf (sg1)))]) (Weak.keep (Weak.keep (Weak.keep (Weak.keep (Weak.pick (p := [_, _, _]) (Weak.keep (Weak.keep (Weak.keep (Weak.nil _))))))))) ?_
  refine R_seq ?_
  refine R_seq ?_
  refine R_region ?_
  refine L_val rfl rfl rfl (OpP.v (P_move rfl rfl)) ?_
  refine L_val rfl rfl rfl (OpP.v (P_move rfl rfl)) ?_
  refine L_val rfl rfl rfl (OpP.v (P_nil rfl rfl)) ?_
  refine L_val rfl rfl rfl (OpP.v (P_fld0 rfl ty_fl_59_1 rfl)) ?_
  first | (refine L_val rfl rfl rfl (OpP.v (P_ixa0 (0) rfl ty_ar_55 rfl rfl (by first | rfl | omega) (by omega))) ?_) | (refine L_val rfl rfl rfl (OpP.v (P_ixa (0) rfl ty_ar_55 rfl rfl (by first | rfl | omega) (by omega))) ?_)
  refine L_val rfl rfl rfl (V_load rfl rfl ty_sc_54 (Rd.blk .h0 rfl)) ?_
  refine L_val rfl rfl rfl (OpP.v (P_len rfl ty_sl_54 rfl)) ?_
  refine L_val rfl rfl rfl (OpP.v (P_eql rfl rfl rfl)) ?_
  refine E_true (t := 19) rfl (decide_eq_true (by omega)) ?_
  refine L_val rfl rfl rfl (OpP.v (P_move rfl rfl)) ?_
  refine L_no rfl rfl rfl ?_
  refine L_no rfl rfl rfl ?_
  refine L_no rfl rfl rfl ?_
  refine L_val rfl rfl rfl (OpP.v (P_pick rfl rfl rfl)) ?_
  refine L_nil ?_
  refine St.env (.cons (t := 0) rfl (.cons (t := 1) rfl (.cons (t := 2) rfl (.cons (t := 3) rfl (.cons (t := 24) rfl .nil))))) ?_
  refine Q_then ?_
  refine R_condT rfl ?_
  refine R_ret ?_
  refine Q_then_ret ?_
  exact R_end (rs2 := [SIGHT w (enOf sg0) (enOf sg1) (signB 0 (enOf sg0) at_ m bk)]) rfl rfl (.nil) (⟨rfl, rfl⟩) (by rw [show signB 0 (enOf sg0) at_ m bk = bk from if_pos (.inl (by rw [enOf_length]; exact hz))]; exact (Weak.refl _).trans ((Weak.keep (Weak.keep (Weak.keep (Weak.keep (Weak.pick (p := [_]) (Weak.pick (p := [_]) (Weak.pick (p := [_]) (Weak.keep (Weak.nil _))))))))).trans (sight_close (rs := []) ⟨p0, p1, sg0, sg1, .slice sb0 sg0.length sc0, .slice sb1 sg1.length sc1, .slice ab0 sg0.length ac0, .slice ab1 sg1.length ac1, .slice bb bk.length bc⟩)))
theorem sign_big_s0 {gl : Nat → Obj} (hG : Globs gl) (w : Nat) (p0 p1 : Nat) (sg0 sg1 : List (Int × Nat)) (S0 S1 A0 A1 B : Value) (bk : List Wrt) (hbk : BkOK bk) (hs0 : sg0.length ≤ 1599289640354) (hs1 : sg1.length ≤ 1599289640354) (hbl : bk.length ≤ 1599289640354) (at_ : Int) (base : Option Addr) (c : Nat) (m : List Int) (hmb : IsB m) (hml : m.length ≤ 140737488351300) (hz : 0 < sg0.length) (hbg : 1048576 < m.length) : SpecR (cx gl) 45 [.pointer (some ⟨w, 0, none⟩), .int .i64 0, .int .i64 at_, .slice base m.length c] (fun w h => Seen w h base (ints .u8 m)) [blk w [.pointer (some ⟨p0, 0, none⟩), .pointer (some ⟨p1, 0, none⟩), S0, S1, A0, A1, B, .bool false] 59, REG p0 (sg0) (rcOf 0 bk), ownS 27 1 (S0) (sg0).length (ptrs (sg0)), ownS 23 1 (A0) (sg0).length (ints .u64 (enOf (sg0))), REG p1 (sg1) (rcOf 1 bk), ownS 27 1 (S1) (sg1).length (ptrs (sg1)), ownS 23 1 (A1) (sg1).length (ints .u64 (enOf (sg1))), ownS 64 19 (B) (bk).length (bkC (bk))] (.tuple #[]) [SIGHT w (enOf sg0) (enOf sg1) (signB 0 (enOf sg0) at_ m bk)] := by
  refine Spec.enter (C := cx gl) Tryd.func45 rfl 109 rfl rfl fun w0 h0 hsep hsub hpre => ?_
  show St (cx gl) _ [(0, .pointer (some ⟨w, 0, none⟩)), (1, .int .i64 0), (2, .int .i64 at_), (3, .slice base m.length c)] _ _
  refine St.ownForm (p := [_, _]) fun sb0 sc0 hsb0_ hsc0 => ?_
  subst hsb0_
  refine St.ownForm (p := [_, _, _]) fun ab0 ac0 hab0_ hac0 => ?_
  subst hab0_
  refine St.ownForm (p := [_, _, _, _, _]) fun sb1 sc1 hsb1_ hsc1 => ?_
  subst hsb1_
  refine St.ownForm (p := [_, _, _, _, _, _]) fun ab1 ac1 hab1_ hac1 => ?_
  subst hab1_
  refine St.ownForm (p := [_, _, _, _, _, _, _]) fun bb bc hbb_ hbc => ?_
  subst hbb_
  refine St.res (rs' := [blk w [.pointer (some ⟨p0, 0, none⟩), .pointer (some ⟨p1, 0, none⟩), .slice sb0 sg0.length sc0, .slice sb1 sg1.length sc1, .slice ab0 sg0.length ac0, .slice ab1 sg1.length ac1, .slice bb bk.length bc, .bool false] 59, REG p0 (sg0) (rcOf 0 bk), ownS 27 1 (.slice sb0 sg0.length sc0) (sg0).length (ptrs (sg0)), ownS 23 1 (.slice ab0 sg0.length ac0) (sg0).length (ints .u64 (enOf (sg0))), REG p1 (sg1) (rcOf 1 bk), ownS 27 1 (.slice sb1 sg1.length sc1) (sg1).length (ptrs (sg1)), ownS 23 1 (.slice ab1 sg1.length ac1) (sg1).length (ints .u64 (enOf (sg1))), ownS 64 19 (.slice bb bk.length bc) (bk).length (bkC (bk))]) (Weak.refl _) ?_
  refine St.res (rs' := [blk w [.pointer (some ⟨p0, 0, none⟩), .pointer (some ⟨p1, 0, none⟩), .slice sb0 sg0.length sc0, .slice sb1 sg1.length sc1, .slice ab0 sg0.length ac0, .slice ab1 sg1.length ac1, .slice bb bk.length bc, .bool false] 59, REG p0 (sg0) (rcOf 0 bk), ownS 27 1 (.slice sb0 sg0.length sc0) (sg0).length (ptrs (sg0)), ownS 23 1 (.slice ab0 sg0.length ac0) (sg0).length (ints .u64 (enOf (sg0))), ownS 64 19 (.slice bb bk.length bc) (bk).length (bkC (bk)), REG p1 (sg1) (rcOf 1 bk), ownS 27 1 (.slice sb1 sg1.length sc1) (sg1).length (ptrs (sg1)), ownS 23 1 (.slice ab1 sg1.length ac1) (sg1).length (ints .u64 (enOf (sg1)))]) (Weak.keep (Weak.keep (Weak.keep (Weak.keep (Weak.pick (p := [_, _, _]) (Weak.keep (Weak.keep (Weak.keep (Weak.nil _))))))))) ?_
  refine R_seq ?_
  refine R_seq ?_
  refine R_region ?_
  refine L_val rfl rfl rfl (OpP.v (P_move rfl rfl)) ?_
  refine L_val rfl rfl rfl (OpP.v (P_move rfl rfl)) ?_
  refine L_val rfl rfl rfl (OpP.v (P_nil rfl rfl)) ?_
  refine L_val rfl rfl rfl (OpP.v (P_fld0 rfl ty_fl_59_1 rfl)) ?_
  first | (refine L_val rfl rfl rfl (OpP.v (P_ixa0 (0) rfl ty_ar_55 rfl rfl (by first | rfl | omega) (by omega))) ?_) | (refine L_val rfl rfl rfl (OpP.v (P_ixa (0) rfl ty_ar_55 rfl rfl (by first | rfl | omega) (by omega))) ?_)
  refine L_val rfl rfl rfl (V_load rfl rfl ty_sc_54 (Rd.blk .h0 rfl)) ?_
  refine L_val rfl rfl rfl (OpP.v (P_len rfl ty_sl_54 rfl)) ?_
  refine L_val rfl rfl rfl (OpP.v (P_eql rfl rfl rfl)) ?_
  refine E_false (t := 19) rfl (decide_eq_false (by omega)) ?_
  refine L_val rfl rfl rfl (OpP.v (P_move rfl rfl)) ?_
  refine L_val rfl rfl rfl (OpP.v (P_move rfl rfl)) ?_
  refine L_val rfl rfl rfl (OpP.v (P_len rfl ty_sl_24 rfl)) ?_
  refine L_val rfl rfl rfl (OpP.v (P_gtr rfl rfl rfl)) ?_
  refine E_true (t := 23) rfl (decide_eq_true (by omega)) ?_
  refine L_val rfl rfl rfl (OpP.v (P_pick rfl rfl rfl)) ?_
  refine L_nil ?_
  refine St.env (.cons (t := 0) rfl (.cons (t := 1) rfl (.cons (t := 2) rfl (.cons (t := 3) rfl (.cons (t := 24) rfl .nil))))) ?_
  refine Q_then ?_
  refine R_condT rfl ?_
  refine R_ret ?_
  refine Q_then_ret ?_
  exact R_end (rs2 := [SIGHT w (enOf sg0) (enOf sg1) (signB 0 (enOf sg0) at_ m bk)]) rfl rfl (.nil) (⟨rfl, rfl⟩) (by rw [show signB 0 (enOf sg0) at_ m bk = bk from if_pos (.inr hbg)]; exact (Weak.refl _).trans ((Weak.keep (Weak.keep (Weak.keep (Weak.keep (Weak.pick (p := [_]) (Weak.pick (p := [_]) (Weak.pick (p := [_]) (Weak.keep (Weak.nil _))))))))).trans (sight_close (rs := []) ⟨p0, p1, sg0, sg1, .slice sb0 sg0.length sc0, .slice sb1 sg1.length sc1, .slice ab0 sg0.length ac0, .slice ab1 sg1.length ac1, .slice bb bk.length bc⟩)))
theorem sign_old_s0 {gl : Nat → Obj} (hG : Globs gl) (w : Nat) (p0 p1 : Nat) (sg0 sg1 : List (Int × Nat)) (S0 S1 A0 A1 B : Value) (bk : List Wrt) (hbk : BkOK bk) (hs0 : sg0.length ≤ 1599289640354) (hs1 : sg1.length ≤ 1599289640354) (hbl : bk.length ≤ 1599289640354) (at_ : Int) (base : Option Addr) (c : Nat) (m : List Int) (hmb : IsB m) (hml : m.length ≤ 140737488351300) (hz : 0 < sg0.length) (hsm : m.length ≤ 1048576) (hin : ∀ ii a1 s, aroundI at_ (sg0.length : Int) = (ii : Nat) → sg0[ii]? = some (a1, s) → (0, a1, m) ∈ bk) : SpecR (cx gl) 45 [.pointer (some ⟨w, 0, none⟩), .int .i64 0, .int .i64 at_, .slice base m.length c] (fun w h => Seen w h base (ints .u8 m)) [blk w [.pointer (some ⟨p0, 0, none⟩), .pointer (some ⟨p1, 0, none⟩), S0, S1, A0, A1, B, .bool false] 59, REG p0 (sg0) (rcOf 0 bk), ownS 27 1 (S0) (sg0).length (ptrs (sg0)), ownS 23 1 (A0) (sg0).length (ints .u64 (enOf (sg0))), REG p1 (sg1) (rcOf 1 bk), ownS 27 1 (S1) (sg1).length (ptrs (sg1)), ownS 23 1 (A1) (sg1).length (ints .u64 (enOf (sg1))), ownS 64 19 (B) (bk).length (bkC (bk))] (.tuple #[]) [SIGHT w (enOf sg0) (enOf sg1) (signB 0 (enOf sg0) at_ m bk)] := by
  refine Spec.enter (C := cx gl) Tryd.func45 rfl 109 rfl rfl fun w0 h0 hsep hsub hpre => ?_
  show St (cx gl) _ [(0, .pointer (some ⟨w, 0, none⟩)), (1, .int .i64 0), (2, .int .i64 at_), (3, .slice base m.length c)] _ _
  refine St.ownForm (p := [_, _]) fun sb0 sc0 hsb0_ hsc0 => ?_
  subst hsb0_
  refine St.ownForm (p := [_, _, _]) fun ab0 ac0 hab0_ hac0 => ?_
  subst hab0_
  refine St.ownForm (p := [_, _, _, _, _]) fun sb1 sc1 hsb1_ hsc1 => ?_
  subst hsb1_
  refine St.ownForm (p := [_, _, _, _, _, _]) fun ab1 ac1 hab1_ hac1 => ?_
  subst hab1_
  refine St.ownForm (p := [_, _, _, _, _, _, _]) fun bb bc hbb_ hbc => ?_
  subst hbb_
  refine St.res (rs' := [blk w [.pointer (some ⟨p0, 0, none⟩), .pointer (some ⟨p1, 0, none⟩), .slice sb0 sg0.length sc0, .slice sb1 sg1.length sc1, .slice ab0 sg0.length ac0, .slice ab1 sg1.length ac1, .slice bb bk.length bc, .bool false] 59, REG p0 (sg0) (rcOf 0 bk), ownS 27 1 (.slice sb0 sg0.length sc0) (sg0).length (ptrs (sg0)), ownS 23 1 (.slice ab0 sg0.length ac0) (sg0).length (ints .u64 (enOf (sg0))), REG p1 (sg1) (rcOf 1 bk), ownS 27 1 (.slice sb1 sg1.length sc1) (sg1).length (ptrs (sg1)), ownS 23 1 (.slice ab1 sg1.length ac1) (sg1).length (ints .u64 (enOf (sg1))), ownS 64 19 (.slice bb bk.length bc) (bk).length (bkC (bk))]) (Weak.refl _) ?_
  refine St.res (rs' := [blk w [.pointer (some ⟨p0, 0, none⟩), .pointer (some ⟨p1, 0, none⟩), .slice sb0 sg0.length sc0, .slice sb1 sg1.length sc1, .slice ab0 sg0.length ac0, .slice ab1 sg1.length ac1, .slice bb bk.length bc, .bool false] 59, REG p0 (sg0) (rcOf 0 bk), ownS 27 1 (.slice sb0 sg0.length sc0) (sg0).length (ptrs (sg0)), ownS 23 1 (.slice ab0 sg0.length ac0) (sg0).length (ints .u64 (enOf (sg0))), ownS 64 19 (.slice bb bk.length bc) (bk).length (bkC (bk)), REG p1 (sg1) (rcOf 1 bk), ownS 27 1 (.slice sb1 sg1.length sc1) (sg1).length (ptrs (sg1)), ownS 23 1 (.slice ab1 sg1.length ac1) (sg1).length (ints .u64 (enOf (sg1)))]) (Weak.keep (Weak.keep (Weak.keep (Weak.keep (Weak.pick (p := [_, _, _]) (Weak.keep (Weak.keep (Weak.keep (Weak.nil _))))))))) ?_
  refine St.ownSome (p := [_, _]) (by omega) fun sbb sbb_ hq _ => ?_
  simp only [Value.slice.injEq] at hq
  obtain ⟨rfl, _, rfl⟩ := hq
  refine St.ownSome (p := [_, _, _]) (by omega) fun abb abb_ hq _ => ?_
  simp only [Value.slice.injEq] at hq
  obtain ⟨rfl, _, rfl⟩ := hq
  refine St.res (rs' := [blk w [.pointer (some ⟨p0, 0, none⟩), .pointer (some ⟨p1, 0, none⟩), .slice (some ⟨sbb, 0, none⟩) sg0.length sc0, .slice sb1 sg1.length sc1, .slice (some ⟨abb, 0, none⟩) sg0.length ac0, .slice ab1 sg1.length ac1, .slice bb bk.length bc, .bool false] 59, REG p0 (sg0) (rcOf 0 bk), ownS 27 1 (.slice (some ⟨sbb, 0, none⟩) sg0.length sc0) (sg0).length (ptrs (sg0)), ownS 23 1 (.slice (some ⟨abb, 0, none⟩) sg0.length ac0) (sg0).length (ints .u64 (enOf (sg0))), ownS 64 19 (.slice bb bk.length bc) (bk).length (bkC (bk)), REG p1 (sg1) (rcOf 1 bk), ownS 27 1 (.slice sb1 sg1.length sc1) (sg1).length (ptrs (sg1)), ownS 23 1 (.slice ab1 sg1.length ac1) (sg1).length (ints .u64 (enOf (sg1)))]) (Weak.refl _) ?_
  obtain ⟨ii, hii⟩ : ∃ ii : Nat, aroundI at_ (sg0.length : Int) = ii := ⟨(aroundI at_ sg0.length).toNat, by have hbd := aroundI_bound (x := at_) (n := (sg0.length : Int)) (by omega); omega⟩
  have hil : ii < sg0.length := by have hbd := aroundI_bound (x := at_) (n := (sg0.length : Int)) (by omega); omega
  obtain ⟨⟨a1, s⟩, hs⟩ : ∃ y, sg0[ii]? = some y := ⟨_, List.getElem?_eq_getElem hil⟩
  have hsb : signB 0 (enOf sg0) at_ m bk = addB bk (0, a1, m) := by unfold signB; rw [if_neg (by rw [enOf_length]; omega), enOf_length, hii, Int.toNat_natCast, enOf_get hs]
  have hrl := rcOf_le 0 bk
  have hm0 : (0, a1, m) ∈ bk := hin ii a1 s hii hs
  obtain ⟨j, hj, hx⟩ := findB_mem hm0
  have hjl : j < bk.length := (List.getElem?_eq_some_iff.1 hx).1
  have hadd : addB bk (0, a1, m) = bk := if_pos hm0
  have har : addR (rcOf 0 bk) (a1, m) = rcOf 0 bk := if_pos (mem_rcOf.2 hm0)
  refine R_seq ?_
  refine R_seq ?_
  refine R_region ?_
  refine L_val rfl rfl rfl (OpP.v (P_move rfl rfl)) ?_
  refine L_val rfl rfl rfl (OpP.v (P_move rfl rfl)) ?_
  refine L_val rfl rfl rfl (OpP.v (P_nil rfl rfl)) ?_
  refine L_val rfl rfl rfl (OpP.v (P_fld0 rfl ty_fl_59_1 rfl)) ?_
  first | (refine L_val rfl rfl rfl (OpP.v (P_ixa0 (0) rfl ty_ar_55 rfl rfl (by first | rfl | omega) (by omega))) ?_) | (refine L_val rfl rfl rfl (OpP.v (P_ixa (0) rfl ty_ar_55 rfl rfl (by first | rfl | omega) (by omega))) ?_)
  refine L_val rfl rfl rfl (V_load rfl rfl ty_sc_54 (Rd.blk .h0 rfl)) ?_
  refine L_val rfl rfl rfl (OpP.v (P_len rfl ty_sl_54 rfl)) ?_
  refine L_val rfl rfl rfl (OpP.v (P_eql rfl rfl rfl)) ?_
  refine E_false (t := 19) rfl (decide_eq_false (by omega)) ?_
  refine L_val rfl rfl rfl (OpP.v (P_move rfl rfl)) ?_
  refine L_val rfl rfl rfl (OpP.v (P_move rfl rfl)) ?_
  refine L_val rfl rfl rfl (OpP.v (P_len rfl ty_sl_24 rfl)) ?_
  refine L_val rfl rfl rfl (OpP.v (P_gtr rfl rfl rfl)) ?_
  refine E_false (t := 23) rfl (decide_eq_false (by omega)) ?_
  refine L_val rfl rfl rfl (OpP.v (P_pick rfl rfl rfl)) ?_
  refine L_nil ?_
  refine St.env (.cons (t := 0) rfl (.cons (t := 1) rfl (.cons (t := 2) rfl (.cons (t := 3) rfl (.cons (t := 24) rfl .nil))))) ?_
  refine Q_then ?_
  refine R_condF rfl ?_
  refine R_skip ?_
  refine Q_then ?_
  refine R_seq ?_
  refine R_region ?_
  refine L_val rfl rfl rfl (OpP.v (P_move rfl rfl)) ?_
  refine L_val rfl rfl rfl (OpP.v (P_move rfl rfl)) ?_
  refine L_val rfl rfl rfl (OpP.v (P_move rfl rfl)) ?_
  refine L_val rfl rfl rfl (OpP.v (P_nil rfl rfl)) ?_
  refine L_val rfl rfl rfl (OpP.v (P_fld0 rfl ty_fl_59_1 rfl)) ?_
  first | (refine L_val rfl rfl rfl (OpP.v (P_ixa0 (0) rfl ty_ar_55 rfl rfl (by first | rfl | omega) (by omega))) ?_) | (refine L_val rfl rfl rfl (OpP.v (P_ixa (0) rfl ty_ar_55 rfl rfl (by first | rfl | omega) (by omega))) ?_)
  refine L_val rfl rfl rfl (V_load rfl rfl ty_sc_54 (Rd.blk .h0 rfl)) ?_
  refine L_val rfl rfl rfl (OpP.v (P_len rfl ty_sl_54 rfl)) ?_
  refine L_op rfl (W_callV rfl rfl rfl rfl fn_ca_26 (around_ok at_ (sg0.length : Int) (by omega) (by omega)) (fun _ _ => trivial) ?_)
  refine E_as (t := 33) (v' := .int .i64 (ii : Int)) rfl (by rw [hii]) ?_
  refine L_val rfl rfl rfl (OpP.v (P_assign rfl rfl)) ?_
  refine L_nil ?_
  refine St.env (.cons (t := 0) rfl (.cons (t := 1) rfl (.cons (t := 3) rfl (.cons (t := 8) rfl .nil)))) ?_
  refine Q_then ?_
  refine R_seq ?_
  refine R_region ?_
  refine L_val rfl rfl rfl (OpP.v (P_move rfl rfl)) ?_
  refine L_val rfl rfl rfl (OpP.v (P_move rfl rfl)) ?_
  refine L_val rfl rfl rfl (OpP.v (P_nil rfl rfl)) ?_
  refine L_val rfl rfl rfl (OpP.v (P_fld0 rfl ty_fl_59_1 rfl)) ?_
  first | (refine L_val rfl rfl rfl (OpP.v (P_ixa0 (0) rfl ty_ar_55 rfl rfl (by first | rfl | omega) (by omega))) ?_) | (refine L_val rfl rfl rfl (OpP.v (P_ixa (0) rfl ty_ar_55 rfl rfl (by first | rfl | omega) (by omega))) ?_)
  refine L_val rfl rfl rfl (V_load rfl rfl ty_sc_54 (Rd.blk .h0 rfl)) ?_
  refine L_val rfl rfl rfl (OpP.v (P_move rfl rfl)) ?_
  refine L_val rfl rfl rfl (OpP.v (P_ixs (ii) rfl ty_sl_54 rfl rfl (by first | rfl | omega) (by omega))) ?_
  refine L_val rfl rfl rfl (V_load rfl rfl ty_sc_27 (rd_own1 .h2 (ptrs_at hs))) ?_
  refine L_val rfl rfl rfl (OpP.v (P_move rfl rfl)) ?_
  refine L_op rfl (W_callR rfl rfl rfl rfl fn_ca_18 (sign_any hG p0 sg0 (rcOf 0 bk) ii a1 s hs base c m hmb hsm (by omega)) (Split.one (p := [_])) (Sn.pre (Sn.old hpre)) ?_)
  refine St.res (rs' := [blk w [.pointer (some ⟨p0, 0, none⟩), .pointer (some ⟨p1, 0, none⟩), .slice (some ⟨sbb, 0, none⟩) sg0.length sc0, .slice sb1 sg1.length sc1, .slice (some ⟨abb, 0, none⟩) sg0.length ac0, .slice ab1 sg1.length ac1, .slice bb bk.length bc, .bool false] 59, REG p0 (sg0) (addR (rcOf 0 bk) (a1, m)), ownS 27 1 (.slice (some ⟨sbb, 0, none⟩) sg0.length sc0) (sg0).length (ptrs (sg0)), ownS 23 1 (.slice (some ⟨abb, 0, none⟩) sg0.length ac0) (sg0).length (ints .u64 (enOf (sg0))), ownS 64 19 (.slice bb bk.length bc) (bk).length (bkC (bk)), REG p1 (sg1) (rcOf 1 bk), ownS 27 1 (.slice sb1 sg1.length sc1) (sg1).length (ptrs (sg1)), ownS 23 1 (.slice ab1 sg1.length ac1) (sg1).length (ints .u64 (enOf (sg1)))]) (Weak.p1 (Weak.refl _)) ?_
  refine L_val rfl rfl rfl (OpP.v (P_move rfl rfl)) ?_
  refine L_val rfl rfl rfl (OpP.v (P_extract rfl rfl rfl)) ?_
  refine L_val rfl rfl rfl (OpP.v (P_extract rfl rfl rfl)) ?_
  refine L_op rfl (W_alloc rfl rfl rfl ty_ze_33 fun b9 => ?_)
  refine L_op rfl (W_storeAll rfl rfl rfl rfl ty_ag_33 (by rw [ints_length, sealH_length]) (ints_one) .h0 (by rw [ints_length, sealH_length]; rfl) ?_)
  refine L_val rfl rfl rfl (OpP.v (P_assign rfl rfl)) ?_
  refine L_nil ?_
  refine St.env (.cons (t := 0) rfl (.cons (t := 1) rfl (.cons (t := 3) rfl (.cons (t := 8) rfl (.cons (t := 9) rfl (.cons (t := 10) rfl .nil)))))) ?_
  refine Q_then ?_
  refine R_seq ?_
  refine St.res (rs' := [blk w [.pointer (some ⟨p0, 0, none⟩), .pointer (some ⟨p1, 0, none⟩), .slice (some ⟨sbb, 0, none⟩) sg0.length sc0, .slice sb1 sg1.length sc1, .slice (some ⟨abb, 0, none⟩) sg0.length ac0, .slice ab1 sg1.length ac1, .slice bb bk.length bc, .bool false] 59, blk b9 (ints .u8 (sealH a1 m)) 33, REG p0 (sg0) (addR (rcOf 0 bk) (a1, m)), ownS 27 1 (.slice (some ⟨sbb, 0, none⟩) sg0.length sc0) (sg0).length (ptrs (sg0)), ownS 23 1 (.slice (some ⟨abb, 0, none⟩) sg0.length ac0) (sg0).length (ints .u64 (enOf (sg0))), ownS 64 19 (.slice bb bk.length bc) (bk).length (bkC (bk)), REG p1 (sg1) (rcOf 1 bk), ownS 27 1 (.slice sb1 sg1.length sc1) (sg1).length (ptrs (sg1)), ownS 23 1 (.slice ab1 sg1.length ac1) (sg1).length (ints .u64 (enOf (sg1)))]) (Weak.swap) ?_
  refine R_open [(0, 0), (1, 0), (2, 0), (3, 0), (4, 0), (5, 0), (6, 0), (7, 1), (8, 0), (9, 0), (10, 1), (11, 0), (12, 1), (13, 2), (14, 0)] mixed (by kernel_rfl) (QOk.then QOk.body) ?_
  refine O_pure rfl rfl rfl rfl (P_move rfl rfl) ?_
  refine O_pure rfl rfl rfl rfl (P_move rfl rfl) ?_
  refine O_pure rfl rfl rfl rfl (P_move rfl rfl) ?_
  refine O_pure rfl rfl rfl rfl (P_move rfl rfl) ?_
  refine O_pure rfl rfl rfl rfl (P_nil rfl rfl) ?_
  refine O_pure rfl rfl rfl rfl (P_fld0 rfl ty_fl_59_2 rfl) ?_
  first | (refine O_pure rfl rfl rfl rfl (P_ixa0 (0) rfl ty_ar_56 rfl rfl (by first | rfl | omega) (by omega)) ?_) | (refine O_pure rfl rfl rfl rfl (P_ixa (0) rfl ty_ar_56 rfl rfl (by first | rfl | omega) (by omega)) ?_)
  refine O_val rfl rfl rfl rfl (V_load rfl rfl ty_sc_52 (Rd.blk .h0 rfl)) ?_
  refine O_pure rfl rfl rfl rfl (P_move rfl rfl) ?_
  refine O_pure rfl rfl rfl rfl (P_ixs (ii) rfl ty_sl_52 rfl rfl (by first | rfl | omega) (by omega)) ?_
  refine O_val rfl rfl rfl rfl (V_load rfl rfl ty_sc_23 (rd_own1 .h4 (by unfold ints; rw [List.getElem?_map, enOf_get hs]; rfl))) ?_
  refine O_pure rfl rfl rfl rfl (P_move rfl rfl) ?_
  refine O_val rfl rfl rfl rfl (V_str rfl (slB_spec ty_sl_24).1 ty_int_5 ty_str_9 rfl ((Sn.old hpre).rw_)) ?_
  refine O_keep rfl rfl (W_callR rfl rfl rfl rfl fn_ca_61 (find_ok w _ _ _ _ _ _ _ bb bc bk hbk hbl 0 a1 m hmb) (Weak.keep (Weak.pick (p := [_, _, _, _]) (Weak.keep (Weak.keep (Weak.keep (Weak.keep (Weak.keep (Weak.keep (Weak.keep (Weak.nil _)))))))))) (fun _ _ _ _ _ _ _ => trivial) (K_keep (Weak.keep (Weak.pick (p := [_]) (Weak.pick (p := [_]) (Weak.pick (p := [_]) (Weak.pick (p := [_]) (Weak.keep (Weak.keep (Weak.keep (Weak.keep (Weak.nil _)))))))))) ?_))
  refine O_pure rfl rfl rfl rfl (P_assign rfl rfl) ?_
  refine O_nil ?_
  refine St.env (.cons (t := 0) rfl (.cons (t := 1) rfl (.cons (t := 3) rfl (.cons (t := 8) rfl (.cons (t := 9) rfl (.cons (t := 10) rfl (.cons (t := 11) rfl .nil))))))) ?_
  refine Q_then ?_
  refine R_seq ?_
  refine R_seq ?_
  refine St.res (rs' := [blk w [.pointer (some ⟨p0, 0, none⟩), .pointer (some ⟨p1, 0, none⟩), .slice (some ⟨sbb, 0, none⟩) sg0.length sc0, .slice sb1 sg1.length sc1, .slice (some ⟨abb, 0, none⟩) sg0.length ac0, .slice ab1 sg1.length ac1, .slice bb bk.length bc, .bool false] 59, blk b9 (ints .u8 (sealH a1 m)) 33, REG p0 (sg0) (addR (rcOf 0 bk) (a1, m)), ownS 27 1 (.slice (some ⟨sbb, 0, none⟩) sg0.length sc0) (sg0).length (ptrs (sg0)), ownS 23 1 (.slice (some ⟨abb, 0, none⟩) sg0.length ac0) (sg0).length (ints .u64 (enOf (sg0))), ownS 64 19 (.slice bb bk.length bc) (bk).length (bkC (bk)), REG p1 (sg1) (rcOf 1 bk), ownS 27 1 (.slice sb1 sg1.length sc1) (sg1).length (ptrs (sg1)), ownS 23 1 (.slice ab1 sg1.length ac1) (sg1).length (ints .u64 (enOf (sg1)))]) (Weak.keep (Weak.pick (p := [_]) (Weak.pick (p := [_]) (Weak.pick (p := [_]) (Weak.pick (p := [_]) (Weak.keep (Weak.keep (Weak.keep (Weak.keep (Weak.nil _)))))))))) ?_
  refine E_as (t := 11) (v' := .int .i64 (j : Int)) rfl (by rw [hj]) ?_
  refine St.ownSome (p := [_, _, _, _, _]) (by omega) fun bbb bbb_ hq _ => ?_
  simp only [Value.slice.injEq] at hq
  obtain ⟨rfl, _, rfl⟩ := hq
  refine R_open [(0, 0), (1, 2), (2, 0), (3, 0), (4, 0), (5, 0), (6, 0), (7, 0), (8, 0), (9, 0), (10, 1), (11, 0), (12, 0), (13, 0), (14, 1), (15, 1), (16, 0), (17, 0), (18, 0)] mixed (by kernel_rfl) (QOk.then (QOk.then QOk.body)) ?_
  refine O_pure rfl rfl rfl rfl (P_move rfl rfl) ?_
  refine O_keep rfl rfl (W_callV rfl rfl rfl rfl fn_ca_17 (num_ok 0) (fun _ _ => trivial) (K_keep (Weak.refl _) ?_))
  refine O_pure rfl rfl rfl rfl (P_neq rfl rfl rfl) ?_
  refine E_false (t := 64) rfl (rfl) ?_
  refine O_pure rfl rfl rfl rfl (P_move rfl rfl) ?_
  refine O_pure rfl rfl rfl rfl (P_move rfl rfl) ?_
  refine O_pure rfl rfl rfl rfl (P_geq rfl rfl rfl) ?_
  refine E_true (t := 67) rfl (decide_eq_true (by omega)) ?_
  refine O_pure rfl rfl rfl rfl (P_move rfl rfl) ?_
  refine O_pure rfl rfl rfl rfl (P_move rfl rfl) ?_
  refine O_pure rfl rfl rfl rfl (P_nil rfl rfl) ?_
  refine O_pure rfl rfl rfl rfl (P_fld0 rfl ty_fl_59_3 rfl) ?_
  refine O_val rfl rfl rfl rfl (V_load rfl rfl ty_sc_57 (Rd.blk .h0 rfl)) ?_
  refine O_pure rfl rfl rfl rfl (P_move rfl rfl) ?_
  refine O_pure rfl rfl rfl rfl (P_ixs (j) rfl ty_sl_57 rfl rfl (by first | rfl | omega) (by omega)) ?_
  refine O_pure rfl rfl rfl rfl (P_fld rfl ty_fl_64_3 rfl) ?_
  refine O_val rfl rfl rfl rfl (V_loadAgg rfl rfl ty_ag_33 ((Rds.sn (k := j * 19) (Sn.own .h5 rfl) (fun q v hv => bkC_at hx q v hv)).part 3 (wrC_seal _)) (by rw [ints_length, sealH_length])) ?_
  refine O_val rfl rfl rfl rfl (V_loadAgg rfl rfl ty_ag_33 (Rds.blk .h1) (by rw [ints_length, sealH_length])) ?_
  refine O_pure rfl rfl rfl rfl (P_neArr rfl rfl rfl ty_un_33 ty_int_5 ty_sc_5 ty_eg_33 (sealH_length _ _) (sealH_length _ _)) ?_
  refine E_false (t := 78) rfl (decide_eq_false (fun h => h rfl)) ?_
  refine O_pure rfl rfl rfl rfl (P_pick rfl rfl rfl) ?_
  refine O_pure rfl rfl rfl rfl (P_pick rfl rfl rfl) ?_
  refine O_nil ?_
  refine St.env (.cons (t := 0) rfl (.cons (t := 1) rfl (.cons (t := 3) rfl (.cons (t := 8) rfl (.cons (t := 9) rfl (.cons (t := 11) rfl (.cons (t := 80) rfl .nil))))))) ?_
  refine Q_then ?_
  refine R_condF rfl ?_
  refine R_skip ?_
  refine Q_then ?_
  refine R_seq ?_
  refine R_region ?_
  refine L_val rfl rfl rfl (OpP.v (P_move rfl rfl)) ?_
  refine L_val rfl rfl rfl (OpP.v (P_lss rfl rfl rfl)) ?_
  refine E_false (t := 85) rfl (decide_eq_false (by omega)) ?_
  refine L_nil ?_
  refine St.env (.cons (t := 0) rfl (.cons (t := 1) rfl (.cons (t := 3) rfl (.cons (t := 8) rfl (.cons (t := 9) rfl (.cons (t := 85) rfl .nil)))))) ?_
  refine Q_then ?_
  refine R_condF rfl ?_
  refine R_skip ?_
  exact R_end0 (rs2 := [SIGHT w (enOf sg0) (enOf sg1) (signB 0 (enOf sg0) at_ m bk)]) rfl rfl (.nil) (⟨rfl, rfl⟩) (by rw [hsb, hadd, har]; exact (Weak.keep (Weak.drop (Weak.refl _))).trans ((Weak.refl _).trans ((Weak.keep (Weak.keep (Weak.keep (Weak.keep (Weak.pick (p := [_]) (Weak.pick (p := [_]) (Weak.pick (p := [_]) (Weak.keep (Weak.nil _))))))))).trans (sight_close (rs := []) ⟨p0, p1, sg0, sg1, .slice (some ⟨sbb, 0, none⟩) sg0.length sc0, .slice sb1 sg1.length sc1, .slice (some ⟨abb, 0, none⟩) sg0.length ac0, .slice ab1 sg1.length ac1, .slice (some ⟨bbb, 0, none⟩) bk.length bc⟩))))
theorem sign_new_s0 {gl : Nat → Obj} (hG : Globs gl) (w : Nat) (p0 p1 : Nat) (sg0 sg1 : List (Int × Nat)) (S0 S1 A0 A1 B : Value) (bk : List Wrt) (hbk : BkOK bk) (hs0 : sg0.length ≤ 1599289640354) (hs1 : sg1.length ≤ 1599289640354) (hbl : bk.length ≤ 1599289640354) (at_ : Int) (base : Option Addr) (c : Nat) (m : List Int) (hmb : IsB m) (hml : m.length ≤ 140737488351300) (hz : 0 < sg0.length) (hsm : m.length ≤ 1048576) (hout : ∀ ii a1 s, aroundI at_ (sg0.length : Int) = (ii : Nat) → sg0[ii]? = some (a1, s) → (0, a1, m) ∉ bk) : SpecR (cx gl) 45 [.pointer (some ⟨w, 0, none⟩), .int .i64 0, .int .i64 at_, .slice base m.length c] (fun w h => Seen w h base (ints .u8 m)) [blk w [.pointer (some ⟨p0, 0, none⟩), .pointer (some ⟨p1, 0, none⟩), S0, S1, A0, A1, B, .bool false] 59, REG p0 (sg0) (rcOf 0 bk), ownS 27 1 (S0) (sg0).length (ptrs (sg0)), ownS 23 1 (A0) (sg0).length (ints .u64 (enOf (sg0))), REG p1 (sg1) (rcOf 1 bk), ownS 27 1 (S1) (sg1).length (ptrs (sg1)), ownS 23 1 (A1) (sg1).length (ints .u64 (enOf (sg1))), ownS 64 19 (B) (bk).length (bkC (bk))] (.tuple #[]) [SIGHT w (enOf sg0) (enOf sg1) (signB 0 (enOf sg0) at_ m bk)] := by
  refine Spec.enter (C := cx gl) Tryd.func45 rfl 109 rfl rfl fun w0 h0 hsep hsub hpre => ?_
  show St (cx gl) _ [(0, .pointer (some ⟨w, 0, none⟩)), (1, .int .i64 0), (2, .int .i64 at_), (3, .slice base m.length c)] _ _
  refine St.ownForm (p := [_, _]) fun sb0 sc0 hsb0_ hsc0 => ?_
  subst hsb0_
  refine St.ownForm (p := [_, _, _]) fun ab0 ac0 hab0_ hac0 => ?_
  subst hab0_
  refine St.ownForm (p := [_, _, _, _, _]) fun sb1 sc1 hsb1_ hsc1 => ?_
  subst hsb1_
  refine St.ownForm (p := [_, _, _, _, _, _]) fun ab1 ac1 hab1_ hac1 => ?_
  subst hab1_
  refine St.ownForm (p := [_, _, _, _, _, _, _]) fun bb bc hbb_ hbc => ?_
  subst hbb_
  refine St.res (rs' := [blk w [.pointer (some ⟨p0, 0, none⟩), .pointer (some ⟨p1, 0, none⟩), .slice sb0 sg0.length sc0, .slice sb1 sg1.length sc1, .slice ab0 sg0.length ac0, .slice ab1 sg1.length ac1, .slice bb bk.length bc, .bool false] 59, REG p0 (sg0) (rcOf 0 bk), ownS 27 1 (.slice sb0 sg0.length sc0) (sg0).length (ptrs (sg0)), ownS 23 1 (.slice ab0 sg0.length ac0) (sg0).length (ints .u64 (enOf (sg0))), REG p1 (sg1) (rcOf 1 bk), ownS 27 1 (.slice sb1 sg1.length sc1) (sg1).length (ptrs (sg1)), ownS 23 1 (.slice ab1 sg1.length ac1) (sg1).length (ints .u64 (enOf (sg1))), ownS 64 19 (.slice bb bk.length bc) (bk).length (bkC (bk))]) (Weak.refl _) ?_
  refine St.res (rs' := [blk w [.pointer (some ⟨p0, 0, none⟩), .pointer (some ⟨p1, 0, none⟩), .slice sb0 sg0.length sc0, .slice sb1 sg1.length sc1, .slice ab0 sg0.length ac0, .slice ab1 sg1.length ac1, .slice bb bk.length bc, .bool false] 59, REG p0 (sg0) (rcOf 0 bk), ownS 27 1 (.slice sb0 sg0.length sc0) (sg0).length (ptrs (sg0)), ownS 23 1 (.slice ab0 sg0.length ac0) (sg0).length (ints .u64 (enOf (sg0))), ownS 64 19 (.slice bb bk.length bc) (bk).length (bkC (bk)), REG p1 (sg1) (rcOf 1 bk), ownS 27 1 (.slice sb1 sg1.length sc1) (sg1).length (ptrs (sg1)), ownS 23 1 (.slice ab1 sg1.length ac1) (sg1).length (ints .u64 (enOf (sg1)))]) (Weak.keep (Weak.keep (Weak.keep (Weak.keep (Weak.pick (p := [_, _, _]) (Weak.keep (Weak.keep (Weak.keep (Weak.nil _))))))))) ?_
  refine St.ownSome (p := [_, _]) (by omega) fun sbb sbb_ hq _ => ?_
  simp only [Value.slice.injEq] at hq
  obtain ⟨rfl, _, rfl⟩ := hq
  refine St.ownSome (p := [_, _, _]) (by omega) fun abb abb_ hq _ => ?_
  simp only [Value.slice.injEq] at hq
  obtain ⟨rfl, _, rfl⟩ := hq
  refine St.res (rs' := [blk w [.pointer (some ⟨p0, 0, none⟩), .pointer (some ⟨p1, 0, none⟩), .slice (some ⟨sbb, 0, none⟩) sg0.length sc0, .slice sb1 sg1.length sc1, .slice (some ⟨abb, 0, none⟩) sg0.length ac0, .slice ab1 sg1.length ac1, .slice bb bk.length bc, .bool false] 59, REG p0 (sg0) (rcOf 0 bk), ownS 27 1 (.slice (some ⟨sbb, 0, none⟩) sg0.length sc0) (sg0).length (ptrs (sg0)), ownS 23 1 (.slice (some ⟨abb, 0, none⟩) sg0.length ac0) (sg0).length (ints .u64 (enOf (sg0))), ownS 64 19 (.slice bb bk.length bc) (bk).length (bkC (bk)), REG p1 (sg1) (rcOf 1 bk), ownS 27 1 (.slice sb1 sg1.length sc1) (sg1).length (ptrs (sg1)), ownS 23 1 (.slice ab1 sg1.length ac1) (sg1).length (ints .u64 (enOf (sg1)))]) (Weak.refl _) ?_
  obtain ⟨ii, hii⟩ : ∃ ii : Nat, aroundI at_ (sg0.length : Int) = ii := ⟨(aroundI at_ sg0.length).toNat, by have hbd := aroundI_bound (x := at_) (n := (sg0.length : Int)) (by omega); omega⟩
  have hil : ii < sg0.length := by have hbd := aroundI_bound (x := at_) (n := (sg0.length : Int)) (by omega); omega
  obtain ⟨⟨a1, s⟩, hs⟩ : ∃ y, sg0[ii]? = some y := ⟨_, List.getElem?_eq_getElem hil⟩
  have hsb : signB 0 (enOf sg0) at_ m bk = addB bk (0, a1, m) := by unfold signB; rw [if_neg (by rw [enOf_length]; omega), enOf_length, hii, Int.toNat_natCast, enOf_get hs]
  have hrl := rcOf_le 0 bk
  have hm0 : (0, a1, m) ∉ bk := hout ii a1 s hii hs
  have hadd : addB bk (0, a1, m) = bk ++ [(0, a1, m)] := if_neg hm0
  have har : addR (rcOf 0 bk) (a1, m) = rcOf 0 (bk ++ [(0, a1, m)]) := by rw [← rcOf_addB, hadd]
  have hoth : rcOf 1 bk = rcOf 1 (bk ++ [(0, a1, m)]) := by rw [← hadd, rcOf_addB' (by decide)]
  refine R_seq ?_
  refine R_seq ?_
  refine R_region ?_
  refine L_val rfl rfl rfl (OpP.v (P_move rfl rfl)) ?_
  refine L_val rfl rfl rfl (OpP.v (P_move rfl rfl)) ?_
  refine L_val rfl rfl rfl (OpP.v (P_nil rfl rfl)) ?_
  refine L_val rfl rfl rfl (OpP.v (P_fld0 rfl ty_fl_59_1 rfl)) ?_
  first | (refine L_val rfl rfl rfl (OpP.v (P_ixa0 (0) rfl ty_ar_55 rfl rfl (by first | rfl | omega) (by omega))) ?_) | (refine L_val rfl rfl rfl (OpP.v (P_ixa (0) rfl ty_ar_55 rfl rfl (by first | rfl | omega) (by omega))) ?_)
  refine L_val rfl rfl rfl (V_load rfl rfl ty_sc_54 (Rd.blk .h0 rfl)) ?_
  refine L_val rfl rfl rfl (OpP.v (P_len rfl ty_sl_54 rfl)) ?_
  refine L_val rfl rfl rfl (OpP.v (P_eql rfl rfl rfl)) ?_
  refine E_false (t := 19) rfl (decide_eq_false (by omega)) ?_
  refine L_val rfl rfl rfl (OpP.v (P_move rfl rfl)) ?_
  refine L_val rfl rfl rfl (OpP.v (P_move rfl rfl)) ?_
  refine L_val rfl rfl rfl (OpP.v (P_len rfl ty_sl_24 rfl)) ?_
  refine L_val rfl rfl rfl (OpP.v (P_gtr rfl rfl rfl)) ?_
  refine E_false (t := 23) rfl (decide_eq_false (by omega)) ?_
  refine L_val rfl rfl rfl (OpP.v (P_pick rfl rfl rfl)) ?_
  refine L_nil ?_
  refine St.env (.cons (t := 0) rfl (.cons (t := 1) rfl (.cons (t := 2) rfl (.cons (t := 3) rfl (.cons (t := 24) rfl .nil))))) ?_
  refine Q_then ?_
  refine R_condF rfl ?_
  refine R_skip ?_
  refine Q_then ?_
  refine R_seq ?_
  refine R_region ?_
  refine L_val rfl rfl rfl (OpP.v (P_move rfl rfl)) ?_
  refine L_val rfl rfl rfl (OpP.v (P_move rfl rfl)) ?_
  refine L_val rfl rfl rfl (OpP.v (P_move rfl rfl)) ?_
  refine L_val rfl rfl rfl (OpP.v (P_nil rfl rfl)) ?_
  refine L_val rfl rfl rfl (OpP.v (P_fld0 rfl ty_fl_59_1 rfl)) ?_
  first | (refine L_val rfl rfl rfl (OpP.v (P_ixa0 (0) rfl ty_ar_55 rfl rfl (by first | rfl | omega) (by omega))) ?_) | (refine L_val rfl rfl rfl (OpP.v (P_ixa (0) rfl ty_ar_55 rfl rfl (by first | rfl | omega) (by omega))) ?_)
  refine L_val rfl rfl rfl (V_load rfl rfl ty_sc_54 (Rd.blk .h0 rfl)) ?_
  refine L_val rfl rfl rfl (OpP.v (P_len rfl ty_sl_54 rfl)) ?_
  refine L_op rfl (W_callV rfl rfl rfl rfl fn_ca_26 (around_ok at_ (sg0.length : Int) (by omega) (by omega)) (fun _ _ => trivial) ?_)
  refine E_as (t := 33) (v' := .int .i64 (ii : Int)) rfl (by rw [hii]) ?_
  refine L_val rfl rfl rfl (OpP.v (P_assign rfl rfl)) ?_
  refine L_nil ?_
  refine St.env (.cons (t := 0) rfl (.cons (t := 1) rfl (.cons (t := 3) rfl (.cons (t := 8) rfl .nil)))) ?_
  refine Q_then ?_
  refine R_seq ?_
  refine R_region ?_
  refine L_val rfl rfl rfl (OpP.v (P_move rfl rfl)) ?_
  refine L_val rfl rfl rfl (OpP.v (P_move rfl rfl)) ?_
  refine L_val rfl rfl rfl (OpP.v (P_nil rfl rfl)) ?_
  refine L_val rfl rfl rfl (OpP.v (P_fld0 rfl ty_fl_59_1 rfl)) ?_
  first | (refine L_val rfl rfl rfl (OpP.v (P_ixa0 (0) rfl ty_ar_55 rfl rfl (by first | rfl | omega) (by omega))) ?_) | (refine L_val rfl rfl rfl (OpP.v (P_ixa (0) rfl ty_ar_55 rfl rfl (by first | rfl | omega) (by omega))) ?_)
  refine L_val rfl rfl rfl (V_load rfl rfl ty_sc_54 (Rd.blk .h0 rfl)) ?_
  refine L_val rfl rfl rfl (OpP.v (P_move rfl rfl)) ?_
  refine L_val rfl rfl rfl (OpP.v (P_ixs (ii) rfl ty_sl_54 rfl rfl (by first | rfl | omega) (by omega))) ?_
  refine L_val rfl rfl rfl (V_load rfl rfl ty_sc_27 (rd_own1 .h2 (ptrs_at hs))) ?_
  refine L_val rfl rfl rfl (OpP.v (P_move rfl rfl)) ?_
  refine L_op rfl (W_callR rfl rfl rfl rfl fn_ca_18 (sign_any hG p0 sg0 (rcOf 0 bk) ii a1 s hs base c m hmb hsm (by omega)) (Split.one (p := [_])) (Sn.pre (Sn.old hpre)) ?_)
  refine St.res (rs' := [blk w [.pointer (some ⟨p0, 0, none⟩), .pointer (some ⟨p1, 0, none⟩), .slice (some ⟨sbb, 0, none⟩) sg0.length sc0, .slice sb1 sg1.length sc1, .slice (some ⟨abb, 0, none⟩) sg0.length ac0, .slice ab1 sg1.length ac1, .slice bb bk.length bc, .bool false] 59, REG p0 (sg0) (addR (rcOf 0 bk) (a1, m)), ownS 27 1 (.slice (some ⟨sbb, 0, none⟩) sg0.length sc0) (sg0).length (ptrs (sg0)), ownS 23 1 (.slice (some ⟨abb, 0, none⟩) sg0.length ac0) (sg0).length (ints .u64 (enOf (sg0))), ownS 64 19 (.slice bb bk.length bc) (bk).length (bkC (bk)), REG p1 (sg1) (rcOf 1 bk), ownS 27 1 (.slice sb1 sg1.length sc1) (sg1).length (ptrs (sg1)), ownS 23 1 (.slice ab1 sg1.length ac1) (sg1).length (ints .u64 (enOf (sg1)))]) (Weak.p1 (Weak.refl _)) ?_
  refine L_val rfl rfl rfl (OpP.v (P_move rfl rfl)) ?_
  refine L_val rfl rfl rfl (OpP.v (P_extract rfl rfl rfl)) ?_
  refine L_val rfl rfl rfl (OpP.v (P_extract rfl rfl rfl)) ?_
  refine L_op rfl (W_alloc rfl rfl rfl ty_ze_33 fun b9 => ?_)
  refine L_op rfl (W_storeAll rfl rfl rfl rfl ty_ag_33 (by rw [ints_length, sealH_length]) (ints_one) .h0 (by rw [ints_length, sealH_length]; rfl) ?_)
  refine L_val rfl rfl rfl (OpP.v (P_assign rfl rfl)) ?_
  refine L_nil ?_
  refine St.env (.cons (t := 0) rfl (.cons (t := 1) rfl (.cons (t := 3) rfl (.cons (t := 8) rfl (.cons (t := 9) rfl (.cons (t := 10) rfl .nil)))))) ?_
  refine Q_then ?_
  refine R_seq ?_
  refine St.res (rs' := [blk w [.pointer (some ⟨p0, 0, none⟩), .pointer (some ⟨p1, 0, none⟩), .slice (some ⟨sbb, 0, none⟩) sg0.length sc0, .slice sb1 sg1.length sc1, .slice (some ⟨abb, 0, none⟩) sg0.length ac0, .slice ab1 sg1.length ac1, .slice bb bk.length bc, .bool false] 59, blk b9 (ints .u8 (sealH a1 m)) 33, REG p0 (sg0) (addR (rcOf 0 bk) (a1, m)), ownS 27 1 (.slice (some ⟨sbb, 0, none⟩) sg0.length sc0) (sg0).length (ptrs (sg0)), ownS 23 1 (.slice (some ⟨abb, 0, none⟩) sg0.length ac0) (sg0).length (ints .u64 (enOf (sg0))), ownS 64 19 (.slice bb bk.length bc) (bk).length (bkC (bk)), REG p1 (sg1) (rcOf 1 bk), ownS 27 1 (.slice sb1 sg1.length sc1) (sg1).length (ptrs (sg1)), ownS 23 1 (.slice ab1 sg1.length ac1) (sg1).length (ints .u64 (enOf (sg1)))]) (Weak.swap) ?_
  refine R_open [(0, 0), (1, 0), (2, 0), (3, 0), (4, 0), (5, 0), (6, 0), (7, 1), (8, 0), (9, 0), (10, 1), (11, 0), (12, 1), (13, 2), (14, 0)] mixed (by kernel_rfl) (QOk.then QOk.body) ?_
  refine O_pure rfl rfl rfl rfl (P_move rfl rfl) ?_
  refine O_pure rfl rfl rfl rfl (P_move rfl rfl) ?_
  refine O_pure rfl rfl rfl rfl (P_move rfl rfl) ?_
  refine O_pure rfl rfl rfl rfl (P_move rfl rfl) ?_
  refine O_pure rfl rfl rfl rfl (P_nil rfl rfl) ?_
  refine O_pure rfl rfl rfl rfl (P_fld0 rfl ty_fl_59_2 rfl) ?_
  first | (refine O_pure rfl rfl rfl rfl (P_ixa0 (0) rfl ty_ar_56 rfl rfl (by first | rfl | omega) (by omega)) ?_) | (refine O_pure rfl rfl rfl rfl (P_ixa (0) rfl ty_ar_56 rfl rfl (by first | rfl | omega) (by omega)) ?_)
  refine O_val rfl rfl rfl rfl (V_load rfl rfl ty_sc_52 (Rd.blk .h0 rfl)) ?_
  refine O_pure rfl rfl rfl rfl (P_move rfl rfl) ?_
  refine O_pure rfl rfl rfl rfl (P_ixs (ii) rfl ty_sl_52 rfl rfl (by first | rfl | omega) (by omega)) ?_
  refine O_val rfl rfl rfl rfl (V_load rfl rfl ty_sc_23 (rd_own1 .h4 (by unfold ints; rw [List.getElem?_map, enOf_get hs]; rfl))) ?_
  refine O_pure rfl rfl rfl rfl (P_move rfl rfl) ?_
  refine O_val rfl rfl rfl rfl (V_str rfl (slB_spec ty_sl_24).1 ty_int_5 ty_str_9 rfl ((Sn.old hpre).rw_)) ?_
  refine O_keep rfl rfl (W_callR rfl rfl rfl rfl fn_ca_61 (find_ok w _ _ _ _ _ _ _ bb bc bk hbk hbl 0 a1 m hmb) (Weak.keep (Weak.pick (p := [_, _, _, _]) (Weak.keep (Weak.keep (Weak.keep (Weak.keep (Weak.keep (Weak.keep (Weak.keep (Weak.nil _)))))))))) (fun _ _ _ _ _ _ _ => trivial) (K_keep (Weak.keep (Weak.pick (p := [_]) (Weak.pick (p := [_]) (Weak.pick (p := [_]) (Weak.pick (p := [_]) (Weak.keep (Weak.keep (Weak.keep (Weak.keep (Weak.nil _)))))))))) ?_))
  refine O_pure rfl rfl rfl rfl (P_assign rfl rfl) ?_
  refine O_nil ?_
  refine St.env (.cons (t := 0) rfl (.cons (t := 1) rfl (.cons (t := 3) rfl (.cons (t := 8) rfl (.cons (t := 9) rfl (.cons (t := 10) rfl (.cons (t := 11) rfl .nil))))))) ?_
  refine Q_then ?_
  refine R_seq ?_
  refine R_seq ?_
  refine St.res (rs' := [blk w [.pointer (some ⟨p0, 0, none⟩), .pointer (some ⟨p1, 0, none⟩), .slice (some ⟨sbb, 0, none⟩) sg0.length sc0, .slice sb1 sg1.length sc1, .slice (some ⟨abb, 0, none⟩) sg0.length ac0, .slice ab1 sg1.length ac1, .slice bb bk.length bc, .bool false] 59, blk b9 (ints .u8 (sealH a1 m)) 33, REG p0 (sg0) (addR (rcOf 0 bk) (a1, m)), ownS 27 1 (.slice (some ⟨sbb, 0, none⟩) sg0.length sc0) (sg0).length (ptrs (sg0)), ownS 23 1 (.slice (some ⟨abb, 0, none⟩) sg0.length ac0) (sg0).length (ints .u64 (enOf (sg0))), ownS 64 19 (.slice bb bk.length bc) (bk).length (bkC (bk)), REG p1 (sg1) (rcOf 1 bk), ownS 27 1 (.slice sb1 sg1.length sc1) (sg1).length (ptrs (sg1)), ownS 23 1 (.slice ab1 sg1.length ac1) (sg1).length (ints .u64 (enOf (sg1)))]) (Weak.keep (Weak.pick (p := [_]) (Weak.pick (p := [_]) (Weak.pick (p := [_]) (Weak.pick (p := [_]) (Weak.keep (Weak.keep (Weak.keep (Weak.keep (Weak.nil _)))))))))) ?_
  refine E_as (t := 11) (v' := .int .i64 (-1)) rfl (by rw [findB_none hm0]) ?_
  refine R_open [(0, 0), (1, 2), (2, 0), (3, 0), (4, 0), (5, 0), (6, 0), (7, 0), (8, 0), (9, 0), (10, 1), (11, 0), (12, 0), (13, 0), (14, 1), (15, 1), (16, 0), (17, 0), (18, 0)] mixed (by kernel_rfl) (QOk.then (QOk.then QOk.body)) ?_
  refine O_pure rfl rfl rfl rfl (P_move rfl rfl) ?_
  refine O_keep rfl rfl (W_callV rfl rfl rfl rfl fn_ca_17 (num_ok 0) (fun _ _ => trivial) (K_keep (Weak.refl _) ?_))
  refine O_pure rfl rfl rfl rfl (P_neq rfl rfl rfl) ?_
  refine E_false (t := 64) rfl (rfl) ?_
  refine O_pure rfl rfl rfl rfl (P_move rfl rfl) ?_
  refine O_pure rfl rfl rfl rfl (P_move rfl rfl) ?_
  refine O_pure rfl rfl rfl rfl (P_geq rfl rfl rfl) ?_
  refine E_false (t := 67) rfl (rfl) ?_
  refine O_pure rfl rfl rfl rfl (P_move rfl rfl) ?_
  refine O_no rfl rfl rfl rfl ?_
  refine O_no rfl rfl rfl rfl ?_
  refine O_no rfl rfl rfl rfl ?_
  refine O_noX rfl rfl rfl rfl ?_
  refine O_no rfl rfl rfl rfl ?_
  refine O_no rfl rfl rfl rfl ?_
  refine O_no rfl rfl rfl rfl ?_
  refine O_noX rfl rfl rfl rfl ?_
  refine O_noX rfl rfl rfl rfl ?_
  refine O_no rfl rfl rfl rfl ?_
  refine O_pure rfl rfl rfl rfl (P_pick rfl rfl rfl) ?_
  refine O_pure rfl rfl rfl rfl (P_pick rfl rfl rfl) ?_
  refine O_nil ?_
  refine St.env (.cons (t := 0) rfl (.cons (t := 1) rfl (.cons (t := 3) rfl (.cons (t := 8) rfl (.cons (t := 9) rfl (.cons (t := 11) rfl (.cons (t := 80) rfl .nil))))))) ?_
  refine Q_then ?_
  refine R_condF rfl ?_
  refine R_skip ?_
  refine Q_then ?_
  refine R_seq ?_
  refine R_region ?_
  refine L_val rfl rfl rfl (OpP.v (P_move rfl rfl)) ?_
  refine L_val rfl rfl rfl (OpP.v (P_lss rfl rfl rfl)) ?_
  refine E_true (t := 85) rfl (rfl) ?_
  refine L_nil ?_
  refine St.env (.cons (t := 0) rfl (.cons (t := 1) rfl (.cons (t := 3) rfl (.cons (t := 8) rfl (.cons (t := 9) rfl (.cons (t := 85) rfl .nil)))))) ?_
  refine Q_then ?_
  refine R_condT rfl ?_
  refine R_open [(0, 0), (1, 0), (2, 0), (3, 0), (4, 1), (5, 0), (6, 0), (7, 0), (8, 0), (9, 0), (10, 0), (11, 1), (12, 0), (13, 0), (14, 1), (15, 0), (16, 1), (17, 1), (18, 0), (19, 2), (20, 3), (21, 0), (22, 0), (23, 3)] mixed (by kernel_rfl) QOk.body ?_
  refine O_pure rfl rfl rfl rfl (P_move rfl rfl) ?_
  refine O_pure rfl rfl rfl rfl (P_move rfl rfl) ?_
  refine O_pure rfl rfl rfl rfl (P_nil rfl rfl) ?_
  refine O_pure rfl rfl rfl rfl (P_fld0 rfl ty_fl_59_3 rfl) ?_
  refine O_val rfl rfl rfl rfl (V_load rfl rfl ty_sc_57 (Rd.blk .h0 rfl)) ?_
  refine O_pure rfl rfl rfl rfl (P_move rfl rfl) ?_
  refine O_pure rfl rfl rfl rfl (P_move rfl rfl) ?_
  refine O_pure rfl rfl rfl rfl (P_move rfl rfl) ?_
  refine O_pure rfl rfl rfl rfl (P_nil rfl rfl) ?_
  refine O_pure rfl rfl rfl rfl (P_fld0 rfl ty_fl_59_2 rfl) ?_
  first | (refine O_pure rfl rfl rfl rfl (P_ixa0 (0) rfl ty_ar_56 rfl rfl (by first | rfl | omega) (by omega)) ?_) | (refine O_pure rfl rfl rfl rfl (P_ixa (0) rfl ty_ar_56 rfl rfl (by first | rfl | omega) (by omega)) ?_)
  refine O_val rfl rfl rfl rfl (V_load rfl rfl ty_sc_52 (Rd.blk .h0 rfl)) ?_
  refine O_pure rfl rfl rfl rfl (P_move rfl rfl) ?_
  refine O_pure rfl rfl rfl rfl (P_ixs (ii) rfl ty_sl_52 rfl rfl (by first | rfl | omega) (by omega)) ?_
  refine O_val rfl rfl rfl rfl (V_load rfl rfl ty_sc_23 (rd_own1 .h4 (by unfold ints; rw [List.getElem?_map, enOf_get hs]; rfl))) ?_
  refine O_pure rfl rfl rfl rfl (P_move rfl rfl) ?_
  refine O_val rfl rfl rfl rfl (V_str rfl (slB_spec ty_sl_24).1 ty_int_5 ty_str_9 rfl ((Sn.old hpre).rw_)) ?_
  refine O_val rfl rfl rfl rfl (V_loadAgg rfl rfl ty_ag_33 (Rds.blk .h1) (by rw [ints_length, sealH_length])) ?_
  refine O_pure rfl rfl rfl rfl (P_buildStruct rfl ty_pl_64 ty_ze_64 rfl rfl (build_wr 0 a1 m)) ?_
  refine O_keep rfl rfl (W_lit (z := .nilIface) (wrC (0, a1, m)) rfl rfl rfl ty_sl_57 ty_lz_57 rfl rfl rfl (by decide) (by decide) (by simp [Value.cells, wrC_length]) (by simp [Value.cells]) fun b105 => (K_keep (Weak.drop (Weak.refl _)) ?_))
  refine O_new rfl rfl (W_append (p := [_, _, _, _, _, _]) rfl rfl rfl ty_sl_57 ty_ap_57 ty_src_57 rfl rfl rfl (Src.slice (sz := 19) (news := wrC (0, a1, m)) (Rds.blk .h0) (wrC_length _) (wrC_one _)) (by omega) (by simp only [maxLen]; omega) fun v106 => (K_new ?_))
  refine St.ownForm (p := [_, _, _, _, _, _]) fun nb nc hnb_ hnc => ?_
  subst hnb_
  refine O_pure rfl rfl rfl rfl (P_nil rfl rfl) ?_
  refine O_pure rfl rfl rfl rfl (P_fld0 rfl ty_fl_59_3 rfl) ?_
  refine O_new rfl rfl (W_store rfl rfl rfl rfl ty_sc_57 rfl .h1 (by first | decide | (simp [ints]; done) | (simp [ints]; omega)) (K_new ?_))
  refine O_nil ?_
  refine St.env (.nil) ?_
  refine St.res (rs' := [blk w [.pointer (some ⟨p0, 0, none⟩), .pointer (some ⟨p1, 0, none⟩), .slice (some ⟨sbb, 0, none⟩) sg0.length sc0, .slice sb1 sg1.length sc1, .slice (some ⟨abb, 0, none⟩) sg0.length ac0, .slice ab1 sg1.length ac1, .slice nb (bk.length + 1) nc, .bool false] 59, blk b9 (ints .u8 (sealH a1 m)) 33, REG p0 (sg0) (addR (rcOf 0 bk) (a1, m)), ownS 27 1 (.slice (some ⟨sbb, 0, none⟩) sg0.length sc0) (sg0).length (ptrs (sg0)), ownS 23 1 (.slice (some ⟨abb, 0, none⟩) sg0.length ac0) (sg0).length (ints .u64 (enOf (sg0))), ownS 64 19 (.slice nb (bk.length + 1) nc) (bk ++ [(0, a1, m)]).length (bkC (bk ++ [(0, a1, m)])), REG p1 (sg1) (rcOf 1 bk), ownS 27 1 (.slice sb1 sg1.length sc1) (sg1).length (ptrs (sg1)), ownS 23 1 (.slice ab1 sg1.length ac1) (sg1).length (ints .u64 (enOf (sg1)))]) (by have e : (bk ++ [(0, a1, m)]).length = bk.length + 1 := (by simp); rw [← bkC_snoc, e]; exact Weak.drop (Weak.refl _)) ?_
  exact R_end0 (rs2 := [SIGHT w (enOf sg0) (enOf sg1) (signB 0 (enOf sg0) at_ m bk)]) rfl rfl (.nil) (⟨rfl, rfl⟩) (by rw [hsb, hadd, har, hoth]; exact (Weak.keep (Weak.drop (Weak.refl _))).trans ((Weak.keep (Weak.keep (Weak.keep (Weak.keep (Weak.pick (p := [_]) (Weak.pick (p := [_]) (Weak.pick (p := [_]) (Weak.keep (Weak.nil _))))))))).trans (sight_close (rs := []) (bk := bk ++ [(0, a1, m)]) ⟨p0, p1, sg0, sg1, .slice (some ⟨sbb, 0, none⟩) sg0.length sc0, .slice sb1 sg1.length sc1, .slice (some ⟨abb, 0, none⟩) sg0.length ac0, .slice ab1 sg1.length ac1, .slice nb (bk.length + 1) nc⟩)))
theorem sSign_ok0 {gl : Nat → Obj} (hG : Globs gl) (w : Nat) (e0 e1 : List Int) (bk : List Wrt) (hbk : BkOK bk) (h0 : e0.length ≤ 1599289640354) (h1 : e1.length ≤ 1599289640354) (hbl : bk.length ≤ 1599289640354) (at_ : Int) (base : Option Addr) (c : Nat) (m : List Int) (hmb : IsB m) (hml : m.length ≤ 140737488351300) : SpecR (cx gl) 45 [.pointer (some ⟨w, 0, none⟩), .int .i64 0, .int .i64 at_, .slice base m.length c] (fun w h => Seen w h base (ints .u8 m)) [SIGHT w e0 e1 bk] (.tuple #[]) [SIGHT w e0 e1 (signB 0 e0 at_ m bk)] := Spec.openEx fun ⟨p0, p1, sg0, sg1, S0, S1, A0, A1, B⟩ hok => by
  obtain ⟨hx0, hx1⟩ := hok
  dsimp only at hx0 hx1
  subst hx0; subst hx1
  rw [enOf_length] at h0 h1
  by_cases hz : sg0.length = 0
  · exact sign_none_s0 hG w p0 p1 sg0 sg1 S0 S1 A0 A1 B bk hbk h0 h1 hbl at_ base c m hmb hml hz
  · by_cases hs : m.length ≤ 1048576
    · have hbd := aroundI_bound (x := at_) (n := (sg0.length : Int)) (by omega)
      by_cases hin : ∀ (ii : Nat) (a1 : Int) (s : Nat), aroundI at_ (sg0.length : Int) = (ii : Nat) → sg0[ii]? = some (a1, s) → ((0 : Int), a1, m) ∈ bk
      · exact sign_old_s0 hG w p0 p1 sg0 sg1 S0 S1 A0 A1 B bk hbk h0 h1 hbl at_ base c m hmb hml (by omega) hs hin
      · refine sign_new_s0 hG w p0 p1 sg0 sg1 S0 S1 A0 A1 B bk hbk h0 h1 hbl at_ base c m hmb hml (by omega) hs fun ii a1 s h2 h3 h4 => hin fun ii' a1' s' h5 h6 => ?_
        rw [h2] at h5
        obtain rfl : ii = ii' := by omega
        rw [h3] at h6
        simp only [Option.some.injEq, Prod.mk.injEq] at h6
        rw [← h6.1]; exact h4
    · exact sign_big_s0 hG w p0 p1 sg0 sg1 S0 S1 A0 A1 B bk hbk h0 h1 hbl at_ base c m hmb hml (by omega) (by omega)
theorem enter_zero_s1 {gl : Nat → Obj} (w : Nat) (p0 p1 : Nat) (sg0 sg1 : List (Int × Nat)) (S0 S1 A0 A1 B : Value) (bk : List Wrt) (hbk : BkOK bk) (hs0 : sg0.length ≤ 1599289640354) (hs1 : sg1.length ≤ 1599289640354) (hbl : bk.length ≤ 1599289640354) (a : Int) (ha : a = 0) : SpecR (cx gl) 44 [.pointer (some ⟨w, 0, none⟩), .int .i64 1, .int .u64 a] (fun _ _ => True) [blk w [.pointer (some ⟨p0, 0, none⟩), .pointer (some ⟨p1, 0, none⟩), S0, S1, A0, A1, B, .bool false] 59, REG p0 (sg0) (rcOf 0 bk), ownS 27 1 (S0) (sg0).length (ptrs (sg0)), ownS 23 1 (A0) (sg0).length (ints .u64 (enOf (sg0))), REG p1 (sg1) (rcOf 1 bk), ownS 27 1 (S1) (sg1).length (ptrs (sg1)), ownS 23 1 (A1) (sg1).length (ints .u64 (enOf (sg1))), ownS 64 19 (B) (bk).length (bkC (bk))] (.tuple #[]) [SIGHT w (enOf sg0) (eAdd (enOf sg1) a) bk] := by
  refine Spec.enter (C := cx gl) Tryd.func44 rfl 70 rfl rfl fun w0 h0 hsep hsub hpre => ?_
  show St (cx gl) _ [(0, .pointer (some ⟨w, 0, none⟩)), (1, .int .i64 1), (2, .int .u64 a)] _ _
  refine St.ownForm (p := [_, _]) fun sb0 sc0 hsb0_ hsc0 => ?_
  subst hsb0_
  refine St.ownForm (p := [_, _, _]) fun ab0 ac0 hab0_ hac0 => ?_
  subst hab0_
  refine St.ownForm (p := [_, _, _, _, _]) fun sb1 sc1 hsb1_ hsc1 => ?_
  subst hsb1_
  refine St.ownForm (p := [_, _, _, _, _, _]) fun ab1 ac1 hab1_ hac1 => ?_
  subst hab1_
  refine St.ownForm (p := [_, _, _, _, _, _, _]) fun bb bc hbb_ hbc => ?_
  subst hbb_
  refine St.res (rs' := [blk w [.pointer (some ⟨p0, 0, none⟩), .pointer (some ⟨p1, 0, none⟩), .slice sb0 sg0.length sc0, .slice sb1 sg1.length sc1, .slice ab0 sg0.length ac0, .slice ab1 sg1.length ac1, .slice bb bk.length bc, .bool false] 59, REG p0 (sg0) (rcOf 0 bk), ownS 27 1 (.slice sb0 sg0.length sc0) (sg0).length (ptrs (sg0)), ownS 23 1 (.slice ab0 sg0.length ac0) (sg0).length (ints .u64 (enOf (sg0))), REG p1 (sg1) (rcOf 1 bk), ownS 27 1 (.slice sb1 sg1.length sc1) (sg1).length (ptrs (sg1)), ownS 23 1 (.slice ab1 sg1.length ac1) (sg1).length (ints .u64 (enOf (sg1))), ownS 64 19 (.slice bb bk.length bc) (bk).length (bkC (bk))]) (Weak.refl _) ?_
  refine St.res (rs' := [blk w [.pointer (some ⟨p0, 0, none⟩), .pointer (some ⟨p1, 0, none⟩), .slice sb0 sg0.length sc0, .slice sb1 sg1.length sc1, .slice ab0 sg0.length ac0, .slice ab1 sg1.length ac1, .slice bb bk.length bc, .bool false] 59, REG p1 (sg1) (rcOf 1 bk), ownS 27 1 (.slice sb1 sg1.length sc1) (sg1).length (ptrs (sg1)), ownS 23 1 (.slice ab1 sg1.length ac1) (sg1).length (ints .u64 (enOf (sg1))), ownS 64 19 (.slice bb bk.length bc) (bk).length (bkC (bk)), REG p0 (sg0) (rcOf 0 bk), ownS 27 1 (.slice sb0 sg0.length sc0) (sg0).length (ptrs (sg0)), ownS 23 1 (.slice ab0 sg0.length ac0) (sg0).length (ints .u64 (enOf (sg0)))]) (Weak.keep (Weak.pick (p := [_, _, _]) (Weak.pick (p := [_, _, _]) (Weak.pick (p := [_, _, _]) (Weak.pick (p := [_, _, _]) (Weak.keep (Weak.keep (Weak.keep (Weak.nil _))))))))) ?_
  refine R_seq ?_
  refine R_region ?_
  refine L_val rfl rfl rfl (OpP.v (P_move rfl rfl)) ?_
  refine L_val rfl rfl rfl (OpP.v (P_move rfl rfl)) ?_
  refine L_val rfl rfl rfl (OpP.v (P_nil rfl rfl)) ?_
  refine L_val rfl rfl rfl (OpP.v (P_fld0 rfl ty_fl_59_0 rfl)) ?_
  first | (refine L_val rfl rfl rfl (OpP.v (P_ixa0 (1) rfl ty_ar_53 rfl rfl (by first | rfl | omega) (by omega))) ?_) | (refine L_val rfl rfl rfl (OpP.v (P_ixa (1) rfl ty_ar_53 rfl rfl (by first | rfl | omega) (by omega))) ?_)
  refine L_val rfl rfl rfl (V_load rfl rfl ty_sc_25 (Rd.blk .h0 rfl)) ?_
  refine L_val rfl rfl rfl (OpP.v (P_move rfl rfl)) ?_
  refine L_op rfl (W_callR rfl rfl rfl rfl fn_ca_16 (by subst ha; exact enter_zero p1 sg1 (rcOf 1 bk)) (Split.one (p := [_])) (fun _ _ _ _ _ _ _ => trivial) ?_)
  refine St.res (rs' := [blk w [.pointer (some ⟨p0, 0, none⟩), .pointer (some ⟨p1, 0, none⟩), .slice sb0 sg0.length sc0, .slice sb1 sg1.length sc1, .slice ab0 sg0.length ac0, .slice ab1 sg1.length ac1, .slice bb bk.length bc, .bool false] 59, REG p1 (sg1) (rcOf 1 bk), ownS 27 1 (.slice sb1 sg1.length sc1) (sg1).length (ptrs (sg1)), ownS 23 1 (.slice ab1 sg1.length ac1) (sg1).length (ints .u64 (enOf (sg1))), ownS 64 19 (.slice bb bk.length bc) (bk).length (bkC (bk)), REG p0 (sg0) (rcOf 0 bk), ownS 27 1 (.slice sb0 sg0.length sc0) (sg0).length (ptrs (sg0)), ownS 23 1 (.slice ab0 sg0.length ac0) (sg0).length (ints .u64 (enOf (sg0)))]) (Weak.p1 (Weak.refl _)) ?_
  refine L_val rfl rfl rfl (OpP.v (P_move rfl rfl)) ?_
  refine L_val rfl rfl rfl (OpP.v (P_extract rfl rfl rfl)) ?_
  refine L_val rfl rfl rfl (OpP.v (P_extract rfl rfl rfl)) ?_
  refine L_val rfl rfl rfl (OpP.v (P_assign rfl rfl)) ?_
  refine L_val rfl rfl rfl (OpP.v (P_assign rfl rfl)) ?_
  refine L_nil ?_
  refine St.env (.cons (t := 0) rfl (.cons (t := 1) rfl (.cons (t := 2) rfl (.cons (t := 6) rfl (.cons (t := 7) rfl .nil))))) ?_
  refine Q_then ?_
  refine R_seq ?_
  refine R_region ?_
  refine L_val rfl rfl rfl (OpP.v (P_assign rfl rfl)) ?_
  refine L_nil ?_
  refine Q_then ?_
  refine R_seq ?_
  refine R_seq ?_
  refine R_region ?_
  refine L_val rfl rfl rfl (OpP.v (P_move rfl rfl)) ?_
  refine L_val rfl rfl rfl (OpP.v (P_eql rfl rfl rfl)) ?_
  refine E_true (t := 21) rfl (decide_eq_true ha) ?_
  refine L_nil ?_
  refine St.env (.cons (t := 0) rfl (.cons (t := 1) rfl (.cons (t := 2) rfl (.cons (t := 6) rfl (.cons (t := 7) rfl (.cons (t := 8) rfl (.cons (t := 21) rfl .nil))))))) ?_
  refine Q_then ?_
  refine R_condT rfl ?_
  refine R_region ?_
  refine L_val rfl rfl rfl (OpP.v (P_assign rfl rfl)) ?_
  refine L_nil ?_
  refine St.env (.cons (t := 0) rfl (.cons (t := 1) rfl (.cons (t := 2) rfl (.cons (t := 6) rfl (.cons (t := 7) rfl (.cons (t := 8) rfl .nil)))))) ?_
  refine Q_then ?_
  refine R_seq ?_
  refine R_seq ?_
  refine R_region ?_
  refine L_val rfl rfl rfl (OpP.v (P_move rfl rfl)) ?_
  refine L_op rfl (W_callV rfl rfl rfl rfl fn_ca_17 (num_ok 2) (fun _ _ => trivial) ?_)
  refine L_val rfl rfl rfl (OpP.v (P_move rfl rfl)) ?_
  refine L_val rfl rfl rfl (OpP.v (P_neq rfl rfl rfl)) ?_
  refine E_false (t := 29) rfl (rfl) ?_
  refine L_val rfl rfl rfl (OpP.v (P_move rfl rfl)) ?_
  refine L_val rfl rfl rfl (OpP.v (P_move rfl rfl)) ?_
  refine L_val rfl rfl rfl (OpP.v (P_eqNil0 rfl ty_ptr_27 rfl rfl)) ?_
  refine L_val rfl rfl rfl (OpP.v (P_move rfl rfl)) ?_
  refine L_val rfl rfl rfl (OpP.v (P_neq rfl rfl rfl)) ?_
  refine E_true (t := 34) rfl (rfl) ?_
  refine L_val rfl rfl rfl (OpP.v (P_neq_bool rfl ty_bool_4 rfl rfl)) ?_
  refine E_false (t := 35) rfl (rfl) ?_
  refine L_val rfl rfl rfl (OpP.v (P_pick rfl rfl rfl)) ?_
  refine L_nil ?_
  refine St.env (.cons (t := 0) rfl (.cons (t := 1) rfl (.cons (t := 2) rfl (.cons (t := 6) rfl (.cons (t := 8) rfl (.cons (t := 36) rfl .nil)))))) ?_
  refine Q_then ?_
  refine R_condF rfl ?_
  refine R_skip ?_
  refine Q_then ?_
  refine R_seq ?_
  refine R_region ?_
  refine L_val rfl rfl rfl (OpP.v (P_move rfl rfl)) ?_
  refine L_val rfl rfl rfl (OpP.v (P_eql rfl rfl rfl)) ?_
  refine E_false (t := 41) rfl (rfl) ?_
  refine L_nil ?_
  refine St.env (.cons (t := 0) rfl (.cons (t := 1) rfl (.cons (t := 2) rfl (.cons (t := 6) rfl (.cons (t := 41) rfl .nil))))) ?_
  refine Q_then ?_
  refine R_condF rfl ?_
  refine R_skip ?_
  exact R_end0 (rs2 := [SIGHT w (enOf sg0) (eAdd (enOf sg1) a) bk]) rfl rfl (.nil) (⟨rfl, rfl⟩) (by rw [show eAdd (enOf sg1) a = enOf sg1 from if_pos (.inl ha)]; exact (Weak.refl _).trans ((Weak.keep (Weak.pick (p := [_, _, _, _]) (Weak.pick (p := [_, _, _, _]) (Weak.pick (p := [_, _, _, _]) (Weak.keep (Weak.keep (Weak.keep (Weak.keep (Weak.nil _))))))))).trans (sight_close (rs := []) ⟨p0, p1, sg0, sg1, .slice sb0 sg0.length sc0, .slice sb1 sg1.length sc1, .slice ab0 sg0.length ac0, .slice ab1 sg1.length ac1, .slice bb bk.length bc⟩)))
theorem enter_twice_s1 {gl : Nat → Obj} (w : Nat) (p0 p1 : Nat) (sg0 sg1 : List (Int × Nat)) (S0 S1 A0 A1 B : Value) (bk : List Wrt) (hbk : BkOK bk) (hs0 : sg0.length ≤ 1599289640354) (hs1 : sg1.length ≤ 1599289640354) (hbl : bk.length ≤ 1599289640354) (a : Int) (ha : a ≠ 0) (hin : isIn sg1 a = true) : SpecR (cx gl) 44 [.pointer (some ⟨w, 0, none⟩), .int .i64 1, .int .u64 a] (fun _ _ => True) [blk w [.pointer (some ⟨p0, 0, none⟩), .pointer (some ⟨p1, 0, none⟩), S0, S1, A0, A1, B, .bool false] 59, REG p0 (sg0) (rcOf 0 bk), ownS 27 1 (S0) (sg0).length (ptrs (sg0)), ownS 23 1 (A0) (sg0).length (ints .u64 (enOf (sg0))), REG p1 (sg1) (rcOf 1 bk), ownS 27 1 (S1) (sg1).length (ptrs (sg1)), ownS 23 1 (A1) (sg1).length (ints .u64 (enOf (sg1))), ownS 64 19 (B) (bk).length (bkC (bk))] (.tuple #[]) [SIGHT w (enOf sg0) (eAdd (enOf sg1) a) bk] := by
  refine Spec.enter (C := cx gl) Tryd.func44 rfl 70 rfl rfl fun w0 h0 hsep hsub hpre => ?_
  show St (cx gl) _ [(0, .pointer (some ⟨w, 0, none⟩)), (1, .int .i64 1), (2, .int .u64 a)] _ _
  refine St.ownForm (p := [_, _]) fun sb0 sc0 hsb0_ hsc0 => ?_
  subst hsb0_
  refine St.ownForm (p := [_, _, _]) fun ab0 ac0 hab0_ hac0 => ?_
  subst hab0_
  refine St.ownForm (p := [_, _, _, _, _]) fun sb1 sc1 hsb1_ hsc1 => ?_
  subst hsb1_
  refine St.ownForm (p := [_, _, _, _, _, _]) fun ab1 ac1 hab1_ hac1 => ?_
  subst hab1_
  refine St.ownForm (p := [_, _, _, _, _, _, _]) fun bb bc hbb_ hbc => ?_
  subst hbb_
  refine St.res (rs' := [blk w [.pointer (some ⟨p0, 0, none⟩), .pointer (some ⟨p1, 0, none⟩), .slice sb0 sg0.length sc0, .slice sb1 sg1.length sc1, .slice ab0 sg0.length ac0, .slice ab1 sg1.length ac1, .slice bb bk.length bc, .bool false] 59, REG p0 (sg0) (rcOf 0 bk), ownS 27 1 (.slice sb0 sg0.length sc0) (sg0).length (ptrs (sg0)), ownS 23 1 (.slice ab0 sg0.length ac0) (sg0).length (ints .u64 (enOf (sg0))), REG p1 (sg1) (rcOf 1 bk), ownS 27 1 (.slice sb1 sg1.length sc1) (sg1).length (ptrs (sg1)), ownS 23 1 (.slice ab1 sg1.length ac1) (sg1).length (ints .u64 (enOf (sg1))), ownS 64 19 (.slice bb bk.length bc) (bk).length (bkC (bk))]) (Weak.refl _) ?_
  refine St.res (rs' := [blk w [.pointer (some ⟨p0, 0, none⟩), .pointer (some ⟨p1, 0, none⟩), .slice sb0 sg0.length sc0, .slice sb1 sg1.length sc1, .slice ab0 sg0.length ac0, .slice ab1 sg1.length ac1, .slice bb bk.length bc, .bool false] 59, REG p1 (sg1) (rcOf 1 bk), ownS 27 1 (.slice sb1 sg1.length sc1) (sg1).length (ptrs (sg1)), ownS 23 1 (.slice ab1 sg1.length ac1) (sg1).length (ints .u64 (enOf (sg1))), ownS 64 19 (.slice bb bk.length bc) (bk).length (bkC (bk)), REG p0 (sg0) (rcOf 0 bk), ownS 27 1 (.slice sb0 sg0.length sc0) (sg0).length (ptrs (sg0)), ownS 23 1 (.slice ab0 sg0.length ac0) (sg0).length (ints .u64 (enOf (sg0)))]) (Weak.keep (Weak.pick (p := [_, _, _]) (Weak.pick (p := [_, _, _]) (Weak.pick (p := [_, _, _]) (Weak.pick (p := [_, _, _]) (Weak.keep (Weak.keep (Weak.keep (Weak.nil _))))))))) ?_
  refine R_seq ?_
  refine R_region ?_
  refine L_val rfl rfl rfl (OpP.v (P_move rfl rfl)) ?_
  refine L_val rfl rfl rfl (OpP.v (P_move rfl rfl)) ?_
  refine L_val rfl rfl rfl (OpP.v (P_nil rfl rfl)) ?_
  refine L_val rfl rfl rfl (OpP.v (P_fld0 rfl ty_fl_59_0 rfl)) ?_
  first | (refine L_val rfl rfl rfl (OpP.v (P_ixa0 (1) rfl ty_ar_53 rfl rfl (by first | rfl | omega) (by omega))) ?_) | (refine L_val rfl rfl rfl (OpP.v (P_ixa (1) rfl ty_ar_53 rfl rfl (by first | rfl | omega) (by omega))) ?_)
  refine L_val rfl rfl rfl (V_load rfl rfl ty_sc_25 (Rd.blk .h0 rfl)) ?_
  refine L_val rfl rfl rfl (OpP.v (P_move rfl rfl)) ?_
  refine L_op rfl (W_callR rfl rfl rfl rfl fn_ca_16 (enter_twice p1 sg1 (rcOf 1 bk) a ha hin) (Split.one (p := [_])) (fun _ _ _ _ _ _ _ => trivial) ?_)
  refine St.res (rs' := [blk w [.pointer (some ⟨p0, 0, none⟩), .pointer (some ⟨p1, 0, none⟩), .slice sb0 sg0.length sc0, .slice sb1 sg1.length sc1, .slice ab0 sg0.length ac0, .slice ab1 sg1.length ac1, .slice bb bk.length bc, .bool false] 59, REG p1 (sg1) (rcOf 1 bk), ownS 27 1 (.slice sb1 sg1.length sc1) (sg1).length (ptrs (sg1)), ownS 23 1 (.slice ab1 sg1.length ac1) (sg1).length (ints .u64 (enOf (sg1))), ownS 64 19 (.slice bb bk.length bc) (bk).length (bkC (bk)), REG p0 (sg0) (rcOf 0 bk), ownS 27 1 (.slice sb0 sg0.length sc0) (sg0).length (ptrs (sg0)), ownS 23 1 (.slice ab0 sg0.length ac0) (sg0).length (ints .u64 (enOf (sg0)))]) (Weak.p1 (Weak.refl _)) ?_
  refine L_val rfl rfl rfl (OpP.v (P_move rfl rfl)) ?_
  refine L_val rfl rfl rfl (OpP.v (P_extract rfl rfl rfl)) ?_
  refine L_val rfl rfl rfl (OpP.v (P_extract rfl rfl rfl)) ?_
  refine L_val rfl rfl rfl (OpP.v (P_assign rfl rfl)) ?_
  refine L_val rfl rfl rfl (OpP.v (P_assign rfl rfl)) ?_
  refine L_nil ?_
  refine St.env (.cons (t := 0) rfl (.cons (t := 1) rfl (.cons (t := 2) rfl (.cons (t := 6) rfl (.cons (t := 7) rfl .nil))))) ?_
  refine Q_then ?_
  refine R_seq ?_
  refine R_region ?_
  refine L_val rfl rfl rfl (OpP.v (P_assign rfl rfl)) ?_
  refine L_nil ?_
  refine Q_then ?_
  refine R_seq ?_
  refine R_seq ?_
  refine R_region ?_
  refine L_val rfl rfl rfl (OpP.v (P_move rfl rfl)) ?_
  refine L_val rfl rfl rfl (OpP.v (P_eql rfl rfl rfl)) ?_
  refine E_false (t := 21) rfl (decide_eq_false ha) ?_
  refine L_nil ?_
  refine St.env (.cons (t := 0) rfl (.cons (t := 1) rfl (.cons (t := 2) rfl (.cons (t := 6) rfl (.cons (t := 7) rfl (.cons (t := 8) rfl (.cons (t := 21) rfl .nil))))))) ?_
  refine Q_then ?_
  refine R_condF rfl ?_
  refine R_seq ?_
  refine R_region ?_
  refine L_val rfl rfl rfl (OpP.v (P_move rfl rfl)) ?_
  refine L_val rfl rfl rfl (OpP.v (P_move rfl rfl)) ?_
  refine L_val rfl rfl rfl (OpP.v (P_move rfl rfl)) ?_
  refine L_op rfl (W_callR rfl rfl rfl rfl fn_ca_60 (entered_ok1 w _ _ _ _ _ _ _ ab1 ac1 sg1 (by omega) a) (Weak.keep (Weak.pick (p := [_, _]) (Weak.keep (Weak.keep (Weak.keep (Weak.keep (Weak.keep (Weak.keep (Weak.nil _))))))))) (fun _ _ _ _ _ _ _ => trivial) ?_)
  refine St.res (rs' := [blk w [.pointer (some ⟨p0, 0, none⟩), .pointer (some ⟨p1, 0, none⟩), .slice sb0 sg0.length sc0, .slice sb1 sg1.length sc1, .slice ab0 sg0.length ac0, .slice ab1 sg1.length ac1, .slice bb bk.length bc, .bool false] 59, REG p1 (sg1) (rcOf 1 bk), ownS 27 1 (.slice sb1 sg1.length sc1) (sg1).length (ptrs (sg1)), ownS 23 1 (.slice ab1 sg1.length ac1) (sg1).length (ints .u64 (enOf (sg1))), ownS 64 19 (.slice bb bk.length bc) (bk).length (bkC (bk)), REG p0 (sg0) (rcOf 0 bk), ownS 27 1 (.slice sb0 sg0.length sc0) (sg0).length (ptrs (sg0)), ownS 23 1 (.slice ab0 sg0.length ac0) (sg0).length (ints .u64 (enOf (sg0)))]) (Weak.keep (Weak.pick (p := [_]) (Weak.pick (p := [_]) (Weak.keep (Weak.keep (Weak.keep (Weak.keep (Weak.keep (Weak.nil _))))))))) ?_
  refine E_true (t := 25) rfl (decide_eq_true ((isIn_iff _ _).1 hin)) ?_
  refine L_nil ?_
  refine St.env (.cons (t := 0) rfl (.cons (t := 1) rfl (.cons (t := 2) rfl (.cons (t := 6) rfl (.cons (t := 7) rfl (.cons (t := 8) rfl (.cons (t := 25) rfl .nil))))))) ?_
  refine Q_then ?_
  refine R_condT rfl ?_
  refine R_region ?_
  refine L_val rfl rfl rfl (OpP.v (P_assign rfl rfl)) ?_
  refine L_nil ?_
  refine St.env (.cons (t := 0) rfl (.cons (t := 1) rfl (.cons (t := 2) rfl (.cons (t := 6) rfl (.cons (t := 7) rfl (.cons (t := 8) rfl .nil)))))) ?_
  refine Q_then ?_
  refine R_seq ?_
  refine R_seq ?_
  refine R_region ?_
  refine L_val rfl rfl rfl (OpP.v (P_move rfl rfl)) ?_
  refine L_op rfl (W_callV rfl rfl rfl rfl fn_ca_17 (num_ok 30) (fun _ _ => trivial) ?_)
  refine L_val rfl rfl rfl (OpP.v (P_move rfl rfl)) ?_
  refine L_val rfl rfl rfl (OpP.v (P_neq rfl rfl rfl)) ?_
  refine E_false (t := 29) rfl (rfl) ?_
  refine L_val rfl rfl rfl (OpP.v (P_move rfl rfl)) ?_
  refine L_val rfl rfl rfl (OpP.v (P_move rfl rfl)) ?_
  refine L_val rfl rfl rfl (OpP.v (P_eqNil0 rfl ty_ptr_27 rfl rfl)) ?_
  refine L_val rfl rfl rfl (OpP.v (P_move rfl rfl)) ?_
  refine L_val rfl rfl rfl (OpP.v (P_neq rfl rfl rfl)) ?_
  refine E_true (t := 34) rfl (rfl) ?_
  refine L_val rfl rfl rfl (OpP.v (P_neq_bool rfl ty_bool_4 rfl rfl)) ?_
  refine E_false (t := 35) rfl (rfl) ?_
  refine L_val rfl rfl rfl (OpP.v (P_pick rfl rfl rfl)) ?_
  refine L_nil ?_
  refine St.env (.cons (t := 0) rfl (.cons (t := 1) rfl (.cons (t := 2) rfl (.cons (t := 6) rfl (.cons (t := 8) rfl (.cons (t := 36) rfl .nil)))))) ?_
  refine Q_then ?_
  refine R_condF rfl ?_
  refine R_skip ?_
  refine Q_then ?_
  refine R_seq ?_
  refine R_region ?_
  refine L_val rfl rfl rfl (OpP.v (P_move rfl rfl)) ?_
  refine L_val rfl rfl rfl (OpP.v (P_eql rfl rfl rfl)) ?_
  refine E_false (t := 41) rfl (rfl) ?_
  refine L_nil ?_
  refine St.env (.cons (t := 0) rfl (.cons (t := 1) rfl (.cons (t := 2) rfl (.cons (t := 6) rfl (.cons (t := 41) rfl .nil))))) ?_
  refine Q_then ?_
  refine R_condF rfl ?_
  refine R_skip ?_
  exact R_end0 (rs2 := [SIGHT w (enOf sg0) (eAdd (enOf sg1) a) bk]) rfl rfl (.nil) (⟨rfl, rfl⟩) (by rw [show eAdd (enOf sg1) a = enOf sg1 from if_pos (.inr ((isIn_iff _ _).1 hin))]; exact (Weak.refl _).trans ((Weak.keep (Weak.pick (p := [_, _, _, _]) (Weak.pick (p := [_, _, _, _]) (Weak.pick (p := [_, _, _, _]) (Weak.keep (Weak.keep (Weak.keep (Weak.keep (Weak.nil _))))))))).trans (sight_close (rs := []) ⟨p0, p1, sg0, sg1, .slice sb0 sg0.length sc0, .slice sb1 sg1.length sc1, .slice ab0 sg0.length ac0, .slice ab1 sg1.length ac1, .slice bb bk.length bc⟩)))
theorem enter_new_s1 {gl : Nat → Obj} (w : Nat) (p0 p1 : Nat) (sg0 sg1 : List (Int × Nat)) (S0 S1 A0 A1 B : Value) (bk : List Wrt) (hbk : BkOK bk) (hs0 : sg0.length ≤ 1599289640354) (hs1 : sg1.length ≤ 1599289640354) (hbl : bk.length ≤ 1599289640354) (a : Int) (ha : a ≠ 0) (hin : isIn sg1 a = false) : SpecR (cx gl) 44 [.pointer (some ⟨w, 0, none⟩), .int .i64 1, .int .u64 a] (fun _ _ => True) [blk w [.pointer (some ⟨p0, 0, none⟩), .pointer (some ⟨p1, 0, none⟩), S0, S1, A0, A1, B, .bool false] 59, REG p0 (sg0) (rcOf 0 bk), ownS 27 1 (S0) (sg0).length (ptrs (sg0)), ownS 23 1 (A0) (sg0).length (ints .u64 (enOf (sg0))), REG p1 (sg1) (rcOf 1 bk), ownS 27 1 (S1) (sg1).length (ptrs (sg1)), ownS 23 1 (A1) (sg1).length (ints .u64 (enOf (sg1))), ownS 64 19 (B) (bk).length (bkC (bk))] (.tuple #[]) [SIGHT w (enOf sg0) (eAdd (enOf sg1) a) bk] := by
  refine Spec.enter (C := cx gl) Tryd.func44 rfl 70 rfl rfl fun w0 h0 hsep hsub hpre => ?_
  show St (cx gl) _ [(0, .pointer (some ⟨w, 0, none⟩)), (1, .int .i64 1), (2, .int .u64 a)] _ _
  refine St.ownForm (p := [_, _]) fun sb0 sc0 hsb0_ hsc0 => ?_
  subst hsb0_
  refine St.ownForm (p := [_, _, _]) fun ab0 ac0 hab0_ hac0 => ?_
  subst hab0_
  refine St.ownForm (p := [_, _, _, _, _]) fun sb1 sc1 hsb1_ hsc1 => ?_
  subst hsb1_
  refine St.ownForm (p := [_, _, _, _, _, _]) fun ab1 ac1 hab1_ hac1 => ?_
  subst hab1_
  refine St.ownForm (p := [_, _, _, _, _, _, _]) fun bb bc hbb_ hbc => ?_
  subst hbb_
  refine St.res (rs' := [blk w [.pointer (some ⟨p0, 0, none⟩), .pointer (some ⟨p1, 0, none⟩), .slice sb0 sg0.length sc0, .slice sb1 sg1.length sc1, .slice ab0 sg0.length ac0, .slice ab1 sg1.length ac1, .slice bb bk.length bc, .bool false] 59, REG p0 (sg0) (rcOf 0 bk), ownS 27 1 (.slice sb0 sg0.length sc0) (sg0).length (ptrs (sg0)), ownS 23 1 (.slice ab0 sg0.length ac0) (sg0).length (ints .u64 (enOf (sg0))), REG p1 (sg1) (rcOf 1 bk), ownS 27 1 (.slice sb1 sg1.length sc1) (sg1).length (ptrs (sg1)), ownS 23 1 (.slice ab1 sg1.length ac1) (sg1).length (ints .u64 (enOf (sg1))), ownS 64 19 (.slice bb bk.length bc) (bk).length (bkC (bk))]) (Weak.refl _) ?_
  refine St.res (rs' := [blk w [.pointer (some ⟨p0, 0, none⟩), .pointer (some ⟨p1, 0, none⟩), .slice sb0 sg0.length sc0, .slice sb1 sg1.length sc1, .slice ab0 sg0.length ac0, .slice ab1 sg1.length ac1, .slice bb bk.length bc, .bool false] 59, REG p1 (sg1) (rcOf 1 bk), ownS 27 1 (.slice sb1 sg1.length sc1) (sg1).length (ptrs (sg1)), ownS 23 1 (.slice ab1 sg1.length ac1) (sg1).length (ints .u64 (enOf (sg1))), ownS 64 19 (.slice bb bk.length bc) (bk).length (bkC (bk)), REG p0 (sg0) (rcOf 0 bk), ownS 27 1 (.slice sb0 sg0.length sc0) (sg0).length (ptrs (sg0)), ownS 23 1 (.slice ab0 sg0.length ac0) (sg0).length (ints .u64 (enOf (sg0)))]) (Weak.keep (Weak.pick (p := [_, _, _]) (Weak.pick (p := [_, _, _]) (Weak.pick (p := [_, _, _]) (Weak.pick (p := [_, _, _]) (Weak.keep (Weak.keep (Weak.keep (Weak.nil _))))))))) ?_
  refine R_seq ?_
  refine R_region ?_
  refine L_val rfl rfl rfl (OpP.v (P_move rfl rfl)) ?_
  refine L_val rfl rfl rfl (OpP.v (P_move rfl rfl)) ?_
  refine L_val rfl rfl rfl (OpP.v (P_nil rfl rfl)) ?_
  refine L_val rfl rfl rfl (OpP.v (P_fld0 rfl ty_fl_59_0 rfl)) ?_
  first | (refine L_val rfl rfl rfl (OpP.v (P_ixa0 (1) rfl ty_ar_53 rfl rfl (by first | rfl | omega) (by omega))) ?_) | (refine L_val rfl rfl rfl (OpP.v (P_ixa (1) rfl ty_ar_53 rfl rfl (by first | rfl | omega) (by omega))) ?_)
  refine L_val rfl rfl rfl (V_load rfl rfl ty_sc_25 (Rd.blk .h0 rfl)) ?_
  refine L_val rfl rfl rfl (OpP.v (P_move rfl rfl)) ?_
  refine L_op rfl (W_call rfl rfl rfl rfl fn_ca_16 (enter_new p1 sg1 (rcOf 1 bk) a ha hin) (Split.one (p := [_])) (fun _ _ _ _ _ _ _ => trivial) fun v17 rs1 ⟨s, e1, e2⟩ => ?_)
  subst e1; subst e2
  refine St.res (rs' := [blk w [.pointer (some ⟨p0, 0, none⟩), .pointer (some ⟨p1, 0, none⟩), .slice sb0 sg0.length sc0, .slice sb1 sg1.length sc1, .slice ab0 sg0.length ac0, .slice ab1 sg1.length ac1, .slice bb bk.length bc, .bool false] 59, REG p1 (sg1 ++ [(a, s)]) (rcOf 1 bk), ownS 27 1 (.slice sb1 sg1.length sc1) (sg1).length (ptrs (sg1)), ownS 23 1 (.slice ab1 sg1.length ac1) (sg1).length (ints .u64 (enOf (sg1))), ownS 64 19 (.slice bb bk.length bc) (bk).length (bkC (bk)), REG p0 (sg0) (rcOf 0 bk), ownS 27 1 (.slice sb0 sg0.length sc0) (sg0).length (ptrs (sg0)), ownS 23 1 (.slice ab0 sg0.length ac0) (sg0).length (ints .u64 (enOf (sg0)))]) (Weak.p1 (Weak.refl _)) ?_
  refine L_val rfl rfl rfl (OpP.v (P_move rfl rfl)) ?_
  refine L_val rfl rfl rfl (OpP.v (P_extract rfl rfl rfl)) ?_
  refine L_val rfl rfl rfl (OpP.v (P_extract rfl rfl rfl)) ?_
  refine L_val rfl rfl rfl (OpP.v (P_assign rfl rfl)) ?_
  refine L_val rfl rfl rfl (OpP.v (P_assign rfl rfl)) ?_
  refine L_nil ?_
  refine St.env (.cons (t := 0) rfl (.cons (t := 1) rfl (.cons (t := 2) rfl (.cons (t := 6) rfl (.cons (t := 7) rfl .nil))))) ?_
  refine Q_then ?_
  refine R_seq ?_
  refine R_region ?_
  refine L_val rfl rfl rfl (OpP.v (P_assign rfl rfl)) ?_
  refine L_nil ?_
  refine Q_then ?_
  refine R_seq ?_
  refine R_seq ?_
  refine R_region ?_
  refine L_val rfl rfl rfl (OpP.v (P_move rfl rfl)) ?_
  refine L_val rfl rfl rfl (OpP.v (P_eql rfl rfl rfl)) ?_
  refine E_false (t := 21) rfl (decide_eq_false ha) ?_
  refine L_nil ?_
  refine St.env (.cons (t := 0) rfl (.cons (t := 1) rfl (.cons (t := 2) rfl (.cons (t := 6) rfl (.cons (t := 7) rfl (.cons (t := 8) rfl (.cons (t := 21) rfl .nil))))))) ?_
  refine Q_then ?_
  refine R_condF rfl ?_
  refine R_seq ?_
  refine R_region ?_
  refine L_val rfl rfl rfl (OpP.v (P_move rfl rfl)) ?_
  refine L_val rfl rfl rfl (OpP.v (P_move rfl rfl)) ?_
  refine L_val rfl rfl rfl (OpP.v (P_move rfl rfl)) ?_
  refine L_op rfl (W_callR rfl rfl rfl rfl fn_ca_60 (entered_ok1 w _ _ _ _ _ _ _ ab1 ac1 sg1 (by omega) a) (Weak.keep (Weak.pick (p := [_, _]) (Weak.keep (Weak.keep (Weak.keep (Weak.keep (Weak.keep (Weak.keep (Weak.nil _))))))))) (fun _ _ _ _ _ _ _ => trivial) ?_)
  refine St.res (rs' := [blk w [.pointer (some ⟨p0, 0, none⟩), .pointer (some ⟨p1, 0, none⟩), .slice sb0 sg0.length sc0, .slice sb1 sg1.length sc1, .slice ab0 sg0.length ac0, .slice ab1 sg1.length ac1, .slice bb bk.length bc, .bool false] 59, REG p1 (sg1 ++ [(a, s)]) (rcOf 1 bk), ownS 27 1 (.slice sb1 sg1.length sc1) (sg1).length (ptrs (sg1)), ownS 23 1 (.slice ab1 sg1.length ac1) (sg1).length (ints .u64 (enOf (sg1))), ownS 64 19 (.slice bb bk.length bc) (bk).length (bkC (bk)), REG p0 (sg0) (rcOf 0 bk), ownS 27 1 (.slice sb0 sg0.length sc0) (sg0).length (ptrs (sg0)), ownS 23 1 (.slice ab0 sg0.length ac0) (sg0).length (ints .u64 (enOf (sg0)))]) (Weak.keep (Weak.pick (p := [_]) (Weak.pick (p := [_]) (Weak.keep (Weak.keep (Weak.keep (Weak.keep (Weak.keep (Weak.nil _))))))))) ?_
  refine E_false (t := 25) rfl (decide_eq_false (fun h => by rw [(isIn_iff _ _).2 h] at hin; cases hin)) ?_
  refine L_nil ?_
  refine St.env (.cons (t := 0) rfl (.cons (t := 1) rfl (.cons (t := 2) rfl (.cons (t := 6) rfl (.cons (t := 7) rfl (.cons (t := 8) rfl (.cons (t := 25) rfl .nil))))))) ?_
  refine Q_then ?_
  refine R_condF rfl ?_
  refine R_skip ?_
  refine Q_then ?_
  refine R_seq ?_
  refine R_seq ?_
  refine R_region ?_
  refine L_val rfl rfl rfl (OpP.v (P_move rfl rfl)) ?_
  refine L_op rfl (W_callV rfl rfl rfl rfl fn_ca_17 (num_ok 0) (fun _ _ => trivial) ?_)
  refine L_val rfl rfl rfl (OpP.v (P_move rfl rfl)) ?_
  refine L_val rfl rfl rfl (OpP.v (P_neq rfl rfl rfl)) ?_
  refine E_false (t := 29) rfl (rfl) ?_
  refine L_val rfl rfl rfl (OpP.v (P_move rfl rfl)) ?_
  refine L_val rfl rfl rfl (OpP.v (P_move rfl rfl)) ?_
  refine L_val rfl rfl rfl (OpP.v (P_eqNil rfl ty_ptr_27 rfl rfl)) ?_
  refine L_val rfl rfl rfl (OpP.v (P_move rfl rfl)) ?_
  refine L_val rfl rfl rfl (OpP.v (P_neq rfl rfl rfl)) ?_
  refine E_false (t := 34) rfl (rfl) ?_
  refine L_val rfl rfl rfl (OpP.v (P_neq_bool rfl ty_bool_4 rfl rfl)) ?_
  refine E_false (t := 35) rfl (rfl) ?_
  refine L_val rfl rfl rfl (OpP.v (P_pick rfl rfl rfl)) ?_
  refine L_nil ?_
  refine St.env (.cons (t := 0) rfl (.cons (t := 1) rfl (.cons (t := 2) rfl (.cons (t := 6) rfl (.cons (t := 8) rfl (.cons (t := 36) rfl .nil)))))) ?_
  refine Q_then ?_
  refine R_condF rfl ?_
  refine R_skip ?_
  refine Q_then ?_
  refine R_seq ?_
  refine R_region ?_
  refine L_val rfl rfl rfl (OpP.v (P_move rfl rfl)) ?_
  refine L_val rfl rfl rfl (OpP.v (P_eql rfl rfl rfl)) ?_
  refine E_true (t := 41) rfl (rfl) ?_
  refine L_nil ?_
  refine St.env (.cons (t := 0) rfl (.cons (t := 1) rfl (.cons (t := 2) rfl (.cons (t := 6) rfl (.cons (t := 41) rfl .nil))))) ?_
  refine Q_then ?_
  refine R_condT rfl ?_
  refine R_seq ?_
  refine R_open [(0, 0), (1, 0), (2, 0), (3, 0), (4, 0), (5, 0), (6, 0), (7, 1), (8, 0), (11, 0), (12, 0), (9, 2), (10, 3), (13, 0), (14, 3)] mixed (by kernel_rfl) (QOk.then QOk.body) ?_
  refine O_pure rfl rfl rfl rfl (P_move rfl rfl) ?_
  refine O_pure rfl rfl rfl rfl (P_move rfl rfl) ?_
  refine O_pure rfl rfl rfl rfl (P_move rfl rfl) ?_
  refine O_pure rfl rfl rfl rfl (P_move rfl rfl) ?_
  refine O_pure rfl rfl rfl rfl (P_nil rfl rfl) ?_
  refine O_pure rfl rfl rfl rfl (P_fld0 rfl ty_fl_59_1 rfl) ?_
  first | (refine O_pure rfl rfl rfl rfl (P_ixa0 (1) rfl ty_ar_55 rfl rfl (by first | rfl | omega) (by omega)) ?_) | (refine O_pure rfl rfl rfl rfl (P_ixa (1) rfl ty_ar_55 rfl rfl (by first | rfl | omega) (by omega)) ?_)
  refine O_val rfl rfl rfl rfl (V_load rfl rfl ty_sc_54 (Rd.blk .h0 rfl)) ?_
  refine O_pure rfl rfl rfl rfl (P_move rfl rfl) ?_
  refine O_pure rfl rfl rfl rfl (P_nil rfl rfl) ?_
  refine O_pure rfl rfl rfl rfl (P_fld0 rfl ty_fl_59_1 rfl) ?_
  refine O_keep rfl rfl (W_lit (z := .nilIface) ([.pointer (some ⟨s, 0, none⟩)]) rfl rfl rfl ty_sl_54 ty_lz_54 rfl rfl rfl (by decide) (by decide) (by simp [Value.cells]) (rfl) fun b51 => (K_keep (Weak.drop (Weak.refl _)) ?_))
  refine O_new rfl rfl (W_append (p := [_, _, _]) rfl rfl rfl ty_sl_54 ty_ap_54 ty_src_54 rfl rfl rfl (Src.slice (sz := 1) (news := [.pointer (some ⟨s, 0, none⟩)]) (Rds.blk .h0) rfl (by intro v hv; simp only [List.mem_singleton] at hv; subst hv; rfl)) (by omega) (by simp only [maxLen]; omega) fun v52 => (K_new ?_))
  refine St.ownForm (p := [_, _, _]) fun nb nc hnb_ hnc => ?_
  subst hnb_
  first | (refine O_pure rfl rfl rfl rfl (P_ixa0 (1) rfl ty_ar_55 rfl rfl (by first | rfl | omega) (by omega)) ?_) | (refine O_pure rfl rfl rfl rfl (P_ixa (1) rfl ty_ar_55 rfl rfl (by first | rfl | omega) (by omega)) ?_)
  refine O_new rfl rfl (W_store rfl rfl rfl rfl ty_sc_54 rfl .h1 (by first | decide | (simp [ints]; done) | (simp [ints]; omega)) (K_new ?_))
  refine O_nil ?_
  refine St.env (.cons (t := 0) rfl (.cons (t := 1) rfl (.cons (t := 2) rfl .nil))) ?_
  refine Q_then ?_
  refine St.res (rs' := [blk w [.pointer (some ⟨p0, 0, none⟩), .pointer (some ⟨p1, 0, none⟩), .slice sb0 sg0.length sc0, .slice nb (sg1.length + 1) nc, .slice ab0 sg0.length ac0, .slice ab1 sg1.length ac1, .slice bb bk.length bc, .bool false] 59, REG p1 (sg1 ++ [(a, s)]) (rcOf 1 bk), ownS 27 1 (.slice nb (sg1.length + 1) nc) (sg1 ++ [(a, s)]).length (ptrs (sg1 ++ [(a, s)])), ownS 23 1 (.slice ab1 sg1.length ac1) (sg1).length (ints .u64 (enOf (sg1))), ownS 64 19 (.slice bb bk.length bc) (bk).length (bkC (bk)), REG p0 (sg0) (rcOf 0 bk), ownS 27 1 (.slice sb0 sg0.length sc0) (sg0).length (ptrs (sg0)), ownS 23 1 (.slice ab0 sg0.length ac0) (sg0).length (ints .u64 (enOf (sg0)))]) (by have e : (sg1 ++ [(a, s)]).length = sg1.length + 1 := (by simp); rw [ptrs_snoc sg1 a s, e]; exact Weak.drop (Weak.refl _)) ?_
  refine R_open [(0, 0), (1, 0), (2, 0), (3, 0), (4, 0), (5, 0), (6, 0), (7, 1), (8, 0), (11, 0), (12, 0), (9, 2), (10, 3), (13, 0), (14, 3)] mixed (by kernel_rfl) QOk.body ?_
  refine O_pure rfl rfl rfl rfl (P_move rfl rfl) ?_
  refine O_pure rfl rfl rfl rfl (P_move rfl rfl) ?_
  refine O_pure rfl rfl rfl rfl (P_move rfl rfl) ?_
  refine O_pure rfl rfl rfl rfl (P_move rfl rfl) ?_
  refine O_pure rfl rfl rfl rfl (P_nil rfl rfl) ?_
  refine O_pure rfl rfl rfl rfl (P_fld0 rfl ty_fl_59_2 rfl) ?_
  first | (refine O_pure rfl rfl rfl rfl (P_ixa0 (1) rfl ty_ar_56 rfl rfl (by first | rfl | omega) (by omega)) ?_) | (refine O_pure rfl rfl rfl rfl (P_ixa (1) rfl ty_ar_56 rfl rfl (by first | rfl | omega) (by omega)) ?_)
  refine O_val rfl rfl rfl rfl (V_load rfl rfl ty_sc_52 (Rd.blk .h0 rfl)) ?_
  refine O_pure rfl rfl rfl rfl (P_move rfl rfl) ?_
  refine O_pure rfl rfl rfl rfl (P_nil rfl rfl) ?_
  refine O_pure rfl rfl rfl rfl (P_fld0 rfl ty_fl_59_2 rfl) ?_
  refine O_keep rfl rfl (W_lit (z := .nilIface) (ints .u64 [a]) rfl rfl rfl ty_sl_52 ty_lz_52 rfl rfl rfl (by decide) (by decide) (by simp [Value.cells]) (rfl) fun b65 => (K_keep (Weak.drop (Weak.refl _)) ?_))
  refine O_new rfl rfl (W_append (p := [_, _, _, _]) rfl rfl rfl ty_sl_52 ty_ap_52 ty_src_52 rfl rfl rfl (Src.slice (sz := 1) (news := ints .u64 [a]) (Rds.blk .h0) rfl ints_one) (by omega) (by simp only [maxLen]; omega) fun v66 => (K_new ?_))
  refine St.ownForm (p := [_, _, _, _]) fun mb mc hmb_ hmc => ?_
  subst hmb_
  first | (refine O_pure rfl rfl rfl rfl (P_ixa0 (1) rfl ty_ar_56 rfl rfl (by first | rfl | omega) (by omega)) ?_) | (refine O_pure rfl rfl rfl rfl (P_ixa (1) rfl ty_ar_56 rfl rfl (by first | rfl | omega) (by omega)) ?_)
  refine O_new rfl rfl (W_store rfl rfl rfl rfl ty_sc_52 rfl .h1 (by first | decide | (simp [ints]; done) | (simp [ints]; omega)) (K_new ?_))
  refine O_nil ?_
  refine St.env (.nil) ?_
  refine St.res (rs' := [blk w [.pointer (some ⟨p0, 0, none⟩), .pointer (some ⟨p1, 0, none⟩), .slice sb0 sg0.length sc0, .slice nb (sg1.length + 1) nc, .slice ab0 sg0.length ac0, .slice mb (sg1.length + 1) mc, .slice bb bk.length bc, .bool false] 59, REG p1 (sg1 ++ [(a, s)]) (rcOf 1 bk), ownS 27 1 (.slice nb (sg1.length + 1) nc) (sg1 ++ [(a, s)]).length (ptrs (sg1 ++ [(a, s)])), ownS 23 1 (.slice mb (sg1.length + 1) mc) (sg1 ++ [(a, s)]).length (ints .u64 (enOf (sg1 ++ [(a, s)]))), ownS 64 19 (.slice bb bk.length bc) (bk).length (bkC (bk)), REG p0 (sg0) (rcOf 0 bk), ownS 27 1 (.slice sb0 sg0.length sc0) (sg0).length (ptrs (sg0)), ownS 23 1 (.slice ab0 sg0.length ac0) (sg0).length (ints .u64 (enOf (sg0)))]) (by have e : (sg1 ++ [(a, s)]).length = sg1.length + 1 := (by simp); rw [ints_append, ← enOf_snoc sg1 a s]; rw [e]; exact Weak.drop (Weak.refl _)) ?_
  exact R_end0 (rs2 := [SIGHT w (enOf sg0) (eAdd (enOf sg1) a) bk]) rfl rfl (.nil) (⟨rfl, rfl⟩) (by rw [show eAdd (enOf sg1) a = enOf (sg1 ++ [(a, s)]) by rw [enOf_snoc]; exact if_neg (fun h => h.elim ha fun h => by rw [(isIn_iff _ _).2 h] at hin; cases hin)]; exact (Weak.refl _).trans ((Weak.keep (Weak.pick (p := [_, _, _, _]) (Weak.pick (p := [_, _, _, _]) (Weak.pick (p := [_, _, _, _]) (Weak.keep (Weak.keep (Weak.keep (Weak.keep (Weak.nil _))))))))).trans (sight_close (rs := []) ⟨p0, p1, sg0, sg1 ++ [(a, s)], .slice sb0 sg0.length sc0, .slice nb (sg1.length + 1) nc, .slice ab0 sg0.length ac0, .slice mb (sg1.length + 1) mc, .slice bb bk.length bc⟩)))
theorem sEnter_ok1 {gl : Nat → Obj} (w : Nat) (e0 e1 : List Int) (bk : List Wrt) (hbk : BkOK bk) (h0 : e0.length ≤ 1599289640354) (h1 : e1.length ≤ 1599289640354) (hbl : bk.length ≤ 1599289640354) (a : Int) : SpecR (cx gl) 44 [.pointer (some ⟨w, 0, none⟩), .int .i64 1, .int .u64 a] (fun _ _ => True) [SIGHT w e0 e1 bk] (.tuple #[]) [SIGHT w e0 (eAdd e1 a) bk] := Spec.openEx fun ⟨p0, p1, sg0, sg1, S0, S1, A0, A1, B⟩ hok => by
  obtain ⟨hx0, hx1⟩ := hok
  dsimp only at hx0 hx1
  subst hx0; subst hx1
  rw [enOf_length] at h0 h1
  by_cases ha : a = 0
  · exact enter_zero_s1 w p0 p1 sg0 sg1 S0 S1 A0 A1 B bk hbk h0 h1 hbl a ha
  · cases hin : isIn sg1 a with
    | true => exact enter_twice_s1 w p0 p1 sg0 sg1 S0 S1 A0 A1 B bk hbk h0 h1 hbl a ha hin
    | false => exact enter_new_s1 w p0 p1 sg0 sg1 S0 S1 A0 A1 B bk hbk h0 h1 hbl a ha hin
theorem sign_none_s1 {gl : Nat → Obj} (hG : Globs gl) (w : Nat) (p0 p1 : Nat) (sg0 sg1 : List (Int × Nat)) (S0 S1 A0 A1 B : Value) (bk : List Wrt) (hbk : BkOK bk) (hs0 : sg0.length ≤ 1599289640354) (hs1 : sg1.length ≤ 1599289640354) (hbl : bk.length ≤ 1599289640354) (at_ : Int) (base : Option Addr) (c : Nat) (m : List Int) (hmb : IsB m) (hml : m.length ≤ 140737488351300) (hz : sg1.length = 0) : SpecR (cx gl) 45 [.pointer (some ⟨w, 0, none⟩), .int .i64 1, .int .i64 at_, .slice base m.length c] (fun w h => Seen w h base (ints .u8 m)) [blk w [.pointer (some ⟨p0, 0, none⟩), .pointer (some ⟨p1, 0, none⟩), S0, S1, A0, A1, B, .bool false] 59, REG p0 (sg0) (rcOf 0 bk), ownS 27 1 (S0) (sg0).length (ptrs (sg0)), ownS 23 1 (A0) (sg0).length (ints .u64 (enOf (sg0))), REG p1 (sg1) (rcOf 1 bk), ownS 27 1 (S1) (sg1).length (ptrs (sg1)), ownS 23 1 (A1) (sg1).length (ints .u64 (enOf (sg1))), ownS 64 19 (B) (bk).length (bkC (bk))] (.tuple #[]) [SIGHT w (enOf sg0) (enOf sg1) (signB 1 (enOf sg1) at_ m bk)] := by
  refine Spec.enter (C := cx gl) Tryd.func45 rfl 109 rfl rfl fun w0 h0 hsep hsub hpre => ?_
  show St (cx gl) _ [(0, .pointer (some ⟨w, 0, none⟩)), (1, .int .i64 1), (2, .int .i64 at_), (3, .slice base m.length c)] _ _
  refine St.ownForm (p := [_, _]) fun sb0 sc0 hsb0_ hsc0 => ?_
  subst hsb0_
  refine St.ownForm (p := [_, _, _]) fun ab0 ac0 hab0_ hac0 => ?_
  subst hab0_
  refine St.ownForm (p := [_, _, _, _, _]) fun sb1 sc1 hsb1_ hsc1 => ?_
  subst hsb1_
  refine St.ownForm (p := [_, _, _, _, _, _]) fun ab1 ac1 hab1_ hac1 => ?_
  subst hab1_
  refine St.ownForm (p := [_, _, _, _, _, _, _]) fun bb bc hbb_ hbc => ?_
  subst hbb_
  refine St.res (rs' := [blk w [.pointer (some ⟨p0, 0, none⟩), .pointer (some ⟨p1, 0, none⟩), .slice sb0 sg0.length sc0, .slice sb1 sg1.length sc1, .slice ab0 sg0.length ac0, .slice ab1 sg1.length ac1, .slice bb bk.length bc, .bool false] 59, REG p0 (sg0) (rcOf 0 bk), ownS 27 1 (.slice sb0 sg0.length sc0) (sg0).length (ptrs (sg0)), ownS 23 1 (.slice ab0 sg0.length ac0) (sg0).length (ints .u64 (enOf (sg0))), REG p1 (sg1) (rcOf 1 bk), ownS 27 1 (.slice sb1 sg1.length sc1) (sg1).length (ptrs (sg1)), ownS 23 1 (.slice ab1 sg1.length ac1) (sg1).length (ints .u64 (enOf (sg1))), ownS 64 19 (.slice bb bk.length bc) (bk).length (bkC (bk))]) (Weak.refl _) ?_
  refine St.res (rs' := [blk w [.pointer (some ⟨p0, 0, none⟩), .pointer (some ⟨p1, 0, none⟩), .slice sb0 sg0.length sc0, .slice sb1 sg1.length sc1, .slice ab0 sg0.length ac0, .slice ab1 sg1.length ac1, .slice bb bk.length bc, .bool false] 59, REG p1 (sg1) (rcOf 1 bk), ownS 27 1 (.slice sb1 sg1.length sc1) (sg1).length (ptrs (sg1)), ownS 23 1 (.slice ab1 sg1.length ac1) (sg1).length (ints .u64 (enOf (sg1))), ownS 64 19 (.slice bb bk.length bc) (bk).length (bkC (bk)), REG p0 (sg0) (rcOf 0 bk), ownS 27 1 (.slice sb0 sg0.length sc0) (sg0).length (ptrs (sg0)), ownS 23 1 (.slice ab0 sg0.length ac0) (sg0).length (ints .u64 (enOf (sg0)))]) (Weak.keep (Weak.pick (p := [_, _, _]) (Weak.pick (p := [_, _, _]) (Weak.pick (p := [_, _, _]) (Weak.pick (p := [_, _, _]) (Weak.keep (Weak.keep (Weak.keep (Weak.nil _))))))))) ?_
  refine R_seq ?_
  refine R_seq ?_
  refine R_region ?_
  refine L_val rfl rfl rfl (OpP.v (P_move rfl rfl)) ?_
  refine L_val rfl rfl rfl (OpP.v (P_move rfl rfl)) ?_
  refine L_val rfl rfl rfl (OpP.v (P_nil rfl rfl)) ?_
  refine L_val rfl rfl rfl (OpP.v (P_fld0 rfl ty_fl_59_1 rfl)) ?_
  first | (refine L_val rfl rfl rfl (OpP.v (P_ixa0 (1) rfl ty_ar_55 rfl rfl (by first | rfl | omega) (by omega))) ?_) | (refine L_val rfl rfl rfl (OpP.v (P_ixa (1) rfl ty_ar_55 rfl rfl (by first | rfl | omega) (by omega))) ?_)
  refine L_val rfl rfl rfl (V_load rfl rfl ty_sc_54 (Rd.blk .h0 rfl)) ?_
  refine L_val rfl rfl rfl (OpP.v (P_len rfl ty_sl_54 rfl)) ?_
  refine L_val rfl rfl rfl (OpP.v (P_eql rfl rfl rfl)) ?_
  refine E_true (t := 19) rfl (decide_eq_true (by omega)) ?_
  refine L_val rfl rfl rfl (OpP.v (P_move rfl rfl)) ?_
  refine L_no rfl rfl rfl ?_
  refine L_no rfl rfl rfl ?_
  refine L_no rfl rfl rfl ?_
  refine L_val rfl rfl rfl (OpP.v (P_pick rfl rfl rfl)) ?_
  refine L_nil ?_
  refine St.env (.cons (t := 0) rfl (.cons (t := 1) rfl (.cons (t := 2) rfl (.cons (t := 3) rfl (.cons (t := 24) rfl .nil))))) ?_
  refine Q_then ?_
  refine R_condT rfl ?_
  refine R_ret ?_
  refine Q_then_ret ?_
  exact R_end (rs2 := [SIGHT w (enOf sg0) (enOf sg1) (signB 1 (enOf sg1) at_ m bk)]) rfl rfl (.nil) (⟨rfl, rfl⟩) (by rw [show signB 1 (enOf sg1) at_ m bk = bk from if_pos (.inl (by rw [enOf_length]; exact hz))]; exact (Weak.refl _).trans ((Weak.keep (Weak.pick (p := [_, _, _, _]) (Weak.pick (p := [_, _, _, _]) (Weak.pick (p := [_, _, _, _]) (Weak.keep (Weak.keep (Weak.keep (Weak.keep (Weak.nil _))))))))).trans (sight_close (rs := []) ⟨p0, p1, sg0, sg1, .slice sb0 sg0.length sc0, .slice sb1 sg1.length sc1, .slice ab0 sg0.length ac0, .slice ab1 sg1.length ac1, .slice bb bk.length bc⟩)))
theorem sign_big_s1 {gl : Nat → Obj} (hG : Globs gl) (w : Nat) (p0 p1 : Nat) (sg0 sg1 : List (Int × Nat)) (S0 S1 A0 A1 B : Value) (bk : List Wrt) (hbk : BkOK bk) (hs0 : sg0.length ≤ 1599289640354) (hs1 : sg1.length ≤ 1599289640354) (hbl : bk.length ≤ 1599289640354) (at_ : Int) (base : Option Addr) (c : Nat) (m : List Int) (hmb : IsB m) (hml : m.length ≤ 140737488351300) (hz : 0 < sg1.length) (hbg : 1048576 < m.length) : SpecR (cx gl) 45 [.pointer (some ⟨w, 0, none⟩), .int .i64 1, .int .i64 at_, .slice base m.length c] (fun w h => Seen w h base (ints .u8 m)) [blk w [.pointer (some ⟨p0, 0, none⟩), .pointer (some ⟨p1, 0, none⟩), S0, S1, A0, A1, B, .bool false] 59, REG p0 (sg0) (rcOf 0 bk), ownS 27 1 (S0) (sg0).length (ptrs (sg0)), ownS 23 1 (A0) (sg0).length (ints .u64 (enOf (sg0))), REG p1 (sg1) (rcOf 1 bk), ownS 27 1 (S1) (sg1).length (ptrs (sg1)), ownS 23 1 (A1) (sg1).length (ints .u64 (enOf (sg1))), ownS 64 19 (B) (bk).length (bkC (bk))] (.tuple #[]) [SIGHT w (enOf sg0) (enOf sg1) (signB 1 (enOf sg1) at_ m bk)] := by
  refine Spec.enter (C := cx gl) Tryd.func45 rfl 109 rfl rfl fun w0 h0 hsep hsub hpre => ?_
  show St (cx gl) _ [(0, .pointer (some ⟨w, 0, none⟩)), (1, .int .i64 1), (2, .int .i64 at_), (3, .slice base m.length c)] _ _
  refine St.ownForm (p := [_, _]) fun sb0 sc0 hsb0_ hsc0 => ?_
  subst hsb0_
  refine St.ownForm (p := [_, _, _]) fun ab0 ac0 hab0_ hac0 => ?_
  subst hab0_
  refine St.ownForm (p := [_, _, _, _, _]) fun sb1 sc1 hsb1_ hsc1 => ?_
  subst hsb1_
  refine St.ownForm (p := [_, _, _, _, _, _]) fun ab1 ac1 hab1_ hac1 => ?_
  subst hab1_
  refine St.ownForm (p := [_, _, _, _, _, _, _]) fun bb bc hbb_ hbc => ?_
  subst hbb_
  refine St.res (rs' := [blk w [.pointer (some ⟨p0, 0, none⟩), .pointer (some ⟨p1, 0, none⟩), .slice sb0 sg0.length sc0, .slice sb1 sg1.length sc1, .slice ab0 sg0.length ac0, .slice ab1 sg1.length ac1, .slice bb bk.length bc, .bool false] 59, REG p0 (sg0) (rcOf 0 bk), ownS 27 1 (.slice sb0 sg0.length sc0) (sg0).length (ptrs (sg0)), ownS 23 1 (.slice ab0 sg0.length ac0) (sg0).length (ints .u64 (enOf (sg0))), REG p1 (sg1) (rcOf 1 bk), ownS 27 1 (.slice sb1 sg1.length sc1) (sg1).length (ptrs (sg1)), ownS 23 1 (.slice ab1 sg1.length ac1) (sg1).length (ints .u64 (enOf (sg1))), ownS 64 19 (.slice bb bk.length bc) (bk).length (bkC (bk))]) (Weak.refl _) ?_
  refine St.res (rs' := [blk w [.pointer (some ⟨p0, 0, none⟩), .pointer (some ⟨p1, 0, none⟩), .slice sb0 sg0.length sc0, .slice sb1 sg1.length sc1, .slice ab0 sg0.length ac0, .slice ab1 sg1.length ac1, .slice bb bk.length bc, .bool false] 59, REG p1 (sg1) (rcOf 1 bk), ownS 27 1 (.slice sb1 sg1.length sc1) (sg1).length (ptrs (sg1)), ownS 23 1 (.slice ab1 sg1.length ac1) (sg1).length (ints .u64 (enOf (sg1))), ownS 64 19 (.slice bb bk.length bc) (bk).length (bkC (bk)), REG p0 (sg0) (rcOf 0 bk), ownS 27 1 (.slice sb0 sg0.length sc0) (sg0).length (ptrs (sg0)), ownS 23 1 (.slice ab0 sg0.length ac0) (sg0).length (ints .u64 (enOf (sg0)))]) (Weak.keep (Weak.pick (p := [_, _, _]) (Weak.pick (p := [_, _, _]) (Weak.pick (p := [_, _, _]) (Weak.pick (p := [_, _, _]) (Weak.keep (Weak.keep (Weak.keep (Weak.nil _))))))))) ?_
  refine R_seq ?_
  refine R_seq ?_
  refine R_region ?_
  refine L_val rfl rfl rfl (OpP.v (P_move rfl rfl)) ?_
  refine L_val rfl rfl rfl (OpP.v (P_move rfl rfl)) ?_
  refine L_val rfl rfl rfl (OpP.v (P_nil rfl rfl)) ?_
  refine L_val rfl rfl rfl (OpP.v (P_fld0 rfl ty_fl_59_1 rfl)) ?_
  first | (refine L_val rfl rfl rfl (OpP.v (P_ixa0 (1) rfl ty_ar_55 rfl rfl (by first | rfl | omega) (by omega))) ?_) | (refine L_val rfl rfl rfl (OpP.v (P_ixa (1) rfl ty_ar_55 rfl rfl (by first | rfl | omega) (by omega))) ?_)
  refine L_val rfl rfl rfl (V_load rfl rfl ty_sc_54 (Rd.blk .h0 rfl)) ?_
  refine L_val rfl rfl rfl (OpP.v (P_len rfl ty_sl_54 rfl)) ?_
  refine L_val rfl rfl rfl (OpP.v (P_eql rfl rfl rfl)) ?_
  refine E_false (t := 19) rfl (decide_eq_false (by omega)) ?_
  refine L_val rfl rfl rfl (OpP.v (P_move rfl rfl)) ?_
  refine L_val rfl rfl rfl (OpP.v (P_move rfl rfl)) ?_
  refine L_val rfl rfl rfl (OpP.v (P_len rfl ty_sl_24 rfl)) ?_
  refine L_val rfl rfl rfl (OpP.v (P_gtr rfl rfl rfl)) ?_
  refine E_true (t := 23) rfl (decide_eq_true (by omega)) ?_
  refine L_val rfl rfl rfl (OpP.v (P_pick rfl rfl rfl)) ?_
  refine L_nil ?_
  refine St.env (.cons (t := 0) rfl (.cons (t := 1) rfl (.cons (t := 2) rfl (.cons (t := 3) rfl (.cons (t := 24) rfl .nil))))) ?_
  refine Q_then ?_
  refine R_condT rfl ?_
  refine R_ret ?_
  refine Q_then_ret ?_
  exact R_end (rs2 := [SIGHT w (enOf sg0) (enOf sg1) (signB 1 (enOf sg1) at_ m bk)]) rfl rfl (.nil) (⟨rfl, rfl⟩) (by rw [show signB 1 (enOf sg1) at_ m bk = bk from if_pos (.inr hbg)]; exact (Weak.refl _).trans ((Weak.keep (Weak.pick (p := [_, _, _, _]) (Weak.pick (p := [_, _, _, _]) (Weak.pick (p := [_, _, _, _]) (Weak.keep (Weak.keep (Weak.keep (Weak.keep (Weak.nil _))))))))).trans (sight_close (rs := []) ⟨p0, p1, sg0, sg1, .slice sb0 sg0.length sc0, .slice sb1 sg1.length sc1, .slice ab0 sg0.length ac0, .slice ab1 sg1.length ac1, .slice bb bk.length bc⟩)))
theorem sign_old_s1 {gl : Nat → Obj} (hG : Globs gl) (w : Nat) (p0 p1 : Nat) (sg0 sg1 : List (Int × Nat)) (S0 S1 A0 A1 B : Value) (bk : List Wrt) (hbk : BkOK bk) (hs0 : sg0.length ≤ 1599289640354) (hs1 : sg1.length ≤ 1599289640354) (hbl : bk.length ≤ 1599289640354) (at_ : Int) (base : Option Addr) (c : Nat) (m : List Int) (hmb : IsB m) (hml : m.length ≤ 140737488351300) (hz : 0 < sg1.length) (hsm : m.length ≤ 1048576) (hin : ∀ ii a1 s, aroundI at_ (sg1.length : Int) = (ii : Nat) → sg1[ii]? = some (a1, s) → (1, a1, m) ∈ bk) : SpecR (cx gl) 45 [.pointer (some ⟨w, 0, none⟩), .int .i64 1, .int .i64 at_, .slice base m.length c] (fun w h => Seen w h base (ints .u8 m)) [blk w [.pointer (some ⟨p0, 0, none⟩), .pointer (some ⟨p1, 0, none⟩), S0, S1, A0, A1, B, .bool false] 59, REG p0 (sg0) (rcOf 0 bk), ownS 27 1 (S0) (sg0).length (ptrs (sg0)), ownS 23 1 (A0) (sg0).length (ints .u64 (enOf (sg0))), REG p1 (sg1) (rcOf 1 bk), ownS 27 1 (S1) (sg1).length (ptrs (sg1)), ownS 23 1 (A1) (sg1).length (ints .u64 (enOf (sg1))), ownS 64 19 (B) (bk).length (bkC (bk))] (.tuple #[]) [SIGHT w (enOf sg0) (enOf sg1) (signB 1 (enOf sg1) at_ m bk)] := by
  refine Spec.enter (C := cx gl) Tryd.func45 rfl 109 rfl rfl fun w0 h0 hsep hsub hpre => ?_
  show St (cx gl) _ [(0, .pointer (some ⟨w, 0, none⟩)), (1, .int .i64 1), (2, .int .i64 at_), (3, .slice base m.length c)] _ _
  refine St.ownForm (p := [_, _]) fun sb0 sc0 hsb0_ hsc0 => ?_
  subst hsb0_
  refine St.ownForm (p := [_, _, _]) fun ab0 ac0 hab0_ hac0 => ?_
  subst hab0_
  refine St.ownForm (p := [_, _, _, _, _]) fun sb1 sc1 hsb1_ hsc1 => ?_
  subst hsb1_
  refine St.ownForm (p := [_, _, _, _, _, _]) fun ab1 ac1 hab1_ hac1 => ?_
  subst hab1_
  refine St.ownForm (p := [_, _, _, _, _, _, _]) fun bb bc hbb_ hbc => ?_
  subst hbb_
  refine St.res (rs' := [blk w [.pointer (some ⟨p0, 0, none⟩), .pointer (some ⟨p1, 0, none⟩), .slice sb0 sg0.length sc0, .slice sb1 sg1.length sc1, .slice ab0 sg0.length ac0, .slice ab1 sg1.length ac1, .slice bb bk.length bc, .bool false] 59, REG p0 (sg0) (rcOf 0 bk), ownS 27 1 (.slice sb0 sg0.length sc0) (sg0).length (ptrs (sg0)), ownS 23 1 (.slice ab0 sg0.length ac0) (sg0).length (ints .u64 (enOf (sg0))), REG p1 (sg1) (rcOf 1 bk), ownS 27 1 (.slice sb1 sg1.length sc1) (sg1).length (ptrs (sg1)), ownS 23 1 (.slice ab1 sg1.length ac1) (sg1).length (ints .u64 (enOf (sg1))), ownS 64 19 (.slice bb bk.length bc) (bk).length (bkC (bk))]) (Weak.refl _) ?_
  refine St.res (rs' := [blk w [.pointer (some ⟨p0, 0, none⟩), .pointer (some ⟨p1, 0, none⟩), .slice sb0 sg0.length sc0, .slice sb1 sg1.length sc1, .slice ab0 sg0.length ac0, .slice ab1 sg1.length ac1, .slice bb bk.length bc, .bool false] 59, REG p1 (sg1) (rcOf 1 bk), ownS 27 1 (.slice sb1 sg1.length sc1) (sg1).length (ptrs (sg1)), ownS 23 1 (.slice ab1 sg1.length ac1) (sg1).length (ints .u64 (enOf (sg1))), ownS 64 19 (.slice bb bk.length bc) (bk).length (bkC (bk)), REG p0 (sg0) (rcOf 0 bk), ownS 27 1 (.slice sb0 sg0.length sc0) (sg0).length (ptrs (sg0)), ownS 23 1 (.slice ab0 sg0.length ac0) (sg0).length (ints .u64 (enOf (sg0)))]) (Weak.keep (Weak.pick (p := [_, _, _]) (Weak.pick (p := [_, _, _]) (Weak.pick (p := [_, _, _]) (Weak.pick (p := [_, _, _]) (Weak.keep (Weak.keep (Weak.keep (Weak.nil _))))))))) ?_
  refine St.ownSome (p := [_, _]) (by omega) fun sbb sbb_ hq _ => ?_
  simp only [Value.slice.injEq] at hq
  obtain ⟨rfl, _, rfl⟩ := hq
  refine St.ownSome (p := [_, _, _]) (by omega) fun abb abb_ hq _ => ?_
  simp only [Value.slice.injEq] at hq
  obtain ⟨rfl, _, rfl⟩ := hq
  refine St.res (rs' := [blk w [.pointer (some ⟨p0, 0, none⟩), .pointer (some ⟨p1, 0, none⟩), .slice sb0 sg0.length sc0, .slice (some ⟨sbb, 0, none⟩) sg1.length sc1, .slice ab0 sg0.length ac0, .slice (some ⟨abb, 0, none⟩) sg1.length ac1, .slice bb bk.length bc, .bool false] 59, REG p1 (sg1) (rcOf 1 bk), ownS 27 1 (.slice (some ⟨sbb, 0, none⟩) sg1.length sc1) (sg1).length (ptrs (sg1)), ownS 23 1 (.slice (some ⟨abb, 0, none⟩) sg1.length ac1) (sg1).length (ints .u64 (enOf (sg1))), ownS 64 19 (.slice bb bk.length bc) (bk).length (bkC (bk)), REG p0 (sg0) (rcOf 0 bk), ownS 27 1 (.slice sb0 sg0.length sc0) (sg0).length (ptrs (sg0)), ownS 23 1 (.slice ab0 sg0.length ac0) (sg0).length (ints .u64 (enOf (sg0)))]) (Weak.refl _) ?_
  obtain ⟨ii, hii⟩ : ∃ ii : Nat, aroundI at_ (sg1.length : Int) = ii := ⟨(aroundI at_ sg1.length).toNat, by have hbd := aroundI_bound (x := at_) (n := (sg1.length : Int)) (by omega); omega⟩
  have hil : ii < sg1.length := by have hbd := aroundI_bound (x := at_) (n := (sg1.length : Int)) (by omega); omega
  obtain ⟨⟨a1, s⟩, hs⟩ : ∃ y, sg1[ii]? = some y := ⟨_, List.getElem?_eq_getElem hil⟩
  have hsb : signB 1 (enOf sg1) at_ m bk = addB bk (1, a1, m) := by unfold signB; rw [if_neg (by rw [enOf_length]; omega), enOf_length, hii, Int.toNat_natCast, enOf_get hs]
  have hrl := rcOf_le 1 bk
  have hm0 : (1, a1, m) ∈ bk := hin ii a1 s hii hs
  obtain ⟨j, hj, hx⟩ := findB_mem hm0
  have hjl : j < bk.length := (List.getElem?_eq_some_iff.1 hx).1
  have hadd : addB bk (1, a1, m) = bk := if_pos hm0
  have har : addR (rcOf 1 bk) (a1, m) = rcOf 1 bk := if_pos (mem_rcOf.2 hm0)
  refine R_seq ?_
  refine R_seq ?_
  refine R_region ?_
  refine L_val rfl rfl rfl (OpP.v (P_move rfl rfl)) ?_
  refine L_val rfl rfl rfl (OpP.v (P_move rfl rfl)) ?_
  refine L_val rfl rfl rfl (OpP.v (P_nil rfl rfl)) ?_
  refine L_val rfl rfl rfl (OpP.v (P_fld0 rfl ty_fl_59_1 rfl)) ?_
  first | (refine L_val rfl rfl rfl (OpP.v (P_ixa0 (1) rfl ty_ar_55 rfl rfl (by first | rfl | omega) (by omega))) ?_) | (refine L_val rfl rfl rfl (OpP.v (P_ixa (1) rfl ty_ar_55 rfl rfl (by first | rfl | omega) (by omega))) ?_)
  refine L_val rfl rfl rfl (V_load rfl rfl ty_sc_54 (Rd.blk .h0 rfl)) ?_
  refine L_val rfl rfl rfl (OpP.v (P_len rfl ty_sl_54 rfl)) ?_
  refine L_val rfl rfl rfl (OpP.v (P_eql rfl rfl rfl)) ?_
  refine E_false (t := 19) rfl (decide_eq_false (by omega)) ?_
  refine L_val rfl rfl rfl (OpP.v (P_move rfl rfl)) ?_
  refine L_val rfl rfl rfl (OpP.v (P_move rfl rfl)) ?_
  refine L_val rfl rfl rfl (OpP.v (P_len rfl ty_sl_24 rfl)) ?_
  refine L_val rfl rfl rfl (OpP.v (P_gtr rfl rfl rfl)) ?_
  refine E_false (t := 23) rfl (decide_eq_false (by omega)) ?_
  refine L_val rfl rfl rfl (OpP.v (P_pick rfl rfl rfl)) ?_
  refine L_nil ?_
  refine St.env (.cons (t := 0) rfl (.cons (t := 1) rfl (.cons (t := 2) rfl (.cons (t := 3) rfl (.cons (t := 24) rfl .nil))))) ?_
  refine Q_then ?_
  refine R_condF rfl ?_
  refine R_skip ?_
  refine Q_then ?_
  refine R_seq ?_
  refine R_region ?_
  refine L_val rfl rfl rfl (OpP.v (P_move rfl rfl)) ?_
  refine L_val rfl rfl rfl (OpP.v (P_move rfl rfl)) ?_
  refine L_val rfl rfl rfl (OpP.v (P_move rfl rfl)) ?_
  refine L_val rfl rfl rfl (OpP.v (P_nil rfl rfl)) ?_
  refine L_val rfl rfl rfl (OpP.v (P_fld0 rfl ty_fl_59_1 rfl)) ?_
  first | (refine L_val rfl rfl rfl (OpP.v (P_ixa0 (1) rfl ty_ar_55 rfl rfl (by first | rfl | omega) (by omega))) ?_) | (refine L_val rfl rfl rfl (OpP.v (P_ixa (1) rfl ty_ar_55 rfl rfl (by first | rfl | omega) (by omega))) ?_)
  refine L_val rfl rfl rfl (V_load rfl rfl ty_sc_54 (Rd.blk .h0 rfl)) ?_
  refine L_val rfl rfl rfl (OpP.v (P_len rfl ty_sl_54 rfl)) ?_
  refine L_op rfl (W_callV rfl rfl rfl rfl fn_ca_26 (around_ok at_ (sg1.length : Int) (by omega) (by omega)) (fun _ _ => trivial) ?_)
  refine E_as (t := 33) (v' := .int .i64 (ii : Int)) rfl (by rw [hii]) ?_
  refine L_val rfl rfl rfl (OpP.v (P_assign rfl rfl)) ?_
  refine L_nil ?_
  refine St.env (.cons (t := 0) rfl (.cons (t := 1) rfl (.cons (t := 3) rfl (.cons (t := 8) rfl .nil)))) ?_
  refine Q_then ?_
  refine R_seq ?_
  refine R_region ?_
  refine L_val rfl rfl rfl (OpP.v (P_move rfl rfl)) ?_
  refine L_val rfl rfl rfl (OpP.v (P_move rfl rfl)) ?_
  refine L_val rfl rfl rfl (OpP.v (P_nil rfl rfl)) ?_
  refine L_val rfl rfl rfl (OpP.v (P_fld0 rfl ty_fl_59_1 rfl)) ?_
  first | (refine L_val rfl rfl rfl (OpP.v (P_ixa0 (1) rfl ty_ar_55 rfl rfl (by first | rfl | omega) (by omega))) ?_) | (refine L_val rfl rfl rfl (OpP.v (P_ixa (1) rfl ty_ar_55 rfl rfl (by first | rfl | omega) (by omega))) ?_)
  refine L_val rfl rfl rfl (V_load rfl rfl ty_sc_54 (Rd.blk .h0 rfl)) ?_
  refine L_val rfl rfl rfl (OpP.v (P_move rfl rfl)) ?_
  refine L_val rfl rfl rfl (OpP.v (P_ixs (ii) rfl ty_sl_54 rfl rfl (by first | rfl | omega) (by omega))) ?_
  refine L_val rfl rfl rfl (V_load rfl rfl ty_sc_27 (rd_own1 .h2 (ptrs_at hs))) ?_
  refine L_val rfl rfl rfl (OpP.v (P_move rfl rfl)) ?_
  refine L_op rfl (W_callR rfl rfl rfl rfl fn_ca_18 (sign_any hG p1 sg1 (rcOf 1 bk) ii a1 s hs base c m hmb hsm (by omega)) (Split.one (p := [_])) (Sn.pre (Sn.old hpre)) ?_)
  refine St.res (rs' := [blk w [.pointer (some ⟨p0, 0, none⟩), .pointer (some ⟨p1, 0, none⟩), .slice sb0 sg0.length sc0, .slice (some ⟨sbb, 0, none⟩) sg1.length sc1, .slice ab0 sg0.length ac0, .slice (some ⟨abb, 0, none⟩) sg1.length ac1, .slice bb bk.length bc, .bool false] 59, REG p1 (sg1) (addR (rcOf 1 bk) (a1, m)), ownS 27 1 (.slice (some ⟨sbb, 0, none⟩) sg1.length sc1) (sg1).length (ptrs (sg1)), ownS 23 1 (.slice (some ⟨abb, 0, none⟩) sg1.length ac1) (sg1).length (ints .u64 (enOf (sg1))), ownS 64 19 (.slice bb bk.length bc) (bk).length (bkC (bk)), REG p0 (sg0) (rcOf 0 bk), ownS 27 1 (.slice sb0 sg0.length sc0) (sg0).length (ptrs (sg0)), ownS 23 1 (.slice ab0 sg0.length ac0) (sg0).length (ints .u64 (enOf (sg0)))]) (Weak.p1 (Weak.refl _)) ?_
  refine L_val rfl rfl rfl (OpP.v (P_move rfl rfl)) ?_
  refine L_val rfl rfl rfl (OpP.v (P_extract rfl rfl rfl)) ?_
  refine L_val rfl rfl rfl (OpP.v (P_extract rfl rfl rfl)) ?_
  refine L_op rfl (W_alloc rfl rfl rfl ty_ze_33 fun b9 => ?_)
  refine L_op rfl (W_storeAll rfl rfl rfl rfl ty_ag_33 (by rw [ints_length, sealH_length]) (ints_one) .h0 (by rw [ints_length, sealH_length]; rfl) ?_)
  refine L_val rfl rfl rfl (OpP.v (P_assign rfl rfl)) ?_
  refine L_nil ?_
  refine St.env (.cons (t := 0) rfl (.cons (t := 1) rfl (.cons (t := 3) rfl (.cons (t := 8) rfl (.cons (t := 9) rfl (.cons (t := 10) rfl .nil)))))) ?_
  refine Q_then ?_
  refine R_seq ?_
  refine St.res (rs' := [blk w [.pointer (some ⟨p0, 0, none⟩), .pointer (some ⟨p1, 0, none⟩), .slice sb0 sg0.length sc0, .slice (some ⟨sbb, 0, none⟩) sg1.length sc1, .slice ab0 sg0.length ac0, .slice (some ⟨abb, 0, none⟩) sg1.length ac1, .slice bb bk.length bc, .bool false] 59, blk b9 (ints .u8 (sealH a1 m)) 33, REG p1 (sg1) (addR (rcOf 1 bk) (a1, m)), ownS 27 1 (.slice (some ⟨sbb, 0, none⟩) sg1.length sc1) (sg1).length (ptrs (sg1)), ownS 23 1 (.slice (some ⟨abb, 0, none⟩) sg1.length ac1) (sg1).length (ints .u64 (enOf (sg1))), ownS 64 19 (.slice bb bk.length bc) (bk).length (bkC (bk)), REG p0 (sg0) (rcOf 0 bk), ownS 27 1 (.slice sb0 sg0.length sc0) (sg0).length (ptrs (sg0)), ownS 23 1 (.slice ab0 sg0.length ac0) (sg0).length (ints .u64 (enOf (sg0)))]) (Weak.swap) ?_
  refine R_open [(0, 0), (1, 0), (2, 0), (3, 0), (4, 0), (5, 0), (6, 0), (7, 1), (8, 0), (9, 0), (10, 1), (11, 0), (12, 1), (13, 2), (14, 0)] mixed (by kernel_rfl) (QOk.then QOk.body) ?_
  refine O_pure rfl rfl rfl rfl (P_move rfl rfl) ?_
  refine O_pure rfl rfl rfl rfl (P_move rfl rfl) ?_
  refine O_pure rfl rfl rfl rfl (P_move rfl rfl) ?_
  refine O_pure rfl rfl rfl rfl (P_move rfl rfl) ?_
  refine O_pure rfl rfl rfl rfl (P_nil rfl rfl) ?_
  refine O_pure rfl rfl rfl rfl (P_fld0 rfl ty_fl_59_2 rfl) ?_
  first | (refine O_pure rfl rfl rfl rfl (P_ixa0 (1) rfl ty_ar_56 rfl rfl (by first | rfl | omega) (by omega)) ?_) | (refine O_pure rfl rfl rfl rfl (P_ixa (1) rfl ty_ar_56 rfl rfl (by first | rfl | omega) (by omega)) ?_)
  refine O_val rfl rfl rfl rfl (V_load rfl rfl ty_sc_52 (Rd.blk .h0 rfl)) ?_
  refine O_pure rfl rfl rfl rfl (P_move rfl rfl) ?_
  refine O_pure rfl rfl rfl rfl (P_ixs (ii) rfl ty_sl_52 rfl rfl (by first | rfl | omega) (by omega)) ?_
  refine O_val rfl rfl rfl rfl (V_load rfl rfl ty_sc_23 (rd_own1 .h4 (by unfold ints; rw [List.getElem?_map, enOf_get hs]; rfl))) ?_
  refine O_pure rfl rfl rfl rfl (P_move rfl rfl) ?_
  refine O_val rfl rfl rfl rfl (V_str rfl (slB_spec ty_sl_24).1 ty_int_5 ty_str_9 rfl ((Sn.old hpre).rw_)) ?_
  refine O_keep rfl rfl (W_callR rfl rfl rfl rfl fn_ca_61 (find_ok w _ _ _ _ _ _ _ bb bc bk hbk hbl 1 a1 m hmb) (Weak.keep (Weak.pick (p := [_, _, _, _]) (Weak.keep (Weak.keep (Weak.keep (Weak.keep (Weak.keep (Weak.keep (Weak.keep (Weak.nil _)))))))))) (fun _ _ _ _ _ _ _ => trivial) (K_keep (Weak.keep (Weak.pick (p := [_]) (Weak.pick (p := [_]) (Weak.pick (p := [_]) (Weak.pick (p := [_]) (Weak.keep (Weak.keep (Weak.keep (Weak.keep (Weak.nil _)))))))))) ?_))
  refine O_pure rfl rfl rfl rfl (P_assign rfl rfl) ?_
  refine O_nil ?_
  refine St.env (.cons (t := 0) rfl (.cons (t := 1) rfl (.cons (t := 3) rfl (.cons (t := 8) rfl (.cons (t := 9) rfl (.cons (t := 10) rfl (.cons (t := 11) rfl .nil))))))) ?_
  refine Q_then ?_
  refine R_seq ?_
  refine R_seq ?_
  refine St.res (rs' := [blk w [.pointer (some ⟨p0, 0, none⟩), .pointer (some ⟨p1, 0, none⟩), .slice sb0 sg0.length sc0, .slice (some ⟨sbb, 0, none⟩) sg1.length sc1, .slice ab0 sg0.length ac0, .slice (some ⟨abb, 0, none⟩) sg1.length ac1, .slice bb bk.length bc, .bool false] 59, blk b9 (ints .u8 (sealH a1 m)) 33, REG p1 (sg1) (addR (rcOf 1 bk) (a1, m)), ownS 27 1 (.slice (some ⟨sbb, 0, none⟩) sg1.length sc1) (sg1).length (ptrs (sg1)), ownS 23 1 (.slice (some ⟨abb, 0, none⟩) sg1.length ac1) (sg1).length (ints .u64 (enOf (sg1))), ownS 64 19 (.slice bb bk.length bc) (bk).length (bkC (bk)), REG p0 (sg0) (rcOf 0 bk), ownS 27 1 (.slice sb0 sg0.length sc0) (sg0).length (ptrs (sg0)), ownS 23 1 (.slice ab0 sg0.length ac0) (sg0).length (ints .u64 (enOf (sg0)))]) (Weak.keep (Weak.pick (p := [_]) (Weak.pick (p := [_]) (Weak.pick (p := [_]) (Weak.pick (p := [_]) (Weak.keep (Weak.keep (Weak.keep (Weak.keep (Weak.nil _)))))))))) ?_
  refine E_as (t := 11) (v' := .int .i64 (j : Int)) rfl (by rw [hj]) ?_
  refine St.ownSome (p := [_, _, _, _, _]) (by omega) fun bbb bbb_ hq _ => ?_
  simp only [Value.slice.injEq] at hq
  obtain ⟨rfl, _, rfl⟩ := hq
  refine R_open [(0, 0), (1, 2), (2, 0), (3, 0), (4, 0), (5, 0), (6, 0), (7, 0), (8, 0), (9, 0), (10, 1), (11, 0), (12, 0), (13, 0), (14, 1), (15, 1), (16, 0), (17, 0), (18, 0)] mixed (by kernel_rfl) (QOk.then (QOk.then QOk.body)) ?_
  refine O_pure rfl rfl rfl rfl (P_move rfl rfl) ?_
  refine O_keep rfl rfl (W_callV rfl rfl rfl rfl fn_ca_17 (num_ok 0) (fun _ _ => trivial) (K_keep (Weak.refl _) ?_))
  refine O_pure rfl rfl rfl rfl (P_neq rfl rfl rfl) ?_
  refine E_false (t := 64) rfl (rfl) ?_
  refine O_pure rfl rfl rfl rfl (P_move rfl rfl) ?_
  refine O_pure rfl rfl rfl rfl (P_move rfl rfl) ?_
  refine O_pure rfl rfl rfl rfl (P_geq rfl rfl rfl) ?_
  refine E_true (t := 67) rfl (decide_eq_true (by omega)) ?_
  refine O_pure rfl rfl rfl rfl (P_move rfl rfl) ?_
  refine O_pure rfl rfl rfl rfl (P_move rfl rfl) ?_
  refine O_pure rfl rfl rfl rfl (P_nil rfl rfl) ?_
  refine O_pure rfl rfl rfl rfl (P_fld0 rfl ty_fl_59_3 rfl) ?_
  refine O_val rfl rfl rfl rfl (V_load rfl rfl ty_sc_57 (Rd.blk .h0 rfl)) ?_
  refine O_pure rfl rfl rfl rfl (P_move rfl rfl) ?_
  refine O_pure rfl rfl rfl rfl (P_ixs (j) rfl ty_sl_57 rfl rfl (by first | rfl | omega) (by omega)) ?_
  refine O_pure rfl rfl rfl rfl (P_fld rfl ty_fl_64_3 rfl) ?_
  refine O_val rfl rfl rfl rfl (V_loadAgg rfl rfl ty_ag_33 ((Rds.sn (k := j * 19) (Sn.own .h5 rfl) (fun q v hv => bkC_at hx q v hv)).part 3 (wrC_seal _)) (by rw [ints_length, sealH_length])) ?_
  refine O_val rfl rfl rfl rfl (V_loadAgg rfl rfl ty_ag_33 (Rds.blk .h1) (by rw [ints_length, sealH_length])) ?_
  refine O_pure rfl rfl rfl rfl (P_neArr rfl rfl rfl ty_un_33 ty_int_5 ty_sc_5 ty_eg_33 (sealH_length _ _) (sealH_length _ _)) ?_
  refine E_false (t := 78) rfl (decide_eq_false (fun h => h rfl)) ?_
  refine O_pure rfl rfl rfl rfl (P_pick rfl rfl rfl) ?_
  refine O_pure rfl rfl rfl rfl (P_pick rfl rfl rfl) ?_
  refine O_nil ?_
  refine St.env (.cons (t := 0) rfl (.cons (t := 1) rfl (.cons (t := 3) rfl (.cons (t := 8) rfl (.cons (t := 9) rfl (.cons (t := 11) rfl (.cons (t := 80) rfl .nil))))))) ?_
  refine Q_then ?_
  refine R_condF rfl ?_
  refine R_skip ?_
  refine Q_then ?_
  refine R_seq ?_
  refine R_region ?_
  refine L_val rfl rfl rfl (OpP.v (P_move rfl rfl)) ?_
  refine L_val rfl rfl rfl (OpP.v (P_lss rfl rfl rfl)) ?_
  refine E_false (t := 85) rfl (decide_eq_false (by omega)) ?_
  refine L_nil ?_
  refine St.env (.cons (t := 0) rfl (.cons (t := 1) rfl (.cons (t := 3) rfl (.cons (t := 8) rfl (.cons (t := 9) rfl (.cons (t := 85) rfl .nil)))))) ?_
  refine Q_then ?_
  refine R_condF rfl ?_
  refine R_skip ?_
  exact R_end0 (rs2 := [SIGHT w (enOf sg0) (enOf sg1) (signB 1 (enOf sg1) at_ m bk)]) rfl rfl (.nil) (⟨rfl, rfl⟩) (by rw [hsb, hadd, har]; exact (Weak.keep (Weak.drop (Weak.refl _))).trans ((Weak.refl _).trans ((Weak.keep (Weak.pick (p := [_, _, _, _]) (Weak.pick (p := [_, _, _, _]) (Weak.pick (p := [_, _, _, _]) (Weak.keep (Weak.keep (Weak.keep (Weak.keep (Weak.nil _))))))))).trans (sight_close (rs := []) ⟨p0, p1, sg0, sg1, .slice sb0 sg0.length sc0, .slice (some ⟨sbb, 0, none⟩) sg1.length sc1, .slice ab0 sg0.length ac0, .slice (some ⟨abb, 0, none⟩) sg1.length ac1, .slice (some ⟨bbb, 0, none⟩) bk.length bc⟩))))
theorem sign_new_s1 {gl : Nat → Obj} (hG : Globs gl) (w : Nat) (p0 p1 : Nat) (sg0 sg1 : List (Int × Nat)) (S0 S1 A0 A1 B : Value) (bk : List Wrt) (hbk : BkOK bk) (hs0 : sg0.length ≤ 1599289640354) (hs1 : sg1.length ≤ 1599289640354) (hbl : bk.length ≤ 1599289640354) (at_ : Int) (base : Option Addr) (c : Nat) (m : List Int) (hmb : IsB m) (hml : m.length ≤ 140737488351300) (hz : 0 < sg1.length) (hsm : m.length ≤ 1048576) (hout : ∀ ii a1 s, aroundI at_ (sg1.length : Int) = (ii : Nat) → sg1[ii]? = some (a1, s) → (1, a1, m) ∉ bk) : SpecR (cx gl) 45 [.pointer (some ⟨w, 0, none⟩), .int .i64 1, .int .i64 at_, .slice base m.length c] (fun w h => Seen w h base (ints .u8 m)) [blk w [.pointer (some ⟨p0, 0, none⟩), .pointer (some ⟨p1, 0, none⟩), S0, S1, A0, A1, B, .bool false] 59, REG p0 (sg0) (rcOf 0 bk), ownS 27 1 (S0) (sg0).length (ptrs (sg0)), ownS 23 1 (A0) (sg0).length (ints .u64 (enOf (sg0))), REG p1 (sg1) (rcOf 1 bk), ownS 27 1 (S1) (sg1).length (ptrs (sg1)), ownS 23 1 (A1) (sg1).length (ints .u64 (enOf (sg1))), ownS 64 19 (B) (bk).length (bkC (bk))] (.tuple #[]) [SIGHT w (enOf sg0) (enOf sg1) (signB 1 (enOf sg1) at_ m bk)] := by
  refine Spec.enter (C := cx gl) Tryd.func45 rfl 109 rfl rfl fun w0 h0 hsep hsub hpre => ?_
  show St (cx gl) _ [(0, .pointer (some ⟨w, 0, none⟩)), (1, .int .i64 1), (2, .int .i64 at_), (3, .slice base m.length c)] _ _
  refine St.ownForm (p := [_, _]) fun sb0 sc0 hsb0_ hsc0 => ?_
  subst hsb0_
  refine St.ownForm (p := [_, _, _]) fun ab0 ac0 hab0_ hac0 => ?_
  subst hab0_
  refine St.ownForm (p := [_, _, _, _, _]) fun sb1 sc1 hsb1_ hsc1 => ?_
  subst hsb1_
  refine St.ownForm (p := [_, _, _, _, _, _]) fun ab1 ac1 hab1_ hac1 => ?_
  subst hab1_
  refine St.ownForm (p := [_, _, _, _, _, _, _]) fun bb bc hbb_ hbc => ?_
  subst hbb_
  refine St.res (rs' := [blk w [.pointer (some ⟨p0, 0, none⟩), .pointer (some ⟨p1, 0, none⟩), .slice sb0 sg0.length sc0, .slice sb1 sg1.length sc1, .slice ab0 sg0.length ac0, .slice ab1 sg1.length ac1, .slice bb bk.length bc, .bool false] 59, REG p0 (sg0) (rcOf 0 bk), ownS 27 1 (.slice sb0 sg0.length sc0) (sg0).length (ptrs (sg0)), ownS 23 1 (.slice ab0 sg0.length ac0) (sg0).length (ints .u64 (enOf (sg0))), REG p1 (sg1) (rcOf 1 bk), ownS 27 1 (.slice sb1 sg1.length sc1) (sg1).length (ptrs (sg1)), ownS 23 1 (.slice ab1 sg1.length ac1) (sg1).length (ints .u64 (enOf (sg1))), ownS 64 19 (.slice bb bk.length bc) (bk).length (bkC (bk))]) (Weak.refl _) ?_
  refine St.res (rs' := [blk w [.pointer (some ⟨p0, 0, none⟩), .pointer (some ⟨p1, 0, none⟩), .slice sb0 sg0.length sc0, .slice sb1 sg1.length sc1, .slice ab0 sg0.length ac0, .slice ab1 sg1.length ac1, .slice bb bk.length bc, .bool false] 59, REG p1 (sg1) (rcOf 1 bk), ownS 27 1 (.slice sb1 sg1.length sc1) (sg1).length (ptrs (sg1)), ownS 23 1 (.slice ab1 sg1.length ac1) (sg1).length (ints .u64 (enOf (sg1))), ownS 64 19 (.slice bb bk.length bc) (bk).length (bkC (bk)), REG p0 (sg0) (rcOf 0 bk), ownS 27 1 (.slice sb0 sg0.length sc0) (sg0).length (ptrs (sg0)), ownS 23 1 (.slice ab0 sg0.length ac0) (sg0).length (ints .u64 (enOf (sg0)))]) (Weak.keep (Weak.pick (p := [_, _, _]) (Weak.pick (p := [_, _, _]) (Weak.pick (p := [_, _, _]) (Weak.pick (p := [_, _, _]) (Weak.keep (Weak.keep (Weak.keep (Weak.nil _))))))))) ?_
  refine St.ownSome (p := [_, _]) (by omega) fun sbb sbb_ hq _ => ?_
  simp only [Value.slice.injEq] at hq
  obtain ⟨rfl, _, rfl⟩ := hq
  refine St.ownSome (p := [_, _, _]) (by omega) fun abb abb_ hq _ => ?_
  simp only [Value.slice.injEq] at hq
  obtain ⟨rfl, _, rfl⟩ := hq
  refine St.res (rs' := [blk w [.pointer (some ⟨p0, 0, none⟩), .pointer (some ⟨p1, 0, none⟩), .slice sb0 sg0.length sc0, .slice (some ⟨sbb, 0, none⟩) sg1.length sc1, .slice ab0 sg0.length ac0, .slice (some ⟨abb, 0, none⟩) sg1.length ac1, .slice bb bk.length bc, .bool false] 59, REG p1 (sg1) (rcOf 1 bk), ownS 27 1 (.slice (some ⟨sbb, 0, none⟩) sg1.length sc1) (sg1).length (ptrs (sg1)), ownS 23 1 (.slice (some ⟨abb, 0, none⟩) sg1.length ac1) (sg1).length (ints .u64 (enOf (sg1))), ownS 64 19 (.slice bb bk.length bc) (bk).length (bkC (bk)), REG p0 (sg0) (rcOf 0 bk), ownS 27 1 (.slice sb0 sg0.length sc0) (sg0).length (ptrs (sg0)), ownS 23 1 (.slice ab0 sg0.length ac0) (sg0).length (ints .u64 (enOf (sg0)))]) (Weak.refl _) ?_
  obtain ⟨ii, hii⟩ : ∃ ii : Nat, aroundI at_ (sg1.length : Int) = ii := ⟨(aroundI at_ sg1.length).toNat, by have hbd := aroundI_bound (x := at_) (n := (sg1.length : Int)) (by omega); omega⟩
  have hil : ii < sg1.length := by have hbd := aroundI_bound (x := at_) (n := (sg1.length : Int)) (by omega); omega
  obtain ⟨⟨a1, s⟩, hs⟩ : ∃ y, sg1[ii]? = some y := ⟨_, List.getElem?_eq_getElem hil⟩
  have hsb : signB 1 (enOf sg1) at_ m bk = addB bk (1, a1, m) := by unfold signB; rw [if_neg (by rw [enOf_length]; omega), enOf_length, hii, Int.toNat_natCast, enOf_get hs]
  have hrl := rcOf_le 1 bk
  have hm0 : (1, a1, m) ∉ bk := hout ii a1 s hii hs
  have hadd : addB bk (1, a1, m) = bk ++ [(1, a1, m)] := if_neg hm0
  have har : addR (rcOf 1 bk) (a1, m) = rcOf 1 (bk ++ [(1, a1, m)]) := by rw [← rcOf_addB, hadd]
  have hoth : rcOf 0 bk = rcOf 0 (bk ++ [(1, a1, m)]) := by rw [← hadd, rcOf_addB' (by decide)]
  refine R_seq ?_
  refine R_seq ?_
  refine R_region ?_
  refine L_val rfl rfl rfl (OpP.v (P_move rfl rfl)) ?_
  refine L_val rfl rfl rfl (OpP.v (P_move rfl rfl)) ?_
  refine L_val rfl rfl rfl (OpP.v (P_nil rfl rfl)) ?_
  refine L_val rfl rfl rfl (OpP.v (P_fld0 rfl ty_fl_59_1 rfl)) ?_
  first | (refine L_val rfl rfl rfl (OpP.v (P_ixa0 (1) rfl ty_ar_55 rfl rfl (by first | rfl | omega) (by omega))) ?_) | (refine L_val rfl rfl rfl (OpP.v (P_ixa (1) rfl ty_ar_55 rfl rfl (by first | rfl | omega) (by omega))) ?_)
  refine L_val rfl rfl rfl (V_load rfl rfl ty_sc_54 (Rd.blk .h0 rfl)) ?_
  refine L_val rfl rfl rfl (OpP.v (P_len rfl ty_sl_54 rfl)) ?_
  refine L_val rfl rfl rfl (OpP.v (P_eql rfl rfl rfl)) ?_
  refine E_false (t := 19) rfl (decide_eq_false (by omega)) ?_
  refine L_val rfl rfl rfl (OpP.v (P_move rfl rfl)) ?_
  refine L_val rfl rfl rfl (OpP.v (P_move rfl rfl)) ?_
  refine L_val rfl rfl rfl (OpP.v (P_len rfl ty_sl_24 rfl)) ?_
  refine L_val rfl rfl rfl (OpP.v (P_gtr rfl rfl rfl)) ?_
  refine E_false (t := 23) rfl (decide_eq_false (by omega)) ?_
  refine L_val rfl rfl rfl (OpP.v (P_pick rfl rfl rfl)) ?_
  refine L_nil ?_
  refine St.env (.cons (t := 0) rfl (.cons (t := 1) rfl (.cons (t := 2) rfl (.cons (t := 3) rfl (.cons (t := 24) rfl .nil))))) ?_
  refine Q_then ?_
  refine R_condF rfl ?_
  refine R_skip ?_
  refine Q_then ?_
  refine R_seq ?_
  refine R_region ?_
  refine L_val rfl rfl rfl (OpP.v (P_move rfl rfl)) ?_
  refine L_val rfl rfl rfl (OpP.v (P_move rfl rfl)) ?_
  refine L_val rfl rfl rfl (OpP.v (P_move rfl rfl)) ?_
  refine L_val rfl rfl rfl (OpP.v (P_nil rfl rfl)) ?_
  refine L_val rfl rfl rfl (OpP.v (P_fld0 rfl ty_fl_59_1 rfl)) ?_
  first | (refine L_val rfl rfl rfl (OpP.v (P_ixa0 (1) rfl ty_ar_55 rfl rfl (by first | rfl | omega) (by omega))) ?_) | (refine L_val rfl rfl rfl (OpP.v (P_ixa (1) rfl ty_ar_55 rfl rfl (by first | rfl | omega) (by omega))) ?_)
  refine L_val rfl rfl rfl (V_load rfl rfl ty_sc_54 (Rd.blk .h0 rfl)) ?_
  refine L_val rfl rfl rfl (OpP.v (P_len rfl ty_sl_54 rfl)) ?_
  refine L_op rfl (W_callV rfl rfl rfl rfl fn_ca_26 (around_ok at_ (sg1.length : Int) (by omega) (by omega)) (fun _ _ => trivial) ?_)
  refine E_as (t := 33) (v' := .int .i64 (ii : Int)) rfl (by rw [hii]) ?_
  refine L_val rfl rfl rfl (OpP.v (P_assign rfl rfl)) ?_
  refine L_nil ?_
  refine St.env (.cons (t := 0) rfl (.cons (t := 1) rfl (.cons (t := 3) rfl (.cons (t := 8) rfl .nil)))) ?_
  refine Q_then ?_
  refine R_seq ?_
  refine R_region ?_
  refine L_val rfl rfl rfl (OpP.v (P_move rfl rfl)) ?_
  refine L_val rfl rfl rfl (OpP.v (P_move rfl rfl)) ?_
  refine L_val rfl rfl rfl (OpP.v (P_nil rfl rfl)) ?_
  refine L_val rfl rfl rfl (OpP.v (P_fld0 rfl ty_fl_59_1 rfl)) ?_
  first | (refine L_val rfl rfl rfl (OpP.v (P_ixa0 (1) rfl ty_ar_55 rfl rfl (by first | rfl | omega) (by omega))) ?_) | (refine L_val rfl rfl rfl (OpP.v (P_ixa (1) rfl ty_ar_55 rfl rfl (by first | rfl | omega) (by omega))) ?_)
  refine L_val rfl rfl rfl (V_load rfl rfl ty_sc_54 (Rd.blk .h0 rfl)) ?_
  refine L_val rfl rfl rfl (OpP.v (P_move rfl rfl)) ?_
  refine L_val rfl rfl rfl (OpP.v (P_ixs (ii) rfl ty_sl_54 rfl rfl (by first | rfl | omega) (by omega))) ?_
  refine L_val rfl rfl rfl (V_load rfl rfl ty_sc_27 (rd_own1 .h2 (ptrs_at hs))) ?_
  refine L_val rfl rfl rfl (OpP.v (P_move rfl rfl)) ?_
  refine L_op rfl (W_callR rfl rfl rfl rfl fn_ca_18 (sign_any hG p1 sg1 (rcOf 1 bk) ii a1 s hs base c m hmb hsm (by omega)) (Split.one (p := [_])) (Sn.pre (Sn.old hpre)) ?_)
  refine St.res (rs' := [blk w [.pointer (some ⟨p0, 0, none⟩), .pointer (some ⟨p1, 0, none⟩), .slice sb0 sg0.length sc0, .slice (some ⟨sbb, 0, none⟩) sg1.length sc1, .slice ab0 sg0.length ac0, .slice (some ⟨abb, 0, none⟩) sg1.length ac1, .slice bb bk.length bc, .bool false] 59, REG p1 (sg1) (addR (rcOf 1 bk) (a1, m)), ownS 27 1 (.slice (some ⟨sbb, 0, none⟩) sg1.length sc1) (sg1).length (ptrs (sg1)), ownS 23 1 (.slice (some ⟨abb, 0, none⟩) sg1.length ac1) (sg1).length (ints .u64 (enOf (sg1))), ownS 64 19 (.slice bb bk.length bc) (bk).length (bkC (bk)), REG p0 (sg0) (rcOf 0 bk), ownS 27 1 (.slice sb0 sg0.length sc0) (sg0).length (ptrs (sg0)), ownS 23 1 (.slice ab0 sg0.length ac0) (sg0).length (ints .u64 (enOf (sg0)))]) (Weak.p1 (Weak.refl _)) ?_
  refine L_val rfl rfl rfl (OpP.v (P_move rfl rfl)) ?_
  refine L_val rfl rfl rfl (OpP.v (P_extract rfl rfl rfl)) ?_
  refine L_val rfl rfl rfl (OpP.v (P_extract rfl rfl rfl)) ?_
  refine L_op rfl (W_alloc rfl rfl rfl ty_ze_33 fun b9 => ?_)
  refine L_op rfl (W_storeAll rfl rfl rfl rfl ty_ag_33 (by rw [ints_length, sealH_length]) (ints_one) .h0 (by rw [ints_length, sealH_length]; rfl) ?_)
  refine L_val rfl rfl rfl (OpP.v (P_assign rfl rfl)) ?_
  refine L_nil ?_
  refine St.env (.cons (t := 0) rfl (.cons (t := 1) rfl (.cons (t := 3) rfl (.cons (t := 8) rfl (.cons (t := 9) rfl (.cons (t := 10) rfl .nil)))))) ?_
  refine Q_then ?_
  refine R_seq ?_
  refine St.res (rs' := [blk w [.pointer (some ⟨p0, 0, none⟩), .pointer (some ⟨p1, 0, none⟩), .slice sb0 sg0.length sc0, .slice (some ⟨sbb, 0, none⟩) sg1.length sc1, .slice ab0 sg0.length ac0, .slice (some ⟨abb, 0, none⟩) sg1.length ac1, .slice bb bk.length bc, .bool false] 59, blk b9 (ints .u8 (sealH a1 m)) 33, REG p1 (sg1) (addR (rcOf 1 bk) (a1, m)), ownS 27 1 (.slice (some ⟨sbb, 0, none⟩) sg1.length sc1) (sg1).length (ptrs (sg1)), ownS 23 1 (.slice (some ⟨abb, 0, none⟩) sg1.length ac1) (sg1).length (ints .u64 (enOf (sg1))), ownS 64 19 (.slice bb bk.length bc) (bk).length (bkC (bk)), REG p0 (sg0) (rcOf 0 bk), ownS 27 1 (.slice sb0 sg0.length sc0) (sg0).length (ptrs (sg0)), ownS 23 1 (.slice ab0 sg0.length ac0) (sg0).length (ints .u64 (enOf (sg0)))]) (Weak.swap) ?_
  refine R_open [(0, 0), (1, 0), (2, 0), (3, 0), (4, 0), (5, 0), (6, 0), (7, 1), (8, 0), (9, 0), (10, 1), (11, 0), (12, 1), (13, 2), (14, 0)] mixed (by kernel_rfl) (QOk.then QOk.body) ?_
  refine O_pure rfl rfl rfl rfl (P_move rfl rfl) ?_
  refine O_pure rfl rfl rfl rfl (P_move rfl rfl) ?_
  refine O_pure rfl rfl rfl rfl (P_move rfl rfl) ?_
  refine O_pure rfl rfl rfl rfl (P_move rfl rfl) ?_
  refine O_pure rfl rfl rfl rfl (P_nil rfl rfl) ?_
  refine O_pure rfl rfl rfl rfl (P_fld0 rfl ty_fl_59_2 rfl) ?_
  first | (refine O_pure rfl rfl rfl rfl (P_ixa0 (1) rfl ty_ar_56 rfl rfl (by first | rfl | omega) (by omega)) ?_) | (refine O_pure rfl rfl rfl rfl (P_ixa (1) rfl ty_ar_56 rfl rfl (by first | rfl | omega) (by omega)) ?_)
  refine O_val rfl rfl rfl rfl (V_load rfl rfl ty_sc_52 (Rd.blk .h0 rfl)) ?_
  refine O_pure rfl rfl rfl rfl (P_move rfl rfl) ?_
  refine O_pure rfl rfl rfl rfl (P_ixs (ii) rfl ty_sl_52 rfl rfl (by first | rfl | omega) (by omega)) ?_
  refine O_val rfl rfl rfl rfl (V_load rfl rfl ty_sc_23 (rd_own1 .h4 (by unfold ints; rw [List.getElem?_map, enOf_get hs]; rfl))) ?_
  refine O_pure rfl rfl rfl rfl (P_move rfl rfl) ?_
  refine O_val rfl rfl rfl rfl (V_str rfl (slB_spec ty_sl_24).1 ty_int_5 ty_str_9 rfl ((Sn.old hpre).rw_)) ?_
  refine O_keep rfl rfl (W_callR rfl rfl rfl rfl fn_ca_61 (find_ok w _ _ _ _ _ _ _ bb bc bk hbk hbl 1 a1 m hmb) (Weak.keep (Weak.pick (p := [_, _, _, _]) (Weak.keep (Weak.keep (Weak.keep (Weak.keep (Weak.keep (Weak.keep (Weak.keep (Weak.nil _)))))))))) (fun _ _ _ _ _ _ _ => trivial) (K_keep (Weak.keep (Weak.pick (p := [_]) (Weak.pick (p := [_]) (Weak.pick (p := [_]) (Weak.pick (p := [_]) (Weak.keep (Weak.keep (Weak.keep (Weak.keep (Weak.nil _)))))))))) ?_))
  refine O_pure rfl rfl rfl rfl (P_assign rfl rfl) ?_
  refine O_nil ?_
  refine St.env (.cons (t := 0) rfl (.cons (t := 1) rfl (.cons (t := 3) rfl (.cons (t := 8) rfl (.cons (t := 9) rfl (.cons (t := 10) rfl (.cons (t := 11) rfl .nil))))))) ?_
  refine Q_then ?_
  refine R_seq ?_
  refine R_seq ?_
  refine St.res (rs' := [blk w [.pointer (some ⟨p0, 0, none⟩), .pointer (some ⟨p1, 0, none⟩), .slice sb0 sg0.length sc0, .slice (some ⟨sbb, 0, none⟩) sg1.length sc1, .slice ab0 sg0.length ac0, .slice (some ⟨abb, 0, none⟩) sg1.length ac1, .slice bb bk.length bc, .bool false] 59, blk b9 (ints .u8 (sealH a1 m)) 33, REG p1 (sg1) (addR (rcOf 1 bk) (a1, m)), ownS 27 1 (.slice (some ⟨sbb, 0, none⟩) sg1.length sc1) (sg1).length (ptrs (sg1)), ownS 23 1 (.slice (some ⟨abb, 0, none⟩) sg1.length ac1) (sg1).length (ints .u64 (enOf (sg1))), ownS 64 19 (.slice bb bk.length bc) (bk).length (bkC (bk)), REG p0 (sg0) (rcOf 0 bk), ownS 27 1 (.slice sb0 sg0.length sc0) (sg0).length (ptrs (sg0)), ownS 23 1 (.slice ab0 sg0.length ac0) (sg0).length (ints .u64 (enOf (sg0)))]) (Weak.keep (Weak.pick (p := [_]) (Weak.pick (p := [_]) (Weak.pick (p := [_]) (Weak.pick (p := [_]) (Weak.keep (Weak.keep (Weak.keep (Weak.keep (Weak.nil _)))))))))) ?_
  refine E_as (t := 11) (v' := .int .i64 (-1)) rfl (by rw [findB_none hm0]) ?_
  refine R_open [(0, 0), (1, 2), (2, 0), (3, 0), (4, 0), (5, 0), (6, 0), (7, 0), (8, 0), (9, 0), (10, 1), (11, 0), (12, 0), (13, 0), (14, 1), (15, 1), (16, 0), (17, 0), (18, 0)] mixed (by kernel_rfl) (QOk.then (QOk.then QOk.body)) ?_
  refine O_pure rfl rfl rfl rfl (P_move rfl rfl) ?_
  refine O_keep rfl rfl (W_callV rfl rfl rfl rfl fn_ca_17 (num_ok 0) (fun _ _ => trivial) (K_keep (Weak.refl _) ?_))
  refine O_pure rfl rfl rfl rfl (P_neq rfl rfl rfl) ?_
  refine E_false (t := 64) rfl (rfl) ?_
  refine O_pure rfl rfl rfl rfl (P_move rfl rfl) ?_
  refine O_pure rfl rfl rfl rfl (P_move rfl rfl) ?_
  refine O_pure rfl rfl rfl rfl (P_geq rfl rfl rfl) ?_
  refine E_false (t := 67) rfl (rfl) ?_
  refine O_pure rfl rfl rfl rfl (P_move rfl rfl) ?_
  refine O_no rfl rfl rfl rfl ?_
  refine O_no rfl rfl rfl rfl ?_
  refine O_no rfl rfl rfl rfl ?_
  refine O_noX rfl rfl rfl rfl ?_
  refine O_no rfl rfl rfl rfl ?_
  refine O_no rfl rfl rfl rfl ?_
  refine O_no rfl rfl rfl rfl ?_
  refine O_noX rfl rfl rfl rfl ?_
  refine O_noX rfl rfl rfl rfl ?_
  refine O_no rfl rfl rfl rfl ?_
  refine O_pure rfl rfl rfl rfl (P_pick rfl rfl rfl) ?_
  refine O_pure rfl rfl rfl rfl (P_pick rfl rfl rfl) ?_
  refine O_nil ?_
  refine St.env (.cons (t := 0) rfl (.cons (t := 1) rfl (.cons (t := 3) rfl (.cons (t := 8) rfl (.cons (t := 9) rfl (.cons (t := 11) rfl (.cons (t := 80) rfl .nil))))))) ?_
  refine Q_then ?_
  refine R_condF rfl ?_
  refine R_skip ?_
  refine Q_then ?_
  refine R_seq ?_
  refine R_region ?_
  refine L_val rfl rfl rfl (OpP.v (P_move rfl rfl)) ?_
  refine L_val rfl rfl rfl (OpP.v (P_lss rfl rfl rfl)) ?_
  refine E_true (t := 85) rfl (rfl) ?_
  refine L_nil ?_
  refine St.env (.cons (t := 0) rfl (.cons (t := 1) rfl (.cons (t := 3) rfl (.cons (t := 8) rfl (.cons (t := 9) rfl (.cons (t := 85) rfl .nil)))))) ?_
  refine Q_then ?_
  refine R_condT rfl ?_
  refine R_open [(0, 0), (1, 0), (2, 0), (3, 0), (4, 1), (5, 0), (6, 0), (7, 0), (8, 0), (9, 0), (10, 0), (11, 1), (12, 0), (13, 0), (14, 1), (15, 0), (16, 1), (17, 1), (18, 0), (19, 2), (20, 3), (21, 0), (22, 0), (23, 3)] mixed (by kernel_rfl) QOk.body ?_
  refine O_pure rfl rfl rfl rfl (P_move rfl rfl) ?_
  refine O_pure rfl rfl rfl rfl (P_move rfl rfl) ?_
  refine O_pure rfl rfl rfl rfl (P_nil rfl rfl) ?_
  refine O_pure rfl rfl rfl rfl (P_fld0 rfl ty_fl_59_3 rfl) ?_
  refine O_val rfl rfl rfl rfl (V_load rfl rfl ty_sc_57 (Rd.blk .h0 rfl)) ?_
  refine O_pure rfl rfl rfl rfl (P_move rfl rfl) ?_
  refine O_pure rfl rfl rfl rfl (P_move rfl rfl) ?_
  refine O_pure rfl rfl rfl rfl (P_move rfl rfl) ?_
  refine O_pure rfl rfl rfl rfl (P_nil rfl rfl) ?_
  refine O_pure rfl rfl rfl rfl (P_fld0 rfl ty_fl_59_2 rfl) ?_
  first | (refine O_pure rfl rfl rfl rfl (P_ixa0 (1) rfl ty_ar_56 rfl rfl (by first | rfl | omega) (by omega)) ?_) | (refine O_pure rfl rfl rfl rfl (P_ixa (1) rfl ty_ar_56 rfl rfl (by first | rfl | omega) (by omega)) ?_)
  refine O_val rfl rfl rfl rfl (V_load rfl rfl ty_sc_52 (Rd.blk .h0 rfl)) ?_
  refine O_pure rfl rfl rfl rfl (P_move rfl rfl) ?_
  refine O_pure rfl rfl rfl rfl (P_ixs (ii) rfl ty_sl_52 rfl rfl (by first | rfl | omega) (by omega)) ?_
  refine O_val rfl rfl rfl rfl (V_load rfl rfl ty_sc_23 (rd_own1 .h4 (by unfold ints; rw [List.getElem?_map, enOf_get hs]; rfl))) ?_
  refine O_pure rfl rfl rfl rfl (P_move rfl rfl) ?_
  refine O_val rfl rfl rfl rfl (V_str rfl (slB_spec ty_sl_24).1 ty_int_5 ty_str_9 rfl ((Sn.old hpre).rw_)) ?_
  refine O_val rfl rfl rfl rfl (V_loadAgg rfl rfl ty_ag_33 (Rds.blk .h1) (by rw [ints_length, sealH_length])) ?_
  refine O_pure rfl rfl rfl rfl (P_buildStruct rfl ty_pl_64 ty_ze_64 rfl rfl (build_wr 1 a1 m)) ?_
  refine O_keep rfl rfl (W_lit (z := .nilIface) (wrC (1, a1, m)) rfl rfl rfl ty_sl_57 ty_lz_57 rfl rfl rfl (by decide) (by decide) (by simp [Value.cells, wrC_length]) (by simp [Value.cells]) fun b105 => (K_keep (Weak.drop (Weak.refl _)) ?_))
  refine O_new rfl rfl (W_append (p := [_, _, _, _, _, _]) rfl rfl rfl ty_sl_57 ty_ap_57 ty_src_57 rfl rfl rfl (Src.slice (sz := 19) (news := wrC (1, a1, m)) (Rds.blk .h0) (wrC_length _) (wrC_one _)) (by omega) (by simp only [maxLen]; omega) fun v106 => (K_new ?_))
  refine St.ownForm (p := [_, _, _, _, _, _]) fun nb nc hnb_ hnc => ?_
  subst hnb_
  refine O_pure rfl rfl rfl rfl (P_nil rfl rfl) ?_
  refine O_pure rfl rfl rfl rfl (P_fld0 rfl ty_fl_59_3 rfl) ?_
  refine O_new rfl rfl (W_store rfl rfl rfl rfl ty_sc_57 rfl .h1 (by first | decide | (simp [ints]; done) | (simp [ints]; omega)) (K_new ?_))
  refine O_nil ?_
  refine St.env (.nil) ?_
  refine St.res (rs' := [blk w [.pointer (some ⟨p0, 0, none⟩), .pointer (some ⟨p1, 0, none⟩), .slice sb0 sg0.length sc0, .slice (some ⟨sbb, 0, none⟩) sg1.length sc1, .slice ab0 sg0.length ac0, .slice (some ⟨abb, 0, none⟩) sg1.length ac1, .slice nb (bk.length + 1) nc, .bool false] 59, blk b9 (ints .u8 (sealH a1 m)) 33, REG p1 (sg1) (addR (rcOf 1 bk) (a1, m)), ownS 27 1 (.slice (some ⟨sbb, 0, none⟩) sg1.length sc1) (sg1).length (ptrs (sg1)), ownS 23 1 (.slice (some ⟨abb, 0, none⟩) sg1.length ac1) (sg1).length (ints .u64 (enOf (sg1))), ownS 64 19 (.slice nb (bk.length + 1) nc) (bk ++ [(1, a1, m)]).length (bkC (bk ++ [(1, a1, m)])), REG p0 (sg0) (rcOf 0 bk), ownS 27 1 (.slice sb0 sg0.length sc0) (sg0).length (ptrs (sg0)), ownS 23 1 (.slice ab0 sg0.length ac0) (sg0).length (ints .u64 (enOf (sg0)))]) (by have e : (bk ++ [(1, a1, m)]).length = bk.length + 1 := (by simp); rw [← bkC_snoc, e]; exact Weak.drop (Weak.refl _)) ?_
  exact R_end0 (rs2 := [SIGHT w (enOf sg0) (enOf sg1) (signB 1 (enOf sg1) at_ m bk)]) rfl rfl (.nil) (⟨rfl, rfl⟩) (by rw [hsb, hadd, har, hoth]; exact (Weak.keep (Weak.drop (Weak.refl _))).trans ((Weak.keep (Weak.pick (p := [_, _, _, _]) (Weak.pick (p := [_, _, _, _]) (Weak.pick (p := [_, _, _, _]) (Weak.keep (Weak.keep (Weak.keep (Weak.keep (Weak.nil _))))))))).trans (sight_close (rs := []) (bk := bk ++ [(1, a1, m)]) ⟨p0, p1, sg0, sg1, .slice sb0 sg0.length sc0, .slice (some ⟨sbb, 0, none⟩) sg1.length sc1, .slice ab0 sg0.length ac0, .slice (some ⟨abb, 0, none⟩) sg1.length ac1, .slice nb (bk.length + 1) nc⟩)))
theorem sSign_ok1 {gl : Nat → Obj} (hG : Globs gl) (w : Nat) (e0 e1 : List Int) (bk : List Wrt) (hbk : BkOK bk) (h0 : e0.length ≤ 1599289640354) (h1 : e1.length ≤ 1599289640354) (hbl : bk.length ≤ 1599289640354) (at_ : Int) (base : Option Addr) (c : Nat) (m : List Int) (hmb : IsB m) (hml : m.length ≤ 140737488351300) : SpecR (cx gl) 45 [.pointer (some ⟨w, 0, none⟩), .int .i64 1, .int .i64 at_, .slice base m.length c] (fun w h => Seen w h base (ints .u8 m)) [SIGHT w e0 e1 bk] (.tuple #[]) [SIGHT w e0 e1 (signB 1 e1 at_ m bk)] := Spec.openEx fun ⟨p0, p1, sg0, sg1, S0, S1, A0, A1, B⟩ hok => by
  obtain ⟨hx0, hx1⟩ := hok
  dsimp only at hx0 hx1
  subst hx0; subst hx1
  rw [enOf_length] at h0 h1
  by_cases hz : sg1.length = 0
  · exact sign_none_s1 hG w p0 p1 sg0 sg1 S0 S1 A0 A1 B bk hbk h0 h1 hbl at_ base c m hmb hml hz
  · by_cases hs : m.length ≤ 1048576
    · have hbd := aroundI_bound (x := at_) (n := (sg1.length : Int)) (by omega)
      by_cases hin : ∀ (ii : Nat) (a1 : Int) (s : Nat), aroundI at_ (sg1.length : Int) = (ii : Nat) → sg1[ii]? = some (a1, s) → ((1 : Int), a1, m) ∈ bk
      · exact sign_old_s1 hG w p0 p1 sg0 sg1 S0 S1 A0 A1 B bk hbk h0 h1 hbl at_ base c m hmb hml (by omega) hs hin
      · refine sign_new_s1 hG w p0 p1 sg0 sg1 S0 S1 A0 A1 B bk hbk h0 h1 hbl at_ base c m hmb hml (by omega) hs fun ii a1 s h2 h3 h4 => hin fun ii' a1' s' h5 h6 => ?_
        rw [h2] at h5
        obtain rfl : ii = ii' := by omega
        rw [h3] at h6
        simp only [Option.some.injEq, Prod.mk.injEq] at h6
        rw [← h6.1]; exact h4
    · exact sign_big_s1 hG w p0 p1 sg0 sg1 S0 S1 A0 A1 B bk hbk h0 h1 hbl at_ base c m hmb hml (by omega) (by omega)
end Go.Proofs.YtnaadddnbfnahaaDoor
