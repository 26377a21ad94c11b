/- The laws over scripts of calls. Printed by gen.py. -/
import Derived.Test.YtnaadddnbfnahaaDoorU5
import Derived.Test.YtnaadddnbfnahaaDoorRead
set_option linter.unusedVariables false
set_option linter.unusedSimpArgs false
set_option maxRecDepth 100000
namespace Go.Proofs.YtnaadddnbfnahaaDoor
open Go Go.RowKit Go.Proofs
structure Opr where
  kd : Int
  wh : Int
  at_ : Int
  a : Int
  m : Sl Int
  sl : List Int
  tw : Int
  lg : Bool
def Opr.cells (o : Opr) : List Value := opC o.kd o.wh o.at_ o.a o.m.b o.m.xs.length o.m.c o.sl o.tw o.lg
def OprOK (w : World) (o : Opr) : Prop := Row w o.m.b (ints .u8 o.m.xs) ∧ IsB o.m.xs ∧ o.sl.length = 16
def opsC (l : List Opr) : List Value := l.flatMap Opr.cells
def ScriptOK (w : World) (base : Option Addr) (l : List Opr) : Prop := Row w base (opsC l) ∧ ∀ o ∈ l, OprOK w o
theorem opsC_at {l : List Opr} (hl : ∀ o ∈ l, o.sl.length = 16) {i : Nat} {o : Opr} (hi : l[i]? = some o) (j : Nat) (v : Value) (hj : o.cells[j]? = some v) : (opsC l)[i * 23 + j]? = some v :=
  rows_at (fun x hx => opC_length (hl x hx)) hi j v hj
theorem opC_one {kd wh at_ a : Int} {base : Option Addr} {n c : Nat} {sl : List Int} {tw : Int} {lg : Bool} : ∀ v ∈ opC kd wh at_ a base n c sl tw lg, v.oneCell' = true := fun v hv => by
  unfold opC at hv
  rcases List.mem_append.1 hv with hv | hv
  · simp only [List.mem_cons, List.not_mem_nil, or_false] at hv
    rcases hv with rfl | rfl | rfl | rfl | rfl <;> rfl
  · rcases List.mem_append.1 hv with hv | hv
    · exact ints_one v hv
    · simp only [List.mem_cons, List.not_mem_nil, or_false] at hv
      rcases hv with rfl | rfl <;> rfl
theorem play_ok {gl : Nat → Obj} (hG : GlobsR gl) (base : Option Addr) (c : Nat) (ops : List Opr) (hmax : ops.length ≤ 1599289640354) (hm : ∀ o ∈ ops, o.m.xs.length ≤ 140737488351232) (lo hi_ : Int) : SpecV (cx gl) 29 [.slice base ops.length c, .int .i64 lo, .int .i64 hi_] (fun w => ScriptOK w base ops) (.bool true) := by
  refine Spec.enter (C := cx gl) Tryd.func29 rfl 49 rfl rfl fun w0 h0 hsep hsub hpre => ?_
  obtain rfl : h0 = Heap.none := hsep
  show St (cx gl) _ [(0, .slice base ops.length c), (1, .int .i64 lo), (2, .int .i64 hi_)] _ _
  refine R_seq ?_
  refine R_region ?_
  refine L_val rfl rfl rfl (OpP.v (P_assign rfl rfl)) ?_
  refine L_nil ?_
  refine Q_then ?_
  refine R_seq ?_
  refine R_region ?_
  refine L_op rfl (W_call rfl rfl rfl rfl fn_ca_30 (begin_ok) (Split.nil _) (fun _ _ _ _ _ _ _ => trivial) fun v12 rs1 ⟨w, e1, e2⟩ => ?_)
  subst e1; subst e2
  refine St.res (rs' := [TWO w 0]) (Weak.refl _) ?_
  refine L_val rfl rfl rfl (OpP.v (P_move rfl rfl)) ?_
  refine L_val rfl rfl rfl (OpP.v (P_extract rfl rfl rfl)) ?_
  refine L_val rfl rfl rfl (OpP.v (P_extract rfl rfl rfl)) ?_
  refine L_val rfl rfl rfl (OpP.v (P_assign rfl rfl)) ?_
  refine L_val rfl rfl rfl (OpP.v (P_assign rfl rfl)) ?_
  refine L_nil ?_
  refine St.env (.cons (t := 0) rfl (.cons (t := 1) rfl (.cons (t := 2) rfl (.cons (t := 6) rfl (.cons (t := 7) rfl (.cons (t := 8) rfl .nil)))))) ?_
  refine Q_then ?_
  refine R_seq ?_
  refine R_seq ?_
  refine R_region ?_
  refine L_val rfl rfl rfl (OpP.v (P_move rfl rfl)) ?_
  refine E_true (t := 15) rfl (rfl) ?_
  refine L_val rfl rfl rfl (OpP.v (P_not rfl rfl)) ?_
  refine L_nil ?_
  refine St.env (.cons (t := 0) rfl (.cons (t := 1) rfl (.cons (t := 2) rfl (.cons (t := 6) rfl (.cons (t := 7) rfl (.cons (t := 8) rfl (.cons (t := 16) rfl .nil))))))) ?_
  refine Q_then ?_
  refine R_condF rfl ?_
  refine R_skip ?_
  refine Q_then ?_
  refine R_seq ?_
  refine R_seq ?_
  refine R_region ?_
  refine L_val rfl rfl rfl (OpP.v (P_assign rfl rfl)) ?_
  refine L_nil ?_
  refine St.env (.cons (t := 0) rfl (.cons (t := 1) rfl (.cons (t := 2) rfl (.cons (t := 6) rfl (.cons (t := 7) rfl (.cons (t := 8) rfl (.cons (t := 9) rfl .nil))))))) ?_
  refine Q_then ?_
  refine R_block ?_
  refine R_loopE (G := Nat) (.cons (t := 0) rfl (.cons (t := 1) rfl (.cons (t := 2) rfl (.cons (t := 6) rfl (.cons (t := 7) rfl .nil))))) (fun g => [(8, .bool true), (9, .int .i64 (g : Int))]) (fun g => [TWO w g]) (fun g => g ≤ ops.length) (fun g => ops.length - g) (0) (Nat.zero_le _) (by repeat (first | exact .nil | refine .cons rfl ?_ | refine .consE rfl (by first | rfl | (congr 1; omega) | (congr 1; push_cast; omega)) ?_)) (Weak.refl _) ?_
  intro i hinv
  replace hinv : i ≤ ops.length := hinv
  show St (cx gl) _ ((8, .bool true) :: (9, .int .i64 (i : Int)) :: _) [TWO w i] _
  have hi := hinv
  refine R_seq ?_
  refine R_seq ?_
  refine R_region ?_
  refine L_val rfl rfl rfl (OpP.v (P_move rfl rfl)) ?_
  refine L_val rfl rfl rfl (OpP.v (P_move rfl rfl)) ?_
  refine L_val rfl rfl rfl (OpP.v (P_len rfl ty_sl_39 rfl)) ?_
  refine L_val rfl rfl rfl (OpP.v (P_lss rfl rfl rfl)) ?_
  refine L_nil ?_
  refine Q_then ?_
  refine R_condP rfl (fun hlt0 => ?_) (fun hlt0 => ?_)
  · skip
    have hlt : i < ops.length := by omega
    obtain ⟨o, ho⟩ : ∃ o, ops[i]? = some o := ⟨_, List.getElem?_eq_getElem hlt⟩
    obtain ⟨hrow, hob, hosl⟩ := hpre.2 o (List.mem_of_getElem? ho)
    have hom := hm o (List.mem_of_getElem? ho)
    have h16 : ∀ o ∈ ops, o.sl.length = 16 := fun o ho => (hpre.2 o ho).2.2
    rcases hpre.1.cases with hz | ⟨ab, aj, rfl, hra⟩
    · exfalso; have h1 := opsC_at h16 ho 0 _ rfl; rw [hz] at h1; cases h1
    refine R_skip ?_
    refine Q_then ?_
    refine R_seq ?_
    refine R_block ?_
    refine R_seq ?_
    refine R_region ?_
    refine L_val rfl rfl rfl (OpP.v (P_move rfl rfl)) ?_
    refine L_val rfl rfl rfl (OpP.v (P_move rfl rfl)) ?_
    refine L_val rfl rfl rfl (OpP.v (P_ixs (i) rfl ty_sl_39 rfl rfl (by first | rfl | omega) (by omega))) ?_
    refine L_val rfl rfl rfl (V_loadAgg rfl rfl ty_ag_72 (Rds.sn (k := i * 23) (Sn.row hpre.1 rfl) (fun j v hj => opsC_at h16 ho j v hj)) (opC_length hosl)) ?_
    refine L_op rfl (W_alloc rfl rfl rfl ty_ze_72 fun b10 => ?_)
    refine L_op rfl (W_storeAll rfl rfl rfl rfl ty_ag_72 (opC_length hosl) (opC_one) .h0 ((opC_length hosl).trans rfl) ?_)
    refine L_nil ?_
    refine Q_then ?_
    refine R_seq ?_
    refine R_region ?_
    refine L_val rfl rfl rfl (OpP.v (P_move rfl rfl)) ?_
    refine L_val rfl rfl rfl (V_loadAgg rfl rfl ty_ag_72 (Rds.blk .h0) (opC_length hosl)) ?_
    refine L_op rfl (W_callR rfl rfl rfl rfl fn_ca_31 (step_ok hG w i (by omega) o.kd o.wh o.at_ o.a o.m.b o.m.c o.m.xs o.sl o.tw o.lg hosl hom hob) (Split.one (p := [_])) (Sn.pre (Sn.row hrow rfl)) ?_)
    refine St.res (rs' := [TWO w (i + 1), blk b10 (o.cells) 72]) (Weak.refl _) ?_
    refine L_val rfl rfl rfl (OpP.v (P_assign rfl rfl)) ?_
    refine L_nil ?_
    refine Q_then ?_
    refine R_seq ?_
    refine R_region ?_
    refine L_val rfl rfl rfl (OpP.v (P_move rfl rfl)) ?_
    refine E_true (t := 30) rfl (rfl) ?_
    refine L_val rfl rfl rfl (OpP.v (P_not rfl rfl)) ?_
    refine L_val rfl rfl rfl (OpP.v (P_move rfl rfl)) ?_
    refine L_no rfl rfl rfl ?_
    refine L_no rfl rfl rfl ?_
    refine L_no rfl rfl rfl ?_
    refine L_no rfl rfl rfl ?_
    refine L_no rfl rfl rfl ?_
    refine L_no rfl rfl rfl ?_
    refine L_no rfl rfl rfl ?_
    refine L_no rfl rfl rfl ?_
    refine L_no rfl rfl rfl ?_
    refine L_no rfl rfl rfl ?_
    refine L_no rfl rfl rfl ?_
    refine L_no rfl rfl rfl ?_
    refine L_no rfl rfl rfl ?_
    refine L_no rfl rfl rfl ?_
    refine L_no rfl rfl rfl ?_
    refine L_val rfl rfl rfl (OpP.v (P_pick rfl rfl rfl)) ?_
    refine L_nil ?_
    refine Q_then ?_
    refine R_condF rfl ?_
    refine R_skip ?_
    refine Q_block ?_
    refine Q_then ?_
    refine R_region ?_
    refine L_val rfl rfl rfl (OpP.v (P_move rfl rfl)) ?_
    first | (refine L_val rfl rfl rfl (OpP.v (P_addN rfl rfl rfl (by simp only [fits]; omega))) ?_) | (refine L_val rfl rfl rfl (OpP.v (P_add rfl rfl rfl)) ?_)
    refine L_val rfl rfl rfl (OpP.v (P_assign rfl rfl)) ?_
    refine L_nil ?_
    exact Q_round (i + 1) (by show (i + 1) ≤ ops.length; omega) (by show ops.length - (i + 1) < ops.length - i; omega) (by repeat (first | exact .nil | refine .cons rfl ?_ | refine .consE rfl (by first | rfl | (congr 1; omega) | (congr 1; push_cast; omega)) ?_)) (Weak.keep (Weak.nil _))
  · skip
    obtain rfl : i = ops.length := by omega
    refine R_exit ?_
    refine Q_then_exit ?_
    refine Q_then_exit ?_
    refine Q_block_eq ?_
    refine St.env (.cons (t := 6) rfl .nil) ?_
    refine Q_then ?_
    refine R_seq ?_
    refine R_region ?_
    refine L_val rfl rfl rfl (OpP.v (P_assign rfl rfl)) ?_
    refine L_nil ?_
    refine Q_then ?_
    refine R_ret ?_
    exact R_endV rfl rfl (.tmp rfl .nil) (rfl)
theorem sealEnters_walk {gl : Nat → Obj} (hG : GlobsR gl) (base : Option Addr) (c : Nat) (ops : List Opr) (hmax : ops.length ≤ 1599289640354) (hm : ∀ o ∈ ops, o.m.xs.length ≤ 140737488351232) : SpecV (cx gl) 8 [.slice base ops.length c] (fun w => ScriptOK w base ops) (.bool true) := by
  refine Spec.enter (C := cx gl) Tryd.func8 rfl 5 rfl rfl fun w0 h0 hsep hsub hpre => ?_
  obtain rfl : h0 = Heap.none := hsep
  show St (cx gl) _ [(0, .slice base ops.length c)] _ _
  refine R_seq ?_
  refine R_region ?_
  refine L_val rfl rfl rfl (OpP.v (P_assign rfl rfl)) ?_
  refine L_nil ?_
  refine Q_then ?_
  refine R_seq ?_
  refine R_region ?_
  refine L_val rfl rfl rfl (OpP.v (P_move rfl rfl)) ?_
  refine L_op rfl (W_callV rfl rfl rfl rfl fn_ca_29 (play_ok hG base c ops hmax hm 7 7) (fun w nw => ⟨(Sn.row hpre.1 rfl).rw_ w nw, fun o ho => ⟨(Sn.row (hpre.2 o ho).1 rfl).rw_ w nw, (hpre.2 o ho).2⟩⟩) ?_)
  refine L_val rfl rfl rfl (OpP.v (P_assign rfl rfl)) ?_
  refine L_nil ?_
  refine St.env (.cons (t := 2) rfl .nil) ?_
  refine Q_then ?_
  refine R_ret ?_
  exact R_endV rfl rfl (.tmp rfl .nil) (rfl)
theorem sealSigns_walk {gl : Nat → Obj} (hG : GlobsR gl) (base : Option Addr) (c : Nat) (ops : List Opr) (hmax : ops.length ≤ 1599289640354) (hm : ∀ o ∈ ops, o.m.xs.length ≤ 140737488351232) : SpecV (cx gl) 9 [.slice base ops.length c] (fun w => ScriptOK w base ops) (.bool true) := by
  refine Spec.enter (C := cx gl) Tryd.func9 rfl 5 rfl rfl fun w0 h0 hsep hsub hpre => ?_
  obtain rfl : h0 = Heap.none := hsep
  show St (cx gl) _ [(0, .slice base ops.length c)] _ _
  refine R_seq ?_
  refine R_region ?_
  refine L_val rfl rfl rfl (OpP.v (P_assign rfl rfl)) ?_
  refine L_nil ?_
  refine Q_then ?_
  refine R_seq ?_
  refine R_region ?_
  refine L_val rfl rfl rfl (OpP.v (P_move rfl rfl)) ?_
  refine L_op rfl (W_callV rfl rfl rfl rfl fn_ca_29 (play_ok hG base c ops hmax hm 2 2) (fun w nw => ⟨(Sn.row hpre.1 rfl).rw_ w nw, fun o ho => ⟨(Sn.row (hpre.2 o ho).1 rfl).rw_ w nw, (hpre.2 o ho).2⟩⟩) ?_)
  refine L_val rfl rfl rfl (OpP.v (P_assign rfl rfl)) ?_
  refine L_nil ?_
  refine St.env (.cons (t := 2) rfl .nil) ?_
  refine Q_then ?_
  refine R_ret ?_
  exact R_endV rfl rfl (.tmp rfl .nil) (rfl)
theorem sealChecks_walk {gl : Nat → Obj} (hG : GlobsR gl) (base : Option Addr) (c : Nat) (ops : List Opr) (hmax : ops.length ≤ 1599289640354) (hm : ∀ o ∈ ops, o.m.xs.length ≤ 140737488351232) : SpecV (cx gl) 10 [.slice base ops.length c] (fun w => ScriptOK w base ops) (.bool true) := by
  refine Spec.enter (C := cx gl) Tryd.func10 rfl 5 rfl rfl fun w0 h0 hsep hsub hpre => ?_
  obtain rfl : h0 = Heap.none := hsep
  show St (cx gl) _ [(0, .slice base ops.length c)] _ _
  refine R_seq ?_
  refine R_region ?_
  refine L_val rfl rfl rfl (OpP.v (P_assign rfl rfl)) ?_
  refine L_nil ?_
  refine Q_then ?_
  refine R_seq ?_
  refine R_region ?_
  refine L_val rfl rfl rfl (OpP.v (P_move rfl rfl)) ?_
  refine L_op rfl (W_callV rfl rfl rfl rfl fn_ca_29 (play_ok hG base c ops hmax hm 3 3) (fun w nw => ⟨(Sn.row hpre.1 rfl).rw_ w nw, fun o ho => ⟨(Sn.row (hpre.2 o ho).1 rfl).rw_ w nw, (hpre.2 o ho).2⟩⟩) ?_)
  refine L_val rfl rfl rfl (OpP.v (P_assign rfl rfl)) ?_
  refine L_nil ?_
  refine St.env (.cons (t := 2) rfl .nil) ?_
  refine Q_then ?_
  refine R_ret ?_
  exact R_endV rfl rfl (.tmp rfl .nil) (rfl)
theorem sealTells_walk {gl : Nat → Obj} (hG : GlobsR gl) (base : Option Addr) (c : Nat) (ops : List Opr) (hmax : ops.length ≤ 1599289640354) (hm : ∀ o ∈ ops, o.m.xs.length ≤ 140737488351232) : SpecV (cx gl) 11 [.slice base ops.length c] (fun w => ScriptOK w base ops) (.bool true) := by
  refine Spec.enter (C := cx gl) Tryd.func11 rfl 5 rfl rfl fun w0 h0 hsep hsub hpre => ?_
  obtain rfl : h0 = Heap.none := hsep
  show St (cx gl) _ [(0, .slice base ops.length c)] _ _
  refine R_seq ?_
  refine R_region ?_
  refine L_val rfl rfl rfl (OpP.v (P_assign rfl rfl)) ?_
  refine L_nil ?_
  refine Q_then ?_
  refine R_seq ?_
  refine R_region ?_
  refine L_val rfl rfl rfl (OpP.v (P_move rfl rfl)) ?_
  refine L_op rfl (W_callV rfl rfl rfl rfl fn_ca_29 (play_ok hG base c ops hmax hm 4 6) (fun w nw => ⟨(Sn.row hpre.1 rfl).rw_ w nw, fun o ho => ⟨(Sn.row (hpre.2 o ho).1 rfl).rw_ w nw, (hpre.2 o ho).2⟩⟩) ?_)
  refine L_val rfl rfl rfl (OpP.v (P_assign rfl rfl)) ?_
  refine L_nil ?_
  refine St.env (.cons (t := 2) rfl .nil) ?_
  refine Q_then ?_
  refine R_ret ?_
  exact R_endV rfl rfl (.tmp rfl .nil) (rfl)
theorem sealAll_walk {gl : Nat → Obj} (hG : GlobsR gl) (base : Option Addr) (c : Nat) (ops : List Opr) (hmax : ops.length ≤ 1599289640354) (hm : ∀ o ∈ ops, o.m.xs.length ≤ 140737488351232) : SpecV (cx gl) 12 [.slice base ops.length c] (fun w => ScriptOK w base ops) (.bool true) := by
  refine Spec.enter (C := cx gl) Tryd.func12 rfl 56 rfl rfl fun w0 h0 hsep hsub hpre => ?_
  obtain rfl : h0 = Heap.none := hsep
  show St (cx gl) _ [(0, .slice base ops.length c)] _ _
  refine R_seq ?_
  refine R_region ?_
  refine L_val rfl rfl rfl (OpP.v (P_assign rfl rfl)) ?_
  refine L_nil ?_
  refine Q_then ?_
  refine R_seq ?_
  refine R_region ?_
  refine L_op rfl (W_call rfl rfl rfl rfl fn_ca_30 (begin_ok) (Split.nil _) (fun _ _ _ _ _ _ _ => trivial) fun v7 rs1 ⟨w, e1, e2⟩ => ?_)
  subst e1; subst e2
  refine St.res (rs' := [TWO w 0]) (Weak.refl _) ?_
  refine L_val rfl rfl rfl (OpP.v (P_move rfl rfl)) ?_
  refine L_val rfl rfl rfl (OpP.v (P_extract rfl rfl rfl)) ?_
  refine L_val rfl rfl rfl (OpP.v (P_extract rfl rfl rfl)) ?_
  refine L_val rfl rfl rfl (OpP.v (P_assign rfl rfl)) ?_
  refine L_val rfl rfl rfl (OpP.v (P_assign rfl rfl)) ?_
  refine L_nil ?_
  refine St.env (.cons (t := 0) rfl (.cons (t := 2) rfl (.cons (t := 3) rfl (.cons (t := 4) rfl .nil)))) ?_
  refine Q_then ?_
  refine R_seq ?_
  refine R_seq ?_
  refine R_region ?_
  refine L_val rfl rfl rfl (OpP.v (P_move rfl rfl)) ?_
  refine E_true (t := 10) rfl (rfl) ?_
  refine L_val rfl rfl rfl (OpP.v (P_not rfl rfl)) ?_
  refine L_nil ?_
  refine St.env (.cons (t := 0) rfl (.cons (t := 2) rfl (.cons (t := 3) rfl (.cons (t := 4) rfl (.cons (t := 11) rfl .nil))))) ?_
  refine Q_then ?_
  refine R_condF rfl ?_
  refine R_skip ?_
  refine Q_then ?_
  refine R_seq ?_
  refine R_seq ?_
  refine R_region ?_
  refine L_val rfl rfl rfl (OpP.v (P_assign rfl rfl)) ?_
  refine L_nil ?_
  refine St.env (.cons (t := 0) rfl (.cons (t := 2) rfl (.cons (t := 3) rfl (.cons (t := 4) rfl (.cons (t := 5) rfl .nil))))) ?_
  refine Q_then ?_
  refine R_block ?_
  refine R_loopE (G := Nat) (.cons (t := 0) rfl (.cons (t := 2) rfl (.cons (t := 3) rfl .nil))) (fun g => [(4, .bool true), (5, .int .i64 (g : Int))]) (fun g => [TWO w g]) (fun g => g ≤ ops.length) (fun g => ops.length - g) (0) (Nat.zero_le _) (by repeat (first | exact .nil | refine .cons rfl ?_ | refine .consE rfl (by first | rfl | (congr 1; omega) | (congr 1; push_cast; omega)) ?_)) (Weak.refl _) ?_
  intro i hinv
  replace hinv : i ≤ ops.length := hinv
  show St (cx gl) _ ((4, .bool true) :: (5, .int .i64 (i : Int)) :: _) [TWO w i] _
  have hi := hinv
  refine R_seq ?_
  refine R_seq ?_
  refine R_region ?_
  refine L_val rfl rfl rfl (OpP.v (P_move rfl rfl)) ?_
  refine L_val rfl rfl rfl (OpP.v (P_move rfl rfl)) ?_
  refine L_val rfl rfl rfl (OpP.v (P_len rfl ty_sl_39 rfl)) ?_
  refine L_val rfl rfl rfl (OpP.v (P_lss rfl rfl rfl)) ?_
  refine L_nil ?_
  refine Q_then ?_
  refine R_condP rfl (fun hlt0 => ?_) (fun hlt0 => ?_)
  · skip
    have hlt : i < ops.length := by omega
    obtain ⟨o, ho⟩ : ∃ o, ops[i]? = some o := ⟨_, List.getElem?_eq_getElem hlt⟩
    obtain ⟨hrow, hob, hosl⟩ := hpre.2 o (List.mem_of_getElem? ho)
    have hom := hm o (List.mem_of_getElem? ho)
    have h16 : ∀ o ∈ ops, o.sl.length = 16 := fun o ho => (hpre.2 o ho).2.2
    rcases hpre.1.cases with hz | ⟨ab, aj, rfl, hra⟩
    · exfalso; have h1 := opsC_at h16 ho 0 _ rfl; rw [hz] at h1; cases h1
    refine R_skip ?_
    refine Q_then ?_
    refine R_seq ?_
    refine R_block ?_
    refine R_seq ?_
    refine R_region ?_
    refine L_val rfl rfl rfl (OpP.v (P_move rfl rfl)) ?_
    refine L_val rfl rfl rfl (OpP.v (P_move rfl rfl)) ?_
    refine L_val rfl rfl rfl (OpP.v (P_move rfl rfl)) ?_
    refine L_val rfl rfl rfl (OpP.v (P_ixs (i) rfl ty_sl_39 rfl rfl (by first | rfl | omega) (by omega))) ?_
    refine L_val rfl rfl rfl (V_loadAgg rfl rfl ty_ag_72 (Rds.sn (k := i * 23) (Sn.row hpre.1 rfl) (fun j v hj => opsC_at h16 ho j v hj)) (opC_length hosl)) ?_
    refine L_op rfl (W_callR rfl rfl rfl rfl fn_ca_31 (step_ok hG w i (by omega) o.kd o.wh o.at_ o.a o.m.b o.m.c o.m.xs o.sl o.tw o.lg hosl hom hob) (Split.one (p := [])) (Sn.pre (Sn.row hrow rfl)) ?_)
    refine St.res (rs' := [TWO w (i + 1)]) (Weak.refl _) ?_
    refine L_val rfl rfl rfl (OpP.v (P_assign rfl rfl)) ?_
    refine L_nil ?_
    refine Q_then ?_
    refine R_seq ?_
    refine St.openP (p := []) (fun ⟨⟨p0, q0, sg0, tg0, rc0, vs0, vt0⟩, ⟨p1, q1, sg1, tg1, rc1, vs1, vt1⟩, z, ss⟩ hok => ?_)
    refine St.unbundle [] ?_
    refine St.res (rs' := [blk w [.pointer (some ⟨p0, 0, none⟩), .pointer (some ⟨p1, 0, none⟩), .pointer (some ⟨q0, 0, none⟩), .pointer (some ⟨q1, 0, none⟩), vs0, vs1, vt0, vt1, z] 79, REG p0 (sg0) (rc0), REF q0 (tg0) (rc0), ownS 27 1 (vs0) (sg0).length (ptrs (sg0)), ownS 114 1 (vt0) (tg0).length (ptrs (tg0)), REG p1 (sg1) (rc1), REF q1 (tg1) (rc1), ownS 27 1 (vs1) (sg1).length (ptrs (sg1)), ownS 114 1 (vt1) (tg1).length (ptrs (tg1)), ownS 33 16 (z) (ss).length (flat .u8 (ss))]) (Weak.refl _) ?_
    refine R_open [(0, 0), (1, 0), (2, 0), (3, 0), (4, 0), (5, 0), (6, 0), (7, 1), (9, 0), (10, 0), (11, 0), (12, 0), (13, 1), (8, 2), (14, 2), (15, 0), (16, 0), (17, 0), (18, 0), (19, 0), (20, 0), (21, 0), (22, 1), (24, 0), (25, 0), (26, 0), (27, 0), (28, 1), (23, 2), (29, 2), (30, 0), (31, 0)] mixed (by kernel_rfl) (QOk.then (QOk.block (QOk.then (QOk.then (QOk.block (QOk.then QOk.body)))))) ?_
    refine O_pure rfl rfl rfl rfl (P_move rfl rfl) ?_
    refine E_true (t := 24) rfl (rfl) ?_
    refine O_pure rfl rfl rfl rfl (P_not rfl rfl) ?_
    refine O_pure rfl rfl rfl rfl (P_move rfl rfl) ?_
    refine O_pure rfl rfl rfl rfl (P_move rfl rfl) ?_
    refine O_pure rfl rfl rfl rfl (P_nil rfl rfl) ?_
    refine O_pure rfl rfl rfl rfl (P_fld0 rfl ty_fl_79_0 rfl) ?_
    first | (refine O_pure rfl rfl rfl rfl (P_ixa0 (0) rfl ty_ar_53 rfl rfl (by first | rfl | omega) (by omega)) ?_) | (refine O_pure rfl rfl rfl rfl (P_ixa (0) rfl ty_ar_53 rfl rfl (by first | rfl | omega) (by omega)) ?_)
    refine O_val rfl rfl rfl rfl (V_load rfl rfl ty_sc_25 (by first | exact Rd.blk .h0 rfl | exact Rd.blk .h1 rfl | exact Rd.blk .h2 rfl | exact Rd.blk .h3 rfl)) ?_
    refine O_pure rfl rfl rfl rfl (P_move rfl rfl) ?_
    refine O_pure rfl rfl rfl rfl (P_nil rfl rfl) ?_
    refine O_pure rfl rfl rfl rfl (P_fld0 rfl ty_fl_79_1 rfl) ?_
    first | (refine O_pure rfl rfl rfl rfl (P_ixa0 (0) rfl ty_ar_74 rfl rfl (by first | rfl | omega) (by omega)) ?_) | (refine O_pure rfl rfl rfl rfl (P_ixa (0) rfl ty_ar_74 rfl rfl (by first | rfl | omega) (by omega)) ?_)
    refine O_val rfl rfl rfl rfl (V_load rfl rfl ty_sc_73 (by first | exact Rd.blk .h0 rfl | exact Rd.blk .h1 rfl | exact Rd.blk .h2 rfl | exact Rd.blk .h3 rfl)) ?_
    refine O_keep rfl rfl (W_callR rfl rfl rfl rfl fn_ca_23 (count_ok p0 sg0 rc0) (Split.one (p := [_])) (fun _ _ _ _ _ _ _ => trivial) (K_keep (Weak.p1 (Weak.refl _)) ?_))
    refine O_keep rfl rfl (W_callR rfl rfl rfl rfl fn_ca_32 (rcount_ok q0 tg0 rc0) (Split.one (p := [_, _])) (fun _ _ _ _ _ _ _ => trivial) (K_keep (Weak.p1 (Weak.p1 (Weak.refl _))) ?_))
    refine O_pure rfl rfl rfl rfl (P_neq rfl rfl rfl) ?_
    refine E_false (t := 39) rfl (decide_eq_false (fun h => h rfl)) ?_
    refine O_pure rfl rfl rfl rfl (P_pick rfl rfl rfl) ?_
    refine O_pure rfl rfl rfl rfl (P_move rfl rfl) ?_
    refine O_pure rfl rfl rfl rfl (P_move rfl rfl) ?_
    refine O_pure rfl rfl rfl rfl (P_nil rfl rfl) ?_
    refine O_pure rfl rfl rfl rfl (P_fld0 rfl ty_fl_79_0 rfl) ?_
    first | (refine O_pure rfl rfl rfl rfl (P_ixa0 (1) rfl ty_ar_53 rfl rfl (by first | rfl | omega) (by omega)) ?_) | (refine O_pure rfl rfl rfl rfl (P_ixa (1) rfl ty_ar_53 rfl rfl (by first | rfl | omega) (by omega)) ?_)
    refine O_val rfl rfl rfl rfl (V_load rfl rfl ty_sc_25 (by first | exact Rd.blk .h0 rfl | exact Rd.blk .h1 rfl | exact Rd.blk .h2 rfl | exact Rd.blk .h3 rfl)) ?_
    refine O_pure rfl rfl rfl rfl (P_move rfl rfl) ?_
    refine O_pure rfl rfl rfl rfl (P_nil rfl rfl) ?_
    refine O_pure rfl rfl rfl rfl (P_fld0 rfl ty_fl_79_1 rfl) ?_
    first | (refine O_pure rfl rfl rfl rfl (P_ixa0 (1) rfl ty_ar_74 rfl rfl (by first | rfl | omega) (by omega)) ?_) | (refine O_pure rfl rfl rfl rfl (P_ixa (1) rfl ty_ar_74 rfl rfl (by first | rfl | omega) (by omega)) ?_)
    refine O_val rfl rfl rfl rfl (V_load rfl rfl ty_sc_73 (by first | exact Rd.blk .h0 rfl | exact Rd.blk .h1 rfl | exact Rd.blk .h2 rfl | exact Rd.blk .h3 rfl)) ?_
    refine O_keep rfl rfl (W_callR rfl rfl rfl rfl fn_ca_23 (count_ok p1 sg1 rc1) (Split.one (p := [_, _, _, _, _])) (fun _ _ _ _ _ _ _ => trivial) (K_keep (Weak.p1 (Weak.p1 (Weak.p1 (Weak.p1 (Weak.p1 (Weak.refl _)))))) ?_))
    refine O_keep rfl rfl (W_callR rfl rfl rfl rfl fn_ca_32 (rcount_ok q1 tg1 rc1) (Split.one (p := [_, _, _, _, _, _])) (fun _ _ _ _ _ _ _ => trivial) (K_keep (Weak.p1 (Weak.p1 (Weak.p1 (Weak.p1 (Weak.p1 (Weak.p1 (Weak.refl _))))))) ?_))
    refine O_pure rfl rfl rfl rfl (P_neq rfl rfl rfl) ?_
    refine E_false (t := 54) rfl (decide_eq_false (fun h => h rfl)) ?_
    refine O_pure rfl rfl rfl rfl (P_pick rfl rfl rfl) ?_
    refine O_nil ?_
    refine Q_then ?_
    refine R_condF rfl ?_
    refine R_skip ?_
    refine Q_block ?_
    refine Q_then ?_
    refine R_region ?_
    refine L_val rfl rfl rfl (OpP.v (P_move rfl rfl)) ?_
    first | (refine L_val rfl rfl rfl (OpP.v (P_addN rfl rfl rfl (by simp only [fits]; omega))) ?_) | (refine L_val rfl rfl rfl (OpP.v (P_add rfl rfl rfl)) ?_)
    refine L_val rfl rfl rfl (OpP.v (P_assign rfl rfl)) ?_
    refine L_nil ?_
    exact Q_round (i + 1) (by show (i + 1) ≤ ops.length; omega) (by show ops.length - (i + 1) < ops.length - i; omega) (by repeat (first | exact .nil | refine .cons rfl ?_ | refine .consE rfl (by first | rfl | (congr 1; omega) | (congr 1; push_cast; omega)) ?_)) ((Weak.pick (p := [_, _, _, _]) (Weak.pick (p := [_, _, _]) (Weak.pick (p := [_, _]) (Weak.pick (p := [_, _]) (Weak.pick (p := [_, _]) (Weak.pick (p := [_]) (Weak.keep (Weak.keep (Weak.keep (Weak.keep (Weak.nil _))))))))))).trans (two_close (n := i + 1) (rs := []) ⟨⟨p0, q0, sg0, tg0, rc0, vs0, vt0⟩, ⟨p1, q1, sg1, tg1, rc1, vs1, vt1⟩, z, ss⟩ hok))
  · skip
    obtain rfl : i = ops.length := by omega
    refine R_exit ?_
    refine Q_then_exit ?_
    refine Q_then_exit ?_
    refine Q_block_eq ?_
    refine St.env (.cons (t := 2) rfl .nil) ?_
    refine Q_then ?_
    refine R_seq ?_
    refine R_region ?_
    refine L_val rfl rfl rfl (OpP.v (P_assign rfl rfl)) ?_
    refine L_nil ?_
    refine Q_then ?_
    refine R_ret ?_
    exact R_endV rfl rfl (.tmp rfl .nil) (rfl)
end Go.Proofs.YtnaadddnbfnahaaDoor
