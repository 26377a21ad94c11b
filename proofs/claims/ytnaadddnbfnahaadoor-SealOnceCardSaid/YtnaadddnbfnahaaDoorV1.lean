/- The book beside two registries: find, entered, truth. Printed by gen.py. -/
import Derived.Test.YtnaadddnbfnahaaDoorV0
set_option linter.unusedVariables false
set_option linter.unusedSimpArgs false
set_option maxRecDepth 100000
namespace Go.Proofs.YtnaadddnbfnahaaDoor
open Go Go.RowKit Go.Proofs
abbrev Wrt := Int × Rcd
def findBA (x : Wrt) : List Wrt → Nat → Int
  | [], _ => -1
  | y :: l, i => if y = x then (i : Int) else findBA x l (i + 1)
def findB (bk : List Wrt) (x : Wrt) : Int := findBA x bk 0
theorem findBA_none {x : Wrt} : ∀ {l : List Wrt} {i : Nat}, x ∉ l → findBA x l i = -1
  | [], _, _ => rfl
  | y :: l, i, h => by
    unfold findBA
    rw [if_neg (fun e => h (by rw [e]; simp)), findBA_none (fun e => h (by simp [e]))]
theorem findBA_at {x : Wrt} : ∀ {l : List Wrt} {i j : Nat}, l[j]? = some x → (∀ m, m < j → ∀ y, l[m]? = some y → y ≠ x) → findBA x l i = ((i + j : Nat) : Int)
  | [], _, _, h, _ => by cases h
  | y :: l, i, 0, h, _ => by
    simp only [List.getElem?_cons_zero, Option.some.injEq] at h
    unfold findBA
    rw [if_pos h]; rfl
  | y :: l, i, j + 1, h, hh => by
    unfold findBA
    rw [if_neg (hh 0 (by omega) y rfl), findBA_at (j := j) (by simpa using h) fun m hm z hz => hh (m + 1) (by omega) z (by simpa using hz)]
    congr 1; omega
theorem findB_none {bk : List Wrt} {x : Wrt} (h : x ∉ bk) : findB bk x = -1 := findBA_none h
theorem findB_at {bk : List Wrt} {x : Wrt} {j : Nat} (h : bk[j]? = some x) (hh : ∀ m, m < j → ∀ y, bk[m]? = some y → y ≠ x) : findB bk x = j := by
  have := findBA_at (i := 0) h hh
  rw [Nat.zero_add] at this; exact this
theorem findB_mem {bk : List Wrt} {x : Wrt} (h : x ∈ bk) : ∃ j : Nat, findB bk x = j ∧ bk[j]? = some x := by
  have key : ∀ (l : List Wrt) (i : Nat), x ∈ l → ∃ j : Nat, findBA x l i = ((i + j : Nat) : Int) ∧ l[j]? = some x := by
    intro l
    induction l with
    | nil => intro i h; cases h
    | cons y l ih =>
      intro i h
      unfold findBA
      by_cases e : y = x
      · exact ⟨0, by rw [if_pos e]; rfl, by simp [e]⟩
      · rw [if_neg e]
        obtain ⟨j, h1, h2⟩ := ih (i + 1) (by rcases List.mem_cons.1 h with h | h; exact absurd h.symm e; exact h)
        exact ⟨j + 1, by rw [h1]; congr 1; omega, by simpa using h2⟩
  obtain ⟨j, h1, h2⟩ := key bk 0 h
  exact ⟨j, by unfold findB; rw [h1, Nat.zero_add], h2⟩
def rcOf (k : Int) (bk : List Wrt) : List Rcd := (bk.filter fun x => x.1 = k).map (·.2)
theorem mem_rcOf {k : Int} {bk : List Wrt} {x : Rcd} : x ∈ rcOf k bk ↔ (k, x) ∈ bk := by
  unfold rcOf
  rw [List.mem_map]
  constructor
  · rintro ⟨y, hy, rfl⟩
    obtain ⟨h1, h2⟩ := List.mem_filter.1 hy
    have : y.1 = k := by simpa using h2
    rw [← this]; exact h1
  · intro h; exact ⟨(k, x), List.mem_filter.2 ⟨h, by simp⟩, rfl⟩
theorem rcOf_le (k : Int) (bk : List Wrt) : (rcOf k bk).length ≤ bk.length := by unfold rcOf; rw [List.length_map]; exact List.length_filter_le _ _
/-- The book with one record more, if it isn't there yet. -/
def addB (bk : List Wrt) (x : Wrt) : List Wrt := if x ∈ bk then bk else bk ++ [x]
theorem rcOf_addB (k : Int) (bk : List Wrt) (x : Rcd) : rcOf k (addB bk (k, x)) = addR (rcOf k bk) x := by
  unfold addB addR
  by_cases h : (k, x) ∈ bk
  · rw [if_pos h, if_pos (mem_rcOf.2 h)]
  · rw [if_neg h, if_neg (fun e => h (mem_rcOf.1 e))]
    unfold rcOf; rw [List.filter_append, List.map_append]; simp
theorem rcOf_addB' {k j : Int} (hkj : k ≠ j) (bk : List Wrt) (x : Rcd) : rcOf j (addB bk (k, x)) = rcOf j bk := by
  unfold addB
  split
  · rfl
  · unfold rcOf; rw [List.filter_append, List.map_append]; simp [hkj]
theorem addB_le {bk : List Wrt} {x : Wrt} {n : Nat} (h : bk.length ≤ n) : (addB bk x).length ≤ n + 1 := by
  unfold addB
  split
  · omega
  · rw [List.length_append, List.length_singleton]; omega
def BkOK (bk : List Wrt) : Prop := ∀ x ∈ bk, (x.1 = 0 ∨ x.1 = 1) ∧ IsB x.2.2 ∧ x.2.2.length ≤ 1048576
theorem BkOK.add {bk : List Wrt} {x : Wrt} (h : BkOK bk) (h1 : x.1 = 0 ∨ x.1 = 1) (h2 : IsB x.2.2) (h3 : x.2.2.length ≤ 1048576) : BkOK (addB bk x) := by
  unfold addB
  split
  · exact h
  · intro y hy
    rcases List.mem_append.1 hy with hy | hy
    · exact h y hy
    · simp only [List.mem_singleton] at hy; subst hy; exact ⟨h1, h2, h3⟩
def wrC (x : Wrt) : List Value := [.int .i64 x.1, .int .u64 x.2.1, .string (strOfNums x.2.2)] ++ ints .u8 (sealH x.2.1 x.2.2)
theorem wrC_length (x : Wrt) : (wrC x).length = 19 := by unfold wrC; simp [ints_length, sealH_length]
def bkC (bk : List Wrt) : List Value := bk.flatMap wrC
theorem bkC_at {bk : List Wrt} {i : Nat} {x : Wrt} (hi : bk[i]? = some x) (j : Nat) (v : Value) (hj : (wrC x)[j]? = some v) : (bkC bk)[i * 19 + j]? = some v := rows_at (fun x _ => wrC_length x) hi j v hj
theorem wrC_seal (x : Wrt) (i : Nat) (v : Value) (h : (ints .u8 (sealH x.2.1 x.2.2))[i]? = some v) : (wrC x)[3 + i]? = some v := by
  unfold wrC
  rw [List.getElem?_append_right (by simp)]
  simpa using h
theorem wrC_one (x : Wrt) : ∀ v ∈ wrC x, v.oneCell' = true := fun v hv => by
  unfold wrC at hv
  rcases List.mem_append.1 hv with hv | hv
  · simp only [List.mem_cons, List.not_mem_nil, or_false] at hv
    rcases hv with rfl | rfl | rfl <;> rfl
  · exact ints_one v hv
structure SgX where
  p0 : Nat
  p1 : Nat
  sg0 : List (Int × Nat)
  sg1 : List (Int × Nat)
  S0 : Value
  S1 : Value
  A0 : Value
  A1 : Value
  B : Value
def sgL (w : Nat) (bk : List Wrt) (x : SgX) : List HP := [blk w [.pointer (some ⟨x.p0, 0, none⟩), .pointer (some ⟨x.p1, 0, none⟩), x.S0, x.S1, x.A0, x.A1, x.B, .bool false] 59,
  REG x.p0 x.sg0 (rcOf 0 bk), ownS 27 1 x.S0 x.sg0.length (ptrs x.sg0), ownS 23 1 x.A0 x.sg0.length (ints .u64 (enOf x.sg0)),
  REG x.p1 x.sg1 (rcOf 1 bk), ownS 27 1 x.S1 x.sg1.length (ptrs x.sg1), ownS 23 1 x.A1 x.sg1.length (ints .u64 (enOf x.sg1)), ownS 64 19 x.B bk.length (bkC bk)]
/-- Two registries and the book beside them: who was entered, what was signed. -/
def SIGHT (w : Nat) (e0 e1 : List Int) (bk : List Wrt) : HP := ExP (fun x : SgX => enOf x.sg0 = e0 ∧ enOf x.sg1 = e1) fun x => bundle (sgL w bk x)
theorem sight_close {w : Nat} {bk : List Wrt} {rs : List HP} (x : SgX) : Weak (sgL w bk x ++ rs) (SIGHT w (enOf x.sg0) (enOf x.sg1) bk :: rs) := Weak.bundle.trans (Weak.toEx (p := fun y : SgX => enOf y.sg0 = enOf x.sg0 ∧ enOf y.sg1 = enOf x.sg1) (s := fun x => bundle (sgL w bk x)) x ⟨rfl, rfl⟩)
section
variable {C : Cx} {F : Fx} {rs : List HP}
theorem rd_wr {T b cap n i : Nat} {bk : List Wrt} {x : Wrt} (m : Has rs (ownS T 19 (.slice (some ⟨b, 0, none⟩) n cap) n (bkC bk)) (ownS T 19 (.slice (some ⟨b, 0, none⟩) n cap) n (bkC bk)) rs) (hi : bk[i]? = some x) : Rd C F rs ⟨b, 0 + i * 19, none⟩ (.int .i64 x.1) ∧ Rd C F rs ⟨b, 0 + i * 19 + 1, none⟩ (.int .u64 x.2.1) ∧ Rd C F rs ⟨b, 0 + i * 19 + 2, none⟩ (.string (strOfNums x.2.2)) := by
  have h0 := bkC_at hi 0 _ rfl
  have h1 := bkC_at hi 1 _ rfl
  have h2 := bkC_at hi 2 _ rfl
  rw [Nat.zero_add]
  exact ⟨Rd.own m h0, Rd.own m h1, Rd.own m h2⟩
end
theorem find_ok {gl : Nat → Obj} (w : Nat) (x0 x1 x2 x3 x4 x5 x7 : Value) (bb : Option Addr) (bc : Nat) (bk : List Wrt) (hbk : BkOK bk) (hbl : bk.length ≤ 1599289640354) (k a : Int) (m : List Int) (hmb : IsB m) : SpecR (cx gl) 61 [.pointer (some ⟨w, 0, none⟩), .int .i64 k, .int .u64 a, .string (strOfNums m)] (fun _ _ => True) [blk w [x0, x1, x2, x3, x4, x5, .slice bb bk.length bc, x7] 59, ownS 64 19 (.slice bb bk.length bc) bk.length (bkC bk)] (.int .i64 (findB bk (k, a, m))) [blk w [x0, x1, x2, x3, x4, x5, .slice bb bk.length bc, x7] 59, ownS 64 19 (.slice bb bk.length bc) bk.length (bkC bk)] := by
  refine Spec.enter (C := cx gl) Tryd.func61 rfl 54 rfl rfl fun w0 h0 hsep hsub hpre => ?_
  show St (cx gl) _ [(0, .pointer (some ⟨w, 0, none⟩)), (1, .int .i64 k), (2, .int .u64 a), (3, .string (strOfNums m))] _ _
  refine R_seq ?_
  refine R_region ?_
  refine L_val rfl rfl rfl (OpP.v (P_assign rfl rfl)) ?_
  refine L_nil ?_
  refine Q_then ?_
  refine R_seq ?_
  refine R_seq ?_
  refine R_region ?_
  refine L_val rfl rfl rfl (OpP.v (P_assign rfl rfl)) ?_
  refine L_nil ?_
  refine Q_then ?_
  refine R_block ?_
  refine R_loopE (G := Nat) (.cons (t := 0) rfl (.cons (t := 1) rfl (.cons (t := 2) rfl (.cons (t := 3) rfl (.cons (t := 8) rfl .nil))))) (fun g => [(9, .int .i64 (g : Int))]) (fun _ => _) (fun g => g ≤ bk.length ∧ ∀ j, j < g → ∀ y, bk[j]? = some y → y ≠ (k, a, m)) (fun g => bk.length - g) (0) (⟨Nat.zero_le _, fun j hj => by omega⟩) (by repeat (first | exact .nil | refine .cons rfl ?_ | refine .consE rfl (by first | rfl | (congr 1; omega) | (congr 1; push_cast; omega)) ?_)) (Weak.refl _) ?_
  intro i hinv
  replace hinv : i ≤ bk.length ∧ ∀ j, j < i → ∀ y, bk[j]? = some y → y ≠ (k, a, m) := hinv
  show St (cx gl) _ ((9, .int .i64 (i : Int)) :: _) _ _
  obtain ⟨hi, hall⟩ := hinv
  refine R_seq ?_
  refine R_seq ?_
  refine R_region ?_
  refine L_val rfl rfl rfl (OpP.v (P_move rfl rfl)) ?_
  refine L_val rfl rfl rfl (OpP.v (P_move rfl rfl)) ?_
  refine L_val rfl rfl rfl (OpP.v (P_nil rfl rfl)) ?_
  refine L_val rfl rfl rfl (OpP.v (P_fld0 rfl ty_fl_59_3 rfl)) ?_
  refine L_val rfl rfl rfl (V_load rfl rfl ty_sc_57 (by first | exact Rd.blk .h0 rfl | exact Rd.blk .h1 rfl | exact Rd.blk .h2 rfl | exact Rd.blk .h3 rfl | exact Rd.blk .h4 rfl | exact Rd.blk .h5 rfl | exact Rd.blk .h6 rfl | exact Rd.blk .h7 rfl)) ?_
  refine L_val rfl rfl rfl (OpP.v (P_len rfl ty_sl_57 rfl)) ?_
  refine L_val rfl rfl rfl (OpP.v (P_lss rfl rfl rfl)) ?_
  refine L_nil ?_
  refine Q_then ?_
  refine R_condP rfl (fun hlt0 => ?_) (fun hlt0 => ?_)
  · skip
    have hlt : i < bk.length := by omega
    refine St.ownSome (p := [_]) (by omega) fun bbb bbc hq _ => ?_
    simp only [Value.slice.injEq] at hq
    obtain ⟨rfl, _, rfl⟩ := hq
    obtain ⟨x, hx⟩ : ∃ x, bk[i]? = some x := ⟨_, List.getElem?_eq_getElem hlt⟩
    have hxb := hbk x (List.mem_of_getElem? hx)
    refine R_skip ?_
    refine Q_then ?_
    refine R_seq ?_
    refine R_block ?_
    refine R_seq ?_
    refine R_region ?_
    refine L_val rfl rfl rfl (OpP.v (P_move rfl rfl)) ?_
    refine L_val rfl rfl rfl (OpP.v (P_nil rfl rfl)) ?_
    refine L_val rfl rfl rfl (OpP.v (P_fld0 rfl ty_fl_59_3 rfl)) ?_
    refine L_val rfl rfl rfl (V_load rfl rfl ty_sc_57 (by first | exact Rd.blk .h0 rfl | exact Rd.blk .h1 rfl | exact Rd.blk .h2 rfl | exact Rd.blk .h3 rfl | exact Rd.blk .h4 rfl | exact Rd.blk .h5 rfl | exact Rd.blk .h6 rfl | exact Rd.blk .h7 rfl)) ?_
    refine L_val rfl rfl rfl (OpP.v (P_move rfl rfl)) ?_
    refine L_val rfl rfl rfl (OpP.v (P_ixs (i) rfl ty_sl_57 rfl rfl (by first | rfl | omega) (by omega))) ?_
    refine L_val rfl rfl rfl (OpP.v (P_fld rfl ty_fl_64_0 rfl)) ?_
    refine L_val rfl rfl rfl (V_load rfl rfl ty_sc_3 ((rd_wr .h1 hx).1)) ?_
    refine L_val rfl rfl rfl (OpP.v (P_move rfl rfl)) ?_
    refine L_val rfl rfl rfl (OpP.v (P_eql rfl rfl rfl)) ?_
    refine L_val rfl rfl rfl (OpP.v (P_move rfl rfl)) ?_
    refine E_bool (t := 29) rfl (fun hg1 => ?_) (fun hg1 => ?_)
    · skip
      refine L_val rfl rfl rfl (OpP.v (P_move rfl rfl)) ?_
      refine L_val rfl rfl rfl (OpP.v (P_nil rfl rfl)) ?_
      refine L_val rfl rfl rfl (OpP.v (P_fld0 rfl ty_fl_59_3 rfl)) ?_
      refine L_val rfl rfl rfl (V_load rfl rfl ty_sc_57 (by first | exact Rd.blk .h0 rfl | exact Rd.blk .h1 rfl | exact Rd.blk .h2 rfl | exact Rd.blk .h3 rfl | exact Rd.blk .h4 rfl | exact Rd.blk .h5 rfl | exact Rd.blk .h6 rfl | exact Rd.blk .h7 rfl)) ?_
      refine L_val rfl rfl rfl (OpP.v (P_move rfl rfl)) ?_
      refine L_val rfl rfl rfl (OpP.v (P_ixs (i) rfl ty_sl_57 rfl rfl (by first | rfl | omega) (by omega))) ?_
      refine L_val rfl rfl rfl (OpP.v (P_fld rfl ty_fl_64_1 rfl)) ?_
      refine L_val rfl rfl rfl (V_load rfl rfl ty_sc_23 ((rd_wr .h1 hx).2.1)) ?_
      refine L_val rfl rfl rfl (OpP.v (P_move rfl rfl)) ?_
      refine L_val rfl rfl rfl (OpP.v (P_eql rfl rfl rfl)) ?_
      refine L_val rfl rfl rfl (OpP.v (P_pick rfl rfl rfl)) ?_
      refine L_val rfl rfl rfl (OpP.v (P_move rfl rfl)) ?_
      refine E_bool (t := 41) rfl (fun hg2 => ?_) (fun hg2 => ?_)
      · skip
        refine L_val rfl rfl rfl (OpP.v (P_move rfl rfl)) ?_
        refine L_val rfl rfl rfl (OpP.v (P_nil rfl rfl)) ?_
        refine L_val rfl rfl rfl (OpP.v (P_fld0 rfl ty_fl_59_3 rfl)) ?_
        refine L_val rfl rfl rfl (V_load rfl rfl ty_sc_57 (by first | exact Rd.blk .h0 rfl | exact Rd.blk .h1 rfl | exact Rd.blk .h2 rfl | exact Rd.blk .h3 rfl | exact Rd.blk .h4 rfl | exact Rd.blk .h5 rfl | exact Rd.blk .h6 rfl | exact Rd.blk .h7 rfl)) ?_
        refine L_val rfl rfl rfl (OpP.v (P_move rfl rfl)) ?_
        refine L_val rfl rfl rfl (OpP.v (P_ixs (i) rfl ty_sl_57 rfl rfl (by first | rfl | omega) (by omega))) ?_
        refine L_val rfl rfl rfl (OpP.v (P_fld rfl ty_fl_64_2 rfl)) ?_
        refine L_val rfl rfl rfl (V_load rfl rfl ty_sc_9 ((rd_wr .h1 hx).2.2)) ?_
        refine L_val rfl rfl rfl (OpP.v (P_move rfl rfl)) ?_
        refine L_val rfl rfl rfl (OpP.v (P_eqStr rfl rfl rfl hxb.2.1 hmb)) ?_
        refine L_val rfl rfl rfl (OpP.v (P_pick rfl rfl rfl)) ?_
        refine L_nil ?_
        refine Q_then ?_
        refine R_condP rfl (fun hg3 => ?_) (fun hg3 => ?_)
        · skip
          refine R_seq ?_
          refine R_region ?_
          refine L_val rfl rfl rfl (OpP.v (P_move rfl rfl)) ?_
          refine L_val rfl rfl rfl (OpP.v (P_assign rfl rfl)) ?_
          refine L_nil ?_
          refine Q_then ?_
          refine R_ret ?_
          refine Q_block_ret ?_
          refine Q_then_ret ?_
          refine Q_then_ret ?_
          refine Q_block_ret ?_
          refine Q_then_ret ?_
          exact R_end (rs2 := _) rfl rfl (.tmp rfl .nil) (⟨by show Value.int .i64 _ = Value.int .i64 _; rw [findB_at (j := i) (by rw [hx, show x = (k, a, m) from Prod.ext (of_decide_eq_true hg1) (Prod.ext (of_decide_eq_true hg2) hg3)]) hall], rfl⟩) (Weak.refl _)
        · skip
          refine R_skip ?_
          refine Q_block ?_
          refine Q_then ?_
          refine R_region ?_
          refine L_val rfl rfl rfl (OpP.v (P_move rfl rfl)) ?_
          first | (refine L_val rfl rfl rfl (OpP.v (P_addN rfl rfl rfl (by simp only [fits]; omega))) ?_) | (refine L_val rfl rfl rfl (OpP.v (P_add rfl rfl rfl)) ?_)
          refine L_val rfl rfl rfl (OpP.v (P_assign rfl rfl)) ?_
          refine L_nil ?_
          exact Q_round (i + 1) (⟨by show i + 1 ≤ _; omega, fun j hj y hy => by
              by_cases h : j < i
              · exact hall j h y hy
              · obtain rfl : j = i := by (have hj : j < i + 1 := hj); omega
                rw [hx, Option.some.injEq] at hy
                subst hy; intro e; subst e; exact hg3 rfl⟩) (by show bk.length - (i + 1) < bk.length - i; omega) (by repeat (first | exact .nil | refine .cons rfl ?_ | refine .consE rfl (by first | rfl | (congr 1; omega) | (congr 1; push_cast; omega)) ?_)) (Weak.refl _)
      · skip
        refine L_no rfl rfl rfl ?_
        refine L_no rfl rfl rfl ?_
        refine L_no rfl rfl rfl ?_
        refine L_no rfl rfl rfl ?_
        refine L_no rfl rfl rfl ?_
        refine L_no rfl rfl rfl ?_
        refine L_no rfl rfl rfl ?_
        refine L_no rfl rfl rfl ?_
        refine L_no rfl rfl rfl ?_
        refine L_no rfl rfl rfl ?_
        refine L_val rfl rfl rfl (OpP.v (P_pick rfl rfl rfl)) ?_
        refine L_nil ?_
        refine Q_then ?_
        refine R_condF rfl ?_
        refine R_skip ?_
        refine Q_block ?_
        refine Q_then ?_
        refine R_region ?_
        refine L_val rfl rfl rfl (OpP.v (P_move rfl rfl)) ?_
        first | (refine L_val rfl rfl rfl (OpP.v (P_addN rfl rfl rfl (by simp only [fits]; omega))) ?_) | (refine L_val rfl rfl rfl (OpP.v (P_add rfl rfl rfl)) ?_)
        refine L_val rfl rfl rfl (OpP.v (P_assign rfl rfl)) ?_
        refine L_nil ?_
        exact Q_round (i + 1) (⟨by show i + 1 ≤ _; omega, fun j hj y hy => by
            by_cases h : j < i
            · exact hall j h y hy
            · obtain rfl : j = i := by (have hj : j < i + 1 := hj); omega
              rw [hx, Option.some.injEq] at hy
              subst hy; intro e; subst e; exact of_decide_eq_false hg2 rfl⟩) (by show bk.length - (i + 1) < bk.length - i; omega) (by repeat (first | exact .nil | refine .cons rfl ?_ | refine .consE rfl (by first | rfl | (congr 1; omega) | (congr 1; push_cast; omega)) ?_)) (Weak.refl _)
    · skip
      refine L_no rfl rfl rfl ?_
      refine L_no rfl rfl rfl ?_
      refine L_no rfl rfl rfl ?_
      refine L_no rfl rfl rfl ?_
      refine L_no rfl rfl rfl ?_
      refine L_no rfl rfl rfl ?_
      refine L_no rfl rfl rfl ?_
      refine L_no rfl rfl rfl ?_
      refine L_no rfl rfl rfl ?_
      refine L_no rfl rfl rfl ?_
      refine L_val rfl rfl rfl (OpP.v (P_pick rfl rfl rfl)) ?_
      refine L_val rfl rfl rfl (OpP.v (P_move rfl rfl)) ?_
      refine L_no rfl rfl rfl ?_
      refine L_no rfl rfl rfl ?_
      refine L_no rfl rfl rfl ?_
      refine L_no rfl rfl rfl ?_
      refine L_no rfl rfl rfl ?_
      refine L_no rfl rfl rfl ?_
      refine L_no rfl rfl rfl ?_
      refine L_no rfl rfl rfl ?_
      refine L_no rfl rfl rfl ?_
      refine L_no rfl rfl rfl ?_
      refine L_val rfl rfl rfl (OpP.v (P_pick rfl rfl rfl)) ?_
      refine L_nil ?_
      refine Q_then ?_
      refine R_condF rfl ?_
      refine R_skip ?_
      refine Q_block ?_
      refine Q_then ?_
      refine R_region ?_
      refine L_val rfl rfl rfl (OpP.v (P_move rfl rfl)) ?_
      first | (refine L_val rfl rfl rfl (OpP.v (P_addN rfl rfl rfl (by simp only [fits]; omega))) ?_) | (refine L_val rfl rfl rfl (OpP.v (P_add rfl rfl rfl)) ?_)
      refine L_val rfl rfl rfl (OpP.v (P_assign rfl rfl)) ?_
      refine L_nil ?_
      exact Q_round (i + 1) (⟨by show i + 1 ≤ _; omega, fun j hj y hy => by
          by_cases h : j < i
          · exact hall j h y hy
          · obtain rfl : j = i := by (have hj : j < i + 1 := hj); omega
            rw [hx, Option.some.injEq] at hy
            subst hy; intro e; subst e; exact of_decide_eq_false hg1 rfl⟩) (by show bk.length - (i + 1) < bk.length - i; omega) (by repeat (first | exact .nil | refine .cons rfl ?_ | refine .consE rfl (by first | rfl | (congr 1; omega) | (congr 1; push_cast; omega)) ?_)) (Weak.refl _)
  · skip
    obtain rfl : i = bk.length := by omega
    refine R_exit ?_
    refine Q_then_exit ?_
    refine Q_then_exit ?_
    refine Q_block_eq ?_
    refine St.env (.cons (t := 8) rfl .nil) ?_
    refine Q_then ?_
    refine R_seq ?_
    refine R_region ?_
    refine L_val rfl rfl rfl (OpP.v (P_assign rfl rfl)) ?_
    refine L_nil ?_
    refine Q_then ?_
    refine R_ret ?_
    exact R_end (rs2 := _) rfl rfl (.tmp rfl .nil) (⟨by show Value.int .i64 _ = Value.int .i64 _; rw [findB_none (not_mem_of_all fun j hj y hy => hall j hj y hy)], rfl⟩) (Weak.refl _)
theorem entered_ok0 {gl : Nat → Obj} (w : Nat) (x0 x1 x2 x3 x5 x6 x7 : Value) (ab : Option Addr) (ac : Nat) (sg : List (Int × Nat)) (hT : sg.length ≤ 4398046511104) (a : Int) : SpecR (cx gl) 60 [.pointer (some ⟨w, 0, none⟩), .int .i64 0, .int .u64 a] (fun _ _ => True) [blk w [x0, x1, x2, x3, .slice ab sg.length ac, x5, x6, x7] 59, ownS 23 1 (.slice ab sg.length ac) sg.length (ints .u64 (enOf sg))] (.bool (decide (a ∈ enOf sg))) [blk w [x0, x1, x2, x3, .slice ab sg.length ac, x5, x6, x7] 59, ownS 23 1 (.slice ab sg.length ac) sg.length (ints .u64 (enOf sg))] := by
  refine Spec.enter (C := cx gl) Tryd.func60 rfl 30 rfl rfl fun w0 h0 hsep hsub hpre => ?_
  show St (cx gl) _ [(0, .pointer (some ⟨w, 0, none⟩)), (1, .int .i64 0), (2, .int .u64 a)] _ _
  refine R_seq ?_
  refine R_region ?_
  refine L_val rfl rfl rfl (OpP.v (P_assign rfl rfl)) ?_
  refine L_nil ?_
  refine Q_then ?_
  refine R_seq ?_
  refine R_seq ?_
  refine R_region ?_
  refine L_val rfl rfl rfl (OpP.v (P_assign rfl rfl)) ?_
  refine L_nil ?_
  refine Q_then ?_
  refine R_block ?_
  refine R_loopE (G := Nat) (.cons (t := 0) rfl (.cons (t := 1) rfl (.cons (t := 2) rfl (.cons (t := 6) rfl .nil)))) (fun g => [(7, .int .i64 (g : Int))]) (fun _ => _) (fun g => g ≤ sg.length ∧ ∀ j, j < g → ∀ y, (enOf sg)[j]? = some y → y ≠ a) (fun g => sg.length - g) (0) (⟨Nat.zero_le _, fun j hj => by omega⟩) (by repeat (first | exact .nil | refine .cons rfl ?_ | refine .consE rfl (by first | rfl | (congr 1; omega) | (congr 1; push_cast; omega)) ?_)) (Weak.refl _) ?_
  intro i hinv
  replace hinv : i ≤ sg.length ∧ ∀ j, j < i → ∀ y, (enOf sg)[j]? = some y → y ≠ a := hinv
  show St (cx gl) _ ((7, .int .i64 (i : Int)) :: _) _ _
  obtain ⟨hi, hall⟩ := hinv
  refine R_seq ?_
  refine R_seq ?_
  refine R_region ?_
  refine L_val rfl rfl rfl (OpP.v (P_move rfl rfl)) ?_
  refine L_val rfl rfl rfl (OpP.v (P_move rfl rfl)) ?_
  refine L_val rfl rfl rfl (OpP.v (P_move rfl rfl)) ?_
  refine L_val rfl rfl rfl (OpP.v (P_nil rfl rfl)) ?_
  refine L_val rfl rfl rfl (OpP.v (P_fld0 rfl ty_fl_59_2 rfl)) ?_
  first | (refine L_val rfl rfl rfl (OpP.v (P_ixa0 (0) rfl ty_ar_56 rfl rfl (by first | rfl | omega) (by omega))) ?_) | (refine L_val rfl rfl rfl (OpP.v (P_ixa (0) rfl ty_ar_56 rfl rfl (by first | rfl | omega) (by omega))) ?_)
  refine L_val rfl rfl rfl (V_load rfl rfl ty_sc_52 (Rd.blk .h0 rfl)) ?_
  refine L_val rfl rfl rfl (OpP.v (P_len rfl ty_sl_52 rfl)) ?_
  refine L_val rfl rfl rfl (OpP.v (P_lss rfl rfl rfl)) ?_
  refine L_nil ?_
  refine Q_then ?_
  refine R_condP rfl (fun hlt0 => ?_) (fun hlt0 => ?_)
  · skip
    have hlt : i < sg.length := by omega
    have hlt2 : i < (enOf sg).length := by rw [enOf_length]; exact hlt
    refine St.ownSome (p := [_]) (by omega) fun ebb ebc heb2 _ => ?_
    simp only [Value.slice.injEq] at heb2
    obtain ⟨rfl, _, rfl⟩ := heb2
    refine R_skip ?_
    refine Q_then ?_
    refine R_seq ?_
    refine R_block ?_
    refine R_seq ?_
    refine R_region ?_
    refine L_val rfl rfl rfl (OpP.v (P_move rfl rfl)) ?_
    refine L_val rfl rfl rfl (OpP.v (P_move rfl rfl)) ?_
    refine L_val rfl rfl rfl (OpP.v (P_nil rfl rfl)) ?_
    refine L_val rfl rfl rfl (OpP.v (P_fld0 rfl ty_fl_59_2 rfl)) ?_
    first | (refine L_val rfl rfl rfl (OpP.v (P_ixa0 (0) rfl ty_ar_56 rfl rfl (by first | rfl | omega) (by omega))) ?_) | (refine L_val rfl rfl rfl (OpP.v (P_ixa (0) rfl ty_ar_56 rfl rfl (by first | rfl | omega) (by omega))) ?_)
    refine L_val rfl rfl rfl (V_load rfl rfl ty_sc_52 (Rd.blk .h0 rfl)) ?_
    refine L_val rfl rfl rfl (OpP.v (P_move rfl rfl)) ?_
    refine L_val rfl rfl rfl (OpP.v (P_ixs (i) rfl ty_sl_52 rfl rfl (by first | rfl | omega) (by omega))) ?_
    refine L_val rfl rfl rfl (V_load rfl rfl ty_sc_23 (rd_own1 .h1 (by unfold ints; rw [List.getElem?_map, List.getElem?_eq_getElem hlt2]; rfl))) ?_
    refine L_val rfl rfl rfl (OpP.v (P_move rfl rfl)) ?_
    refine L_val rfl rfl rfl (OpP.v (P_eql rfl rfl rfl)) ?_
    refine L_nil ?_
    refine Q_then ?_
    refine R_condP rfl (fun hne => ?_) (fun hne => ?_)
    · skip
      refine R_seq ?_
      refine R_region ?_
      refine L_val rfl rfl rfl (OpP.v (P_assign rfl rfl)) ?_
      refine L_nil ?_
      refine Q_then ?_
      refine R_ret ?_
      refine Q_block_ret ?_
      refine Q_then_ret ?_
      refine Q_then_ret ?_
      refine Q_block_ret ?_
      refine Q_then_ret ?_
      exact R_end (rs2 := _) rfl rfl (.tmp rfl .nil) (⟨by show Value.bool _ = Value.bool _; rw [decide_eq_true (show a ∈ enOf sg by rw [← hne]; exact List.getElem_mem hlt2)], rfl⟩) (Weak.refl _)
    · skip
      refine R_skip ?_
      refine Q_block ?_
      refine Q_then ?_
      refine R_region ?_
      refine L_val rfl rfl rfl (OpP.v (P_move rfl rfl)) ?_
      first | (refine L_val rfl rfl rfl (OpP.v (P_addN rfl rfl rfl (by simp only [fits]; omega))) ?_) | (refine L_val rfl rfl rfl (OpP.v (P_add rfl rfl rfl)) ?_)
      refine L_val rfl rfl rfl (OpP.v (P_assign rfl rfl)) ?_
      refine L_nil ?_
      exact Q_round (i + 1) (⟨by show i + 1 ≤ _; omega, fun j hj y hy => by
          by_cases h : j < i
          · exact hall j h y hy
          · obtain rfl : j = i := by (have hj : j < i + 1 := hj); omega
            rw [List.getElem?_eq_getElem (by rw [enOf_length]; omega), Option.some.injEq] at hy
            rw [← hy]; exact hne⟩) (by show sg.length - (i + 1) < sg.length - i; omega) (by repeat (first | exact .nil | refine .cons rfl ?_ | refine .consE rfl (by first | rfl | (congr 1; omega) | (congr 1; push_cast; omega)) ?_)) (Weak.refl _)
  · skip
    obtain rfl : i = sg.length := by omega
    refine R_exit ?_
    refine Q_then_exit ?_
    refine Q_then_exit ?_
    refine Q_block_eq ?_
    refine St.env (.cons (t := 6) rfl .nil) ?_
    refine Q_then ?_
    refine R_seq ?_
    refine R_region ?_
    refine L_val rfl rfl rfl (OpP.v (P_assign rfl rfl)) ?_
    refine L_nil ?_
    refine Q_then ?_
    refine R_ret ?_
    exact R_end (rs2 := _) rfl rfl (.tmp rfl .nil) (⟨by show Value.bool _ = Value.bool _; rw [decide_eq_false (not_mem_of_all fun j hj y hy => hall j (by rw [← enOf_length]; exact hj) y hy)], rfl⟩) (Weak.refl _)
theorem truth_in0 {gl : Nat → Obj} (hG : Globs gl) (w : Nat) (p0 p1 : Nat) (sg0 sg1 : List (Int × Nat)) (S0 S1 A0 A1 B : Value) (bk : List Wrt) (hbk : BkOK bk) (hs0 : sg0.length ≤ 1599289640354) (hs1 : sg1.length ≤ 1599289640354) (hbl : bk.length ≤ 1599289640354) (a : Int) (base : Option Addr) (c : Nat) (m sl : List Int) (hmb : IsB m) (hml : m.length ≤ 140737488351300) (hsl : sl.length = 16) (hin : (0, a, m) ∈ bk) : SpecR (cx gl) 46 [.pointer (some ⟨w, 0, none⟩), .int .i64 0, .int .u64 a, .slice base m.length c, .agg (ints .u8 (sl)).toArray] (fun w h => Seen w h base (ints .u8 m)) [blk w [.pointer (some ⟨p0, 0, none⟩), .pointer (some ⟨p1, 0, none⟩), S0, S1, A0, A1, B, .bool false] 59, REG p0 (sg0) (rcOf 0 bk), ownS 27 1 (S0) (sg0).length (ptrs (sg0)), ownS 23 1 (A0) (sg0).length (ints .u64 (enOf (sg0))), REG p1 (sg1) (rcOf 1 bk), ownS 27 1 (S1) (sg1).length (ptrs (sg1)), ownS 23 1 (A1) (sg1).length (ints .u64 (enOf (sg1))), ownS 64 19 (B) (bk).length (bkC (bk))] (.bool true) [SIGHT w (enOf sg0) (enOf sg1) bk] := by
  refine Spec.enter (C := cx gl) Tryd.func46 rfl 45 rfl rfl fun w0 h0 hsep hsub hpre => ?_
  show St (cx gl) _ [(0, .pointer (some ⟨w, 0, none⟩)), (1, .int .i64 0), (2, .int .u64 a), (3, .slice base m.length c), (4, .agg (ints .u8 (sl)).toArray)] _ _
  refine St.ownForm (p := [_, _]) fun sb0 sc0 hsb0_ hsc0 => ?_
  subst hsb0_
  refine St.ownForm (p := [_, _, _]) fun ab0 ac0 hab0_ hac0 => ?_
  subst hab0_
  refine St.ownForm (p := [_, _, _, _, _]) fun sb1 sc1 hsb1_ hsc1 => ?_
  subst hsb1_
  refine St.ownForm (p := [_, _, _, _, _, _]) fun ab1 ac1 hab1_ hac1 => ?_
  subst hab1_
  refine St.ownForm (p := [_, _, _, _, _, _, _]) fun bb bc hbb_ hbc => ?_
  subst hbb_
  refine St.res (rs' := [blk w [.pointer (some ⟨p0, 0, none⟩), .pointer (some ⟨p1, 0, none⟩), .slice sb0 sg0.length sc0, .slice sb1 sg1.length sc1, .slice ab0 sg0.length ac0, .slice ab1 sg1.length ac1, .slice bb bk.length bc, .bool false] 59, REG p0 (sg0) (rcOf 0 bk), ownS 27 1 (.slice sb0 sg0.length sc0) (sg0).length (ptrs (sg0)), ownS 23 1 (.slice ab0 sg0.length ac0) (sg0).length (ints .u64 (enOf (sg0))), REG p1 (sg1) (rcOf 1 bk), ownS 27 1 (.slice sb1 sg1.length sc1) (sg1).length (ptrs (sg1)), ownS 23 1 (.slice ab1 sg1.length ac1) (sg1).length (ints .u64 (enOf (sg1))), ownS 64 19 (.slice bb bk.length bc) (bk).length (bkC (bk))]) (Weak.refl _) ?_
  refine R_seq ?_
  refine R_region ?_
  refine L_op rfl (W_box (ints .u8 sl) rfl rfl rfl rfl rfl fun b9 => ?_)
  refine L_val rfl rfl rfl (OpP.v (P_assign rfl rfl)) ?_
  refine L_nil ?_
  refine St.env (.cons (t := 0) rfl (.cons (t := 1) rfl (.cons (t := 2) rfl (.cons (t := 3) rfl (.cons (t := 9) rfl (.cons (t := 10) rfl .nil)))))) ?_
  refine Q_then ?_
  refine R_seq ?_
  refine St.res (rs' := [blk w [.pointer (some ⟨p0, 0, none⟩), .pointer (some ⟨p1, 0, none⟩), .slice sb0 sg0.length sc0, .slice sb1 sg1.length sc1, .slice ab0 sg0.length ac0, .slice ab1 sg1.length ac1, .slice bb bk.length bc, .bool false] 59, blk b9 (ints .u8 sl) 33, REG p0 (sg0) (rcOf 0 bk), ownS 27 1 (.slice sb0 sg0.length sc0) (sg0).length (ptrs (sg0)), ownS 23 1 (.slice ab0 sg0.length ac0) (sg0).length (ints .u64 (enOf (sg0))), ownS 64 19 (.slice bb bk.length bc) (bk).length (bkC (bk)), REG p1 (sg1) (rcOf 1 bk), ownS 27 1 (.slice sb1 sg1.length sc1) (sg1).length (ptrs (sg1)), ownS 23 1 (.slice ab1 sg1.length ac1) (sg1).length (ints .u64 (enOf (sg1)))]) (Weak.pick (p := [_]) (Weak.keep (Weak.keep (Weak.keep (Weak.keep (Weak.pick (p := [_, _, _]) (Weak.keep (Weak.keep (Weak.keep (Weak.nil _)))))))))) ?_
  refine R_region ?_
  refine L_val rfl rfl rfl (OpP.v (P_move rfl rfl)) ?_
  refine L_val rfl rfl rfl (OpP.v (P_move rfl rfl)) ?_
  refine L_val rfl rfl rfl (OpP.v (P_move rfl rfl)) ?_
  refine L_val rfl rfl rfl (OpP.v (P_move rfl rfl)) ?_
  refine L_val rfl rfl rfl (V_str rfl (slB_spec ty_sl_24).1 ty_int_5 ty_str_9 rfl ((Sn.old hpre).rw_)) ?_
  refine L_op rfl (W_callR rfl rfl rfl rfl fn_ca_61 (find_ok w _ _ _ _ _ _ _ bb bc bk hbk hbl 0 a m hmb) (Weak.keep (Weak.pick (p := [_, _, _, _]) (Weak.keep (Weak.keep (Weak.keep (Weak.keep (Weak.keep (Weak.keep (Weak.keep (Weak.nil _)))))))))) (fun _ _ _ _ _ _ _ => trivial) ?_)
  refine St.res (rs' := [blk w [.pointer (some ⟨p0, 0, none⟩), .pointer (some ⟨p1, 0, none⟩), .slice sb0 sg0.length sc0, .slice sb1 sg1.length sc1, .slice ab0 sg0.length ac0, .slice ab1 sg1.length ac1, .slice bb bk.length bc, .bool false] 59, blk b9 (ints .u8 sl) 33, REG p0 (sg0) (rcOf 0 bk), ownS 27 1 (.slice sb0 sg0.length sc0) (sg0).length (ptrs (sg0)), ownS 23 1 (.slice ab0 sg0.length ac0) (sg0).length (ints .u64 (enOf (sg0))), ownS 64 19 (.slice bb bk.length bc) (bk).length (bkC (bk)), REG p1 (sg1) (rcOf 1 bk), ownS 27 1 (.slice sb1 sg1.length sc1) (sg1).length (ptrs (sg1)), ownS 23 1 (.slice ab1 sg1.length ac1) (sg1).length (ints .u64 (enOf (sg1)))]) (Weak.keep (Weak.pick (p := [_]) (Weak.pick (p := [_]) (Weak.pick (p := [_]) (Weak.pick (p := [_]) (Weak.keep (Weak.keep (Weak.keep (Weak.keep (Weak.nil _)))))))))) ?_
  refine L_val rfl rfl rfl (OpP.v (P_assign rfl rfl)) ?_
  refine L_nil ?_
  refine St.env (.cons (t := 0) rfl (.cons (t := 1) rfl (.cons (t := 2) rfl (.cons (t := 3) rfl (.cons (t := 9) rfl (.cons (t := 10) rfl (.cons (t := 11) rfl .nil))))))) ?_
  refine Q_then ?_
  refine R_seq ?_
  obtain ⟨j, hj, hx⟩ := findB_mem hin
  have hjl : j < bk.length := (List.getElem?_eq_some_iff.1 hx).1
  refine E_as (t := 11) (v' := .int .i64 (j : Int)) rfl (by rw [hj]) ?_
  refine St.ownSome (p := [_, _, _, _, _]) (by omega) fun bbb bbc hq _ => ?_
  simp only [Value.slice.injEq] at hq
  obtain ⟨rfl, _, rfl⟩ := hq
  refine R_open [(0, 0), (1, 0), (2, 0), (3, 0), (4, 0), (5, 0), (6, 1), (7, 0), (8, 0), (9, 0), (10, 1), (11, 1), (12, 0), (13, 0), (14, 0)] mixed (by kernel_rfl) (QOk.then QOk.body) ?_
  refine O_pure rfl rfl rfl rfl (P_move rfl rfl) ?_
  refine O_pure rfl rfl rfl rfl (P_geq rfl rfl rfl) ?_
  refine E_true (t := 20) rfl (decide_eq_true (by omega)) ?_
  refine O_pure rfl rfl rfl rfl (P_move rfl rfl) ?_
  refine O_pure rfl rfl rfl rfl (P_move rfl rfl) ?_
  refine O_pure rfl rfl rfl rfl (P_nil rfl rfl) ?_
  refine O_pure rfl rfl rfl rfl (P_fld0 rfl ty_fl_59_3 rfl) ?_
  refine O_val rfl rfl rfl rfl (V_load rfl rfl ty_sc_57 (Rd.blk .h0 rfl)) ?_
  refine O_pure rfl rfl rfl rfl (P_move rfl rfl) ?_
  refine O_pure rfl rfl rfl rfl (P_ixs (j) rfl ty_sl_57 rfl rfl (by first | rfl | omega) (by omega)) ?_
  refine O_pure rfl rfl rfl rfl (P_fld rfl ty_fl_64_3 rfl) ?_
  refine O_val rfl rfl rfl rfl (V_loadAgg rfl rfl ty_ag_33 ((Rds.sn (k := j * 19) (Sn.own .h5 rfl) (fun q v hv => bkC_at hx q v hv)).part 3 (wrC_seal _)) (by rw [ints_length, sealH_length])) ?_
  refine O_val rfl rfl rfl rfl (V_loadAgg rfl rfl ty_ag_33 (Rds.blk .h1) (by rw [ints_length, hsl])) ?_
  refine O_pure rfl rfl rfl rfl (P_eqArr rfl rfl rfl ty_un_33 ty_int_5 ty_sc_5 ty_eg_33 (sealH_length _ _) (hsl)) ?_
  refine O_pure rfl rfl rfl rfl (P_pick rfl rfl rfl) ?_
  refine O_pure rfl rfl rfl rfl (P_assign rfl rfl) ?_
  refine O_nil ?_
  refine St.env (.cons (t := 0) rfl (.cons (t := 1) rfl (.cons (t := 2) rfl (.cons (t := 3) rfl (.cons (t := 9) rfl (.cons (t := 10) rfl (.cons (t := 12) rfl .nil))))))) ?_
  refine Q_then ?_
  refine R_seq ?_
  refine R_open [(0, 0), (1, 0), (2, 0), (3, 0), (4, 0), (5, 1), (6, 0), (7, 0), (8, 1), (10, 0), (9, 2), (11, 0), (12, 0)] mixed (by kernel_rfl) (QOk.then QOk.body) ?_
  refine O_pure rfl rfl rfl rfl (P_move rfl rfl) ?_
  refine O_pure rfl rfl rfl rfl (P_move rfl rfl) ?_
  refine O_pure rfl rfl rfl rfl (P_nil rfl rfl) ?_
  refine O_pure rfl rfl rfl rfl (P_fld0 rfl ty_fl_59_0 rfl) ?_
  first | (refine O_pure rfl rfl rfl rfl (P_ixa0 (0) rfl ty_ar_53 rfl rfl (by first | rfl | omega) (by omega)) ?_) | (refine O_pure rfl rfl rfl rfl (P_ixa (0) rfl ty_ar_53 rfl rfl (by first | rfl | omega) (by omega)) ?_)
  refine O_val rfl rfl rfl rfl (V_load rfl rfl ty_sc_25 (Rd.blk .h0 rfl)) ?_
  refine O_pure rfl rfl rfl rfl (P_move rfl rfl) ?_
  refine O_pure rfl rfl rfl rfl (P_move rfl rfl) ?_
  refine O_val rfl rfl rfl rfl (V_loadAgg rfl rfl ty_ag_33 (Rds.blk .h1) (by rw [ints_length, hsl])) ?_
  refine O_pure rfl rfl rfl rfl (P_move rfl rfl) ?_
  refine O_keep rfl rfl (W_callR rfl rfl rfl rfl fn_ca_19 (check_ok hG p0 sg0 (rcOf 0 bk) a base c m sl hmb (by omega) hsl) (Split.one (p := [_, _])) (Sn.pre (Sn.old hpre)) (K_keep (Weak.p1 (Weak.p1 (Weak.refl _))) ?_))
  refine O_pure rfl rfl rfl rfl (P_eql_bool rfl ty_bool_4 rfl rfl) ?_
  refine E_true (t := 44) rfl (by rw [decide_eq_true (mem_rcOf.2 hin)]; by_cases h : sl = sealH a m <;> simp [h, eq_comm]) ?_
  refine O_pure rfl rfl rfl rfl (P_assign rfl rfl) ?_
  refine O_nil ?_
  refine St.env (.cons (t := 10) rfl .nil) ?_
  refine Q_then ?_
  refine R_ret ?_
  exact R_end (rs2 := [SIGHT w (enOf sg0) (enOf sg1) bk]) rfl rfl (.tmp rfl .nil) (⟨rfl, rfl⟩) ((Weak.pick (p := [_]) (Weak.pick (p := [_]) (Weak.keep (Weak.keep (Weak.keep (Weak.keep (Weak.keep (Weak.keep (Weak.keep (Weak.nil _)))))))))).trans ((Weak.keep (Weak.drop (Weak.refl _))).trans ((Weak.keep (Weak.keep (Weak.keep (Weak.keep (Weak.pick (p := [_]) (Weak.pick (p := [_]) (Weak.pick (p := [_]) (Weak.keep (Weak.nil _))))))))).trans (sight_close (rs := []) ⟨p0, p1, sg0, sg1, .slice sb0 sg0.length sc0, .slice sb1 sg1.length sc1, .slice ab0 sg0.length ac0, .slice ab1 sg1.length ac1, .slice (some ⟨bbb, 0, none⟩) bk.length bc⟩))))
theorem truth_out0 {gl : Nat → Obj} (hG : Globs gl) (w : Nat) (p0 p1 : Nat) (sg0 sg1 : List (Int × Nat)) (S0 S1 A0 A1 B : Value) (bk : List Wrt) (hbk : BkOK bk) (hs0 : sg0.length ≤ 1599289640354) (hs1 : sg1.length ≤ 1599289640354) (hbl : bk.length ≤ 1599289640354) (a : Int) (base : Option Addr) (c : Nat) (m sl : List Int) (hmb : IsB m) (hml : m.length ≤ 140737488351300) (hsl : sl.length = 16) (hout : (0, a, m) ∉ bk) : SpecR (cx gl) 46 [.pointer (some ⟨w, 0, none⟩), .int .i64 0, .int .u64 a, .slice base m.length c, .agg (ints .u8 (sl)).toArray] (fun w h => Seen w h base (ints .u8 m)) [blk w [.pointer (some ⟨p0, 0, none⟩), .pointer (some ⟨p1, 0, none⟩), S0, S1, A0, A1, B, .bool false] 59, REG p0 (sg0) (rcOf 0 bk), ownS 27 1 (S0) (sg0).length (ptrs (sg0)), ownS 23 1 (A0) (sg0).length (ints .u64 (enOf (sg0))), REG p1 (sg1) (rcOf 1 bk), ownS 27 1 (S1) (sg1).length (ptrs (sg1)), ownS 23 1 (A1) (sg1).length (ints .u64 (enOf (sg1))), ownS 64 19 (B) (bk).length (bkC (bk))] (.bool true) [SIGHT w (enOf sg0) (enOf sg1) bk] := by
  refine Spec.enter (C := cx gl) Tryd.func46 rfl 45 rfl rfl fun w0 h0 hsep hsub hpre => ?_
  show St (cx gl) _ [(0, .pointer (some ⟨w, 0, none⟩)), (1, .int .i64 0), (2, .int .u64 a), (3, .slice base m.length c), (4, .agg (ints .u8 (sl)).toArray)] _ _
  refine St.ownForm (p := [_, _]) fun sb0 sc0 hsb0_ hsc0 => ?_
  subst hsb0_
  refine St.ownForm (p := [_, _, _]) fun ab0 ac0 hab0_ hac0 => ?_
  subst hab0_
  refine St.ownForm (p := [_, _, _, _, _]) fun sb1 sc1 hsb1_ hsc1 => ?_
  subst hsb1_
  refine St.ownForm (p := [_, _, _, _, _, _]) fun ab1 ac1 hab1_ hac1 => ?_
  subst hab1_
  refine St.ownForm (p := [_, _, _, _, _, _, _]) fun bb bc hbb_ hbc => ?_
  subst hbb_
  refine St.res (rs' := [blk w [.pointer (some ⟨p0, 0, none⟩), .pointer (some ⟨p1, 0, none⟩), .slice sb0 sg0.length sc0, .slice sb1 sg1.length sc1, .slice ab0 sg0.length ac0, .slice ab1 sg1.length ac1, .slice bb bk.length bc, .bool false] 59, REG p0 (sg0) (rcOf 0 bk), ownS 27 1 (.slice sb0 sg0.length sc0) (sg0).length (ptrs (sg0)), ownS 23 1 (.slice ab0 sg0.length ac0) (sg0).length (ints .u64 (enOf (sg0))), REG p1 (sg1) (rcOf 1 bk), ownS 27 1 (.slice sb1 sg1.length sc1) (sg1).length (ptrs (sg1)), ownS 23 1 (.slice ab1 sg1.length ac1) (sg1).length (ints .u64 (enOf (sg1))), ownS 64 19 (.slice bb bk.length bc) (bk).length (bkC (bk))]) (Weak.refl _) ?_
  refine R_seq ?_
  refine R_region ?_
  refine L_op rfl (W_box (ints .u8 sl) rfl rfl rfl rfl rfl fun b9 => ?_)
  refine L_val rfl rfl rfl (OpP.v (P_assign rfl rfl)) ?_
  refine L_nil ?_
  refine St.env (.cons (t := 0) rfl (.cons (t := 1) rfl (.cons (t := 2) rfl (.cons (t := 3) rfl (.cons (t := 9) rfl (.cons (t := 10) rfl .nil)))))) ?_
  refine Q_then ?_
  refine R_seq ?_
  refine St.res (rs' := [blk w [.pointer (some ⟨p0, 0, none⟩), .pointer (some ⟨p1, 0, none⟩), .slice sb0 sg0.length sc0, .slice sb1 sg1.length sc1, .slice ab0 sg0.length ac0, .slice ab1 sg1.length ac1, .slice bb bk.length bc, .bool false] 59, blk b9 (ints .u8 sl) 33, REG p0 (sg0) (rcOf 0 bk), ownS 27 1 (.slice sb0 sg0.length sc0) (sg0).length (ptrs (sg0)), ownS 23 1 (.slice ab0 sg0.length ac0) (sg0).length (ints .u64 (enOf (sg0))), ownS 64 19 (.slice bb bk.length bc) (bk).length (bkC (bk)), REG p1 (sg1) (rcOf 1 bk), ownS 27 1 (.slice sb1 sg1.length sc1) (sg1).length (ptrs (sg1)), ownS 23 1 (.slice ab1 sg1.length ac1) (sg1).length (ints .u64 (enOf (sg1)))]) (Weak.pick (p := [_]) (Weak.keep (Weak.keep (Weak.keep (Weak.keep (Weak.pick (p := [_, _, _]) (Weak.keep (Weak.keep (Weak.keep (Weak.nil _)))))))))) ?_
  refine R_region ?_
  refine L_val rfl rfl rfl (OpP.v (P_move rfl rfl)) ?_
  refine L_val rfl rfl rfl (OpP.v (P_move rfl rfl)) ?_
  refine L_val rfl rfl rfl (OpP.v (P_move rfl rfl)) ?_
  refine L_val rfl rfl rfl (OpP.v (P_move rfl rfl)) ?_
  refine L_val rfl rfl rfl (V_str rfl (slB_spec ty_sl_24).1 ty_int_5 ty_str_9 rfl ((Sn.old hpre).rw_)) ?_
  refine L_op rfl (W_callR rfl rfl rfl rfl fn_ca_61 (find_ok w _ _ _ _ _ _ _ bb bc bk hbk hbl 0 a m hmb) (Weak.keep (Weak.pick (p := [_, _, _, _]) (Weak.keep (Weak.keep (Weak.keep (Weak.keep (Weak.keep (Weak.keep (Weak.keep (Weak.nil _)))))))))) (fun _ _ _ _ _ _ _ => trivial) ?_)
  refine St.res (rs' := [blk w [.pointer (some ⟨p0, 0, none⟩), .pointer (some ⟨p1, 0, none⟩), .slice sb0 sg0.length sc0, .slice sb1 sg1.length sc1, .slice ab0 sg0.length ac0, .slice ab1 sg1.length ac1, .slice bb bk.length bc, .bool false] 59, blk b9 (ints .u8 sl) 33, REG p0 (sg0) (rcOf 0 bk), ownS 27 1 (.slice sb0 sg0.length sc0) (sg0).length (ptrs (sg0)), ownS 23 1 (.slice ab0 sg0.length ac0) (sg0).length (ints .u64 (enOf (sg0))), ownS 64 19 (.slice bb bk.length bc) (bk).length (bkC (bk)), REG p1 (sg1) (rcOf 1 bk), ownS 27 1 (.slice sb1 sg1.length sc1) (sg1).length (ptrs (sg1)), ownS 23 1 (.slice ab1 sg1.length ac1) (sg1).length (ints .u64 (enOf (sg1)))]) (Weak.keep (Weak.pick (p := [_]) (Weak.pick (p := [_]) (Weak.pick (p := [_]) (Weak.pick (p := [_]) (Weak.keep (Weak.keep (Weak.keep (Weak.keep (Weak.nil _)))))))))) ?_
  refine L_val rfl rfl rfl (OpP.v (P_assign rfl rfl)) ?_
  refine L_nil ?_
  refine St.env (.cons (t := 0) rfl (.cons (t := 1) rfl (.cons (t := 2) rfl (.cons (t := 3) rfl (.cons (t := 9) rfl (.cons (t := 10) rfl (.cons (t := 11) rfl .nil))))))) ?_
  refine Q_then ?_
  refine R_seq ?_
  refine E_as (t := 11) (v' := .int .i64 (-1)) rfl (by rw [findB_none hout]) ?_
  refine R_open [(0, 0), (1, 0), (2, 0), (3, 0), (4, 0), (5, 0), (6, 1), (7, 0), (8, 0), (9, 0), (10, 1), (11, 1), (12, 0), (13, 0), (14, 0)] mixed (by kernel_rfl) (QOk.then QOk.body) ?_
  refine O_pure rfl rfl rfl rfl (P_move rfl rfl) ?_
  refine O_pure rfl rfl rfl rfl (P_geq rfl rfl rfl) ?_
  refine E_false (t := 20) rfl (rfl) ?_
  refine O_pure rfl rfl rfl rfl (P_move rfl rfl) ?_
  refine O_no rfl rfl rfl rfl ?_
  refine O_no rfl rfl rfl rfl ?_
  refine O_no rfl rfl rfl rfl ?_
  refine O_noX rfl rfl rfl rfl ?_
  refine O_no rfl rfl rfl rfl ?_
  refine O_no rfl rfl rfl rfl ?_
  refine O_no rfl rfl rfl rfl ?_
  refine O_noX rfl rfl rfl rfl ?_
  refine O_noX rfl rfl rfl rfl ?_
  refine O_no rfl rfl rfl rfl ?_
  refine O_pure rfl rfl rfl rfl (P_pick rfl rfl rfl) ?_
  refine O_pure rfl rfl rfl rfl (P_assign rfl rfl) ?_
  refine O_nil ?_
  refine St.env (.cons (t := 0) rfl (.cons (t := 1) rfl (.cons (t := 2) rfl (.cons (t := 3) rfl (.cons (t := 9) rfl (.cons (t := 10) rfl (.cons (t := 12) rfl .nil))))))) ?_
  refine Q_then ?_
  refine R_seq ?_
  refine R_open [(0, 0), (1, 0), (2, 0), (3, 0), (4, 0), (5, 1), (6, 0), (7, 0), (8, 1), (10, 0), (9, 2), (11, 0), (12, 0)] mixed (by kernel_rfl) (QOk.then QOk.body) ?_
  refine O_pure rfl rfl rfl rfl (P_move rfl rfl) ?_
  refine O_pure rfl rfl rfl rfl (P_move rfl rfl) ?_
  refine O_pure rfl rfl rfl rfl (P_nil rfl rfl) ?_
  refine O_pure rfl rfl rfl rfl (P_fld0 rfl ty_fl_59_0 rfl) ?_
  first | (refine O_pure rfl rfl rfl rfl (P_ixa0 (0) rfl ty_ar_53 rfl rfl (by first | rfl | omega) (by omega)) ?_) | (refine O_pure rfl rfl rfl rfl (P_ixa (0) rfl ty_ar_53 rfl rfl (by first | rfl | omega) (by omega)) ?_)
  refine O_val rfl rfl rfl rfl (V_load rfl rfl ty_sc_25 (Rd.blk .h0 rfl)) ?_
  refine O_pure rfl rfl rfl rfl (P_move rfl rfl) ?_
  refine O_pure rfl rfl rfl rfl (P_move rfl rfl) ?_
  refine O_val rfl rfl rfl rfl (V_loadAgg rfl rfl ty_ag_33 (Rds.blk .h1) (by rw [ints_length, hsl])) ?_
  refine O_pure rfl rfl rfl rfl (P_move rfl rfl) ?_
  refine O_keep rfl rfl (W_callR rfl rfl rfl rfl fn_ca_19 (check_ok hG p0 sg0 (rcOf 0 bk) a base c m sl hmb (by omega) hsl) (Split.one (p := [_, _])) (Sn.pre (Sn.old hpre)) (K_keep (Weak.p1 (Weak.p1 (Weak.refl _))) ?_))
  refine O_pure rfl rfl rfl rfl (P_eql_bool rfl ty_bool_4 rfl rfl) ?_
  refine E_true (t := 44) rfl (by rw [decide_eq_false (fun h => hout (mem_rcOf.1 h))]; rfl) ?_
  refine O_pure rfl rfl rfl rfl (P_assign rfl rfl) ?_
  refine O_nil ?_
  refine St.env (.cons (t := 10) rfl .nil) ?_
  refine Q_then ?_
  refine R_ret ?_
  exact R_end (rs2 := [SIGHT w (enOf sg0) (enOf sg1) bk]) rfl rfl (.tmp rfl .nil) (⟨rfl, rfl⟩) ((Weak.pick (p := [_]) (Weak.pick (p := [_]) (Weak.keep (Weak.keep (Weak.keep (Weak.keep (Weak.keep (Weak.keep (Weak.keep (Weak.nil _)))))))))).trans ((Weak.keep (Weak.drop (Weak.refl _))).trans ((Weak.keep (Weak.keep (Weak.keep (Weak.keep (Weak.pick (p := [_]) (Weak.pick (p := [_]) (Weak.pick (p := [_]) (Weak.keep (Weak.nil _))))))))).trans (sight_close (rs := []) ⟨p0, p1, sg0, sg1, .slice sb0 sg0.length sc0, .slice sb1 sg1.length sc1, .slice ab0 sg0.length ac0, .slice ab1 sg1.length ac1, .slice bb bk.length bc⟩))))
theorem truth_ok0 {gl : Nat → Obj} (hG : Globs gl) (w : Nat) (e0 e1 : List Int) (bk : List Wrt) (hbk : BkOK bk) (h0 : e0.length ≤ 1599289640354) (h1 : e1.length ≤ 1599289640354) (hbl : bk.length ≤ 1599289640354) (a : Int) (base : Option Addr) (c : Nat) (m sl : List Int) (hmb : IsB m) (hml : m.length ≤ 140737488351300) (hsl : sl.length = 16) : SpecR (cx gl) 46 [.pointer (some ⟨w, 0, none⟩), .int .i64 0, .int .u64 a, .slice base m.length c, .agg (ints .u8 (sl)).toArray] (fun w h => Seen w h base (ints .u8 m)) [SIGHT w e0 e1 bk] (.bool true) [SIGHT w e0 e1 bk] := Spec.openEx fun ⟨p0, p1, sg0, sg1, S0, S1, A0, A1, B⟩ hok => by
  obtain ⟨hx0, hx1⟩ := hok
  dsimp only at hx0 hx1
  subst hx0; subst hx1
  rw [enOf_length] at h0 h1
  by_cases hin : (0, a, m) ∈ bk
  · exact truth_in0 hG w p0 p1 sg0 sg1 S0 S1 A0 A1 B bk hbk h0 h1 hbl a base c m sl hmb hml hsl hin
  · exact truth_out0 hG w p0 p1 sg0 sg1 S0 S1 A0 A1 B bk hbk h0 h1 hbl a base c m sl hmb hml hsl hin
theorem entered_ok1 {gl : Nat → Obj} (w : Nat) (x0 x1 x2 x3 x4 x6 x7 : Value) (ab : Option Addr) (ac : Nat) (sg : List (Int × Nat)) (hT : sg.length ≤ 4398046511104) (a : Int) : SpecR (cx gl) 60 [.pointer (some ⟨w, 0, none⟩), .int .i64 1, .int .u64 a] (fun _ _ => True) [blk w [x0, x1, x2, x3, x4, .slice ab sg.length ac, x6, x7] 59, ownS 23 1 (.slice ab sg.length ac) sg.length (ints .u64 (enOf sg))] (.bool (decide (a ∈ enOf sg))) [blk w [x0, x1, x2, x3, x4, .slice ab sg.length ac, x6, x7] 59, ownS 23 1 (.slice ab sg.length ac) sg.length (ints .u64 (enOf sg))] := by
  refine Spec.enter (C := cx gl) Tryd.func60 rfl 30 rfl rfl fun w0 h0 hsep hsub hpre => ?_
  show St (cx gl) _ [(0, .pointer (some ⟨w, 0, none⟩)), (1, .int .i64 1), (2, .int .u64 a)] _ _
  refine R_seq ?_
  refine R_region ?_
  refine L_val rfl rfl rfl (OpP.v (P_assign rfl rfl)) ?_
  refine L_nil ?_
  refine Q_then ?_
  refine R_seq ?_
  refine R_seq ?_
  refine R_region ?_
  refine L_val rfl rfl rfl (OpP.v (P_assign rfl rfl)) ?_
  refine L_nil ?_
  refine Q_then ?_
  refine R_block ?_
  refine R_loopE (G := Nat) (.cons (t := 0) rfl (.cons (t := 1) rfl (.cons (t := 2) rfl (.cons (t := 6) rfl .nil)))) (fun g => [(7, .int .i64 (g : Int))]) (fun _ => _) (fun g => g ≤ sg.length ∧ ∀ j, j < g → ∀ y, (enOf sg)[j]? = some y → y ≠ a) (fun g => sg.length - g) (0) (⟨Nat.zero_le _, fun j hj => by omega⟩) (by repeat (first | exact .nil | refine .cons rfl ?_ | refine .consE rfl (by first | rfl | (congr 1; omega) | (congr 1; push_cast; omega)) ?_)) (Weak.refl _) ?_
  intro i hinv
  replace hinv : i ≤ sg.length ∧ ∀ j, j < i → ∀ y, (enOf sg)[j]? = some y → y ≠ a := hinv
  show St (cx gl) _ ((7, .int .i64 (i : Int)) :: _) _ _
  obtain ⟨hi, hall⟩ := hinv
  refine R_seq ?_
  refine R_seq ?_
  refine R_region ?_
  refine L_val rfl rfl rfl (OpP.v (P_move rfl rfl)) ?_
  refine L_val rfl rfl rfl (OpP.v (P_move rfl rfl)) ?_
  refine L_val rfl rfl rfl (OpP.v (P_move rfl rfl)) ?_
  refine L_val rfl rfl rfl (OpP.v (P_nil rfl rfl)) ?_
  refine L_val rfl rfl rfl (OpP.v (P_fld0 rfl ty_fl_59_2 rfl)) ?_
  first | (refine L_val rfl rfl rfl (OpP.v (P_ixa0 (1) rfl ty_ar_56 rfl rfl (by first | rfl | omega) (by omega))) ?_) | (refine L_val rfl rfl rfl (OpP.v (P_ixa (1) rfl ty_ar_56 rfl rfl (by first | rfl | omega) (by omega))) ?_)
  refine L_val rfl rfl rfl (V_load rfl rfl ty_sc_52 (Rd.blk .h0 rfl)) ?_
  refine L_val rfl rfl rfl (OpP.v (P_len rfl ty_sl_52 rfl)) ?_
  refine L_val rfl rfl rfl (OpP.v (P_lss rfl rfl rfl)) ?_
  refine L_nil ?_
  refine Q_then ?_
  refine R_condP rfl (fun hlt0 => ?_) (fun hlt0 => ?_)
  · skip
    have hlt : i < sg.length := by omega
    have hlt2 : i < (enOf sg).length := by rw [enOf_length]; exact hlt
    refine St.ownSome (p := [_]) (by omega) fun ebb ebc heb2 _ => ?_
    simp only [Value.slice.injEq] at heb2
    obtain ⟨rfl, _, rfl⟩ := heb2
    refine R_skip ?_
    refine Q_then ?_
    refine R_seq ?_
    refine R_block ?_
    refine R_seq ?_
    refine R_region ?_
    refine L_val rfl rfl rfl (OpP.v (P_move rfl rfl)) ?_
    refine L_val rfl rfl rfl (OpP.v (P_move rfl rfl)) ?_
    refine L_val rfl rfl rfl (OpP.v (P_nil rfl rfl)) ?_
    refine L_val rfl rfl rfl (OpP.v (P_fld0 rfl ty_fl_59_2 rfl)) ?_
    first | (refine L_val rfl rfl rfl (OpP.v (P_ixa0 (1) rfl ty_ar_56 rfl rfl (by first | rfl | omega) (by omega))) ?_) | (refine L_val rfl rfl rfl (OpP.v (P_ixa (1) rfl ty_ar_56 rfl rfl (by first | rfl | omega) (by omega))) ?_)
    refine L_val rfl rfl rfl (V_load rfl rfl ty_sc_52 (Rd.blk .h0 rfl)) ?_
    refine L_val rfl rfl rfl (OpP.v (P_move rfl rfl)) ?_
    refine L_val rfl rfl rfl (OpP.v (P_ixs (i) rfl ty_sl_52 rfl rfl (by first | rfl | omega) (by omega))) ?_
    refine L_val rfl rfl rfl (V_load rfl rfl ty_sc_23 (rd_own1 .h1 (by unfold ints; rw [List.getElem?_map, List.getElem?_eq_getElem hlt2]; rfl))) ?_
    refine L_val rfl rfl rfl (OpP.v (P_move rfl rfl)) ?_
    refine L_val rfl rfl rfl (OpP.v (P_eql rfl rfl rfl)) ?_
    refine L_nil ?_
    refine Q_then ?_
    refine R_condP rfl (fun hne => ?_) (fun hne => ?_)
    · skip
      refine R_seq ?_
      refine R_region ?_
      refine L_val rfl rfl rfl (OpP.v (P_assign rfl rfl)) ?_
      refine L_nil ?_
      refine Q_then ?_
      refine R_ret ?_
      refine Q_block_ret ?_
      refine Q_then_ret ?_
      refine Q_then_ret ?_
      refine Q_block_ret ?_
      refine Q_then_ret ?_
      exact R_end (rs2 := _) rfl rfl (.tmp rfl .nil) (⟨by show Value.bool _ = Value.bool _; rw [decide_eq_true (show a ∈ enOf sg by rw [← hne]; exact List.getElem_mem hlt2)], rfl⟩) (Weak.refl _)
    · skip
      refine R_skip ?_
      refine Q_block ?_
      refine Q_then ?_
      refine R_region ?_
      refine L_val rfl rfl rfl (OpP.v (P_move rfl rfl)) ?_
      first | (refine L_val rfl rfl rfl (OpP.v (P_addN rfl rfl rfl (by simp only [fits]; omega))) ?_) | (refine L_val rfl rfl rfl (OpP.v (P_add rfl rfl rfl)) ?_)
      refine L_val rfl rfl rfl (OpP.v (P_assign rfl rfl)) ?_
      refine L_nil ?_
      exact Q_round (i + 1) (⟨by show i + 1 ≤ _; omega, fun j hj y hy => by
          by_cases h : j < i
          · exact hall j h y hy
          · obtain rfl : j = i := by (have hj : j < i + 1 := hj); omega
            rw [List.getElem?_eq_getElem (by rw [enOf_length]; omega), Option.some.injEq] at hy
            rw [← hy]; exact hne⟩) (by show sg.length - (i + 1) < sg.length - i; omega) (by repeat (first | exact .nil | refine .cons rfl ?_ | refine .consE rfl (by first | rfl | (congr 1; omega) | (congr 1; push_cast; omega)) ?_)) (Weak.refl _)
  · skip
    obtain rfl : i = sg.length := by omega
    refine R_exit ?_
    refine Q_then_exit ?_
    refine Q_then_exit ?_
    refine Q_block_eq ?_
    refine St.env (.cons (t := 6) rfl .nil) ?_
    refine Q_then ?_
    refine R_seq ?_
    refine R_region ?_
    refine L_val rfl rfl rfl (OpP.v (P_assign rfl rfl)) ?_
    refine L_nil ?_
    refine Q_then ?_
    refine R_ret ?_
    exact R_end (rs2 := _) rfl rfl (.tmp rfl .nil) (⟨by show Value.bool _ = Value.bool _; rw [decide_eq_false (not_mem_of_all fun j hj y hy => hall j (by rw [← enOf_length]; exact hj) y hy)], rfl⟩) (Weak.refl _)
theorem truth_in1 {gl : Nat → Obj} (hG : Globs gl) (w : Nat) (p0 p1 : Nat) (sg0 sg1 : List (Int × Nat)) (S0 S1 A0 A1 B : Value) (bk : List Wrt) (hbk : BkOK bk) (hs0 : sg0.length ≤ 1599289640354) (hs1 : sg1.length ≤ 1599289640354) (hbl : bk.length ≤ 1599289640354) (a : Int) (base : Option Addr) (c : Nat) (m sl : List Int) (hmb : IsB m) (hml : m.length ≤ 140737488351300) (hsl : sl.length = 16) (hin : (1, a, m) ∈ bk) : SpecR (cx gl) 46 [.pointer (some ⟨w, 0, none⟩), .int .i64 1, .int .u64 a, .slice base m.length c, .agg (ints .u8 (sl)).toArray] (fun w h => Seen w h base (ints .u8 m)) [blk w [.pointer (some ⟨p0, 0, none⟩), .pointer (some ⟨p1, 0, none⟩), S0, S1, A0, A1, B, .bool false] 59, REG p0 (sg0) (rcOf 0 bk), ownS 27 1 (S0) (sg0).length (ptrs (sg0)), ownS 23 1 (A0) (sg0).length (ints .u64 (enOf (sg0))), REG p1 (sg1) (rcOf 1 bk), ownS 27 1 (S1) (sg1).length (ptrs (sg1)), ownS 23 1 (A1) (sg1).length (ints .u64 (enOf (sg1))), ownS 64 19 (B) (bk).length (bkC (bk))] (.bool true) [SIGHT w (enOf sg0) (enOf sg1) bk] := by
  refine Spec.enter (C := cx gl) Tryd.func46 rfl 45 rfl rfl fun w0 h0 hsep hsub hpre => ?_
  show St (cx gl) _ [(0, .pointer (some ⟨w, 0, none⟩)), (1, .int .i64 1), (2, .int .u64 a), (3, .slice base m.length c), (4, .agg (ints .u8 (sl)).toArray)] _ _
  refine St.ownForm (p := [_, _]) fun sb0 sc0 hsb0_ hsc0 => ?_
  subst hsb0_
  refine St.ownForm (p := [_, _, _]) fun ab0 ac0 hab0_ hac0 => ?_
  subst hab0_
  refine St.ownForm (p := [_, _, _, _, _]) fun sb1 sc1 hsb1_ hsc1 => ?_
  subst hsb1_
  refine St.ownForm (p := [_, _, _, _, _, _]) fun ab1 ac1 hab1_ hac1 => ?_
  subst hab1_
  refine St.ownForm (p := [_, _, _, _, _, _, _]) fun bb bc hbb_ hbc => ?_
  subst hbb_
  refine St.res (rs' := [blk w [.pointer (some ⟨p0, 0, none⟩), .pointer (some ⟨p1, 0, none⟩), .slice sb0 sg0.length sc0, .slice sb1 sg1.length sc1, .slice ab0 sg0.length ac0, .slice ab1 sg1.length ac1, .slice bb bk.length bc, .bool false] 59, REG p0 (sg0) (rcOf 0 bk), ownS 27 1 (.slice sb0 sg0.length sc0) (sg0).length (ptrs (sg0)), ownS 23 1 (.slice ab0 sg0.length ac0) (sg0).length (ints .u64 (enOf (sg0))), REG p1 (sg1) (rcOf 1 bk), ownS 27 1 (.slice sb1 sg1.length sc1) (sg1).length (ptrs (sg1)), ownS 23 1 (.slice ab1 sg1.length ac1) (sg1).length (ints .u64 (enOf (sg1))), ownS 64 19 (.slice bb bk.length bc) (bk).length (bkC (bk))]) (Weak.refl _) ?_
  refine R_seq ?_
  refine R_region ?_
  refine L_op rfl (W_box (ints .u8 sl) rfl rfl rfl rfl rfl fun b9 => ?_)
  refine L_val rfl rfl rfl (OpP.v (P_assign rfl rfl)) ?_
  refine L_nil ?_
  refine St.env (.cons (t := 0) rfl (.cons (t := 1) rfl (.cons (t := 2) rfl (.cons (t := 3) rfl (.cons (t := 9) rfl (.cons (t := 10) rfl .nil)))))) ?_
  refine Q_then ?_
  refine R_seq ?_
  refine St.res (rs' := [blk w [.pointer (some ⟨p0, 0, none⟩), .pointer (some ⟨p1, 0, none⟩), .slice sb0 sg0.length sc0, .slice sb1 sg1.length sc1, .slice ab0 sg0.length ac0, .slice ab1 sg1.length ac1, .slice bb bk.length bc, .bool false] 59, blk b9 (ints .u8 sl) 33, REG p1 (sg1) (rcOf 1 bk), ownS 27 1 (.slice sb1 sg1.length sc1) (sg1).length (ptrs (sg1)), ownS 23 1 (.slice ab1 sg1.length ac1) (sg1).length (ints .u64 (enOf (sg1))), ownS 64 19 (.slice bb bk.length bc) (bk).length (bkC (bk)), REG p0 (sg0) (rcOf 0 bk), ownS 27 1 (.slice sb0 sg0.length sc0) (sg0).length (ptrs (sg0)), ownS 23 1 (.slice ab0 sg0.length ac0) (sg0).length (ints .u64 (enOf (sg0)))]) (Weak.pick (p := [_]) (Weak.keep (Weak.pick (p := [_, _, _]) (Weak.pick (p := [_, _, _]) (Weak.pick (p := [_, _, _]) (Weak.pick (p := [_, _, _]) (Weak.keep (Weak.keep (Weak.keep (Weak.nil _)))))))))) ?_
  refine R_region ?_
  refine L_val rfl rfl rfl (OpP.v (P_move rfl rfl)) ?_
  refine L_val rfl rfl rfl (OpP.v (P_move rfl rfl)) ?_
  refine L_val rfl rfl rfl (OpP.v (P_move rfl rfl)) ?_
  refine L_val rfl rfl rfl (OpP.v (P_move rfl rfl)) ?_
  refine L_val rfl rfl rfl (V_str rfl (slB_spec ty_sl_24).1 ty_int_5 ty_str_9 rfl ((Sn.old hpre).rw_)) ?_
  refine L_op rfl (W_callR rfl rfl rfl rfl fn_ca_61 (find_ok w _ _ _ _ _ _ _ bb bc bk hbk hbl 1 a m hmb) (Weak.keep (Weak.pick (p := [_, _, _, _]) (Weak.keep (Weak.keep (Weak.keep (Weak.keep (Weak.keep (Weak.keep (Weak.keep (Weak.nil _)))))))))) (fun _ _ _ _ _ _ _ => trivial) ?_)
  refine St.res (rs' := [blk w [.pointer (some ⟨p0, 0, none⟩), .pointer (some ⟨p1, 0, none⟩), .slice sb0 sg0.length sc0, .slice sb1 sg1.length sc1, .slice ab0 sg0.length ac0, .slice ab1 sg1.length ac1, .slice bb bk.length bc, .bool false] 59, blk b9 (ints .u8 sl) 33, REG p1 (sg1) (rcOf 1 bk), ownS 27 1 (.slice sb1 sg1.length sc1) (sg1).length (ptrs (sg1)), ownS 23 1 (.slice ab1 sg1.length ac1) (sg1).length (ints .u64 (enOf (sg1))), ownS 64 19 (.slice bb bk.length bc) (bk).length (bkC (bk)), REG p0 (sg0) (rcOf 0 bk), ownS 27 1 (.slice sb0 sg0.length sc0) (sg0).length (ptrs (sg0)), ownS 23 1 (.slice ab0 sg0.length ac0) (sg0).length (ints .u64 (enOf (sg0)))]) (Weak.keep (Weak.pick (p := [_]) (Weak.pick (p := [_]) (Weak.pick (p := [_]) (Weak.pick (p := [_]) (Weak.keep (Weak.keep (Weak.keep (Weak.keep (Weak.nil _)))))))))) ?_
  refine L_val rfl rfl rfl (OpP.v (P_assign rfl rfl)) ?_
  refine L_nil ?_
  refine St.env (.cons (t := 0) rfl (.cons (t := 1) rfl (.cons (t := 2) rfl (.cons (t := 3) rfl (.cons (t := 9) rfl (.cons (t := 10) rfl (.cons (t := 11) rfl .nil))))))) ?_
  refine Q_then ?_
  refine R_seq ?_
  obtain ⟨j, hj, hx⟩ := findB_mem hin
  have hjl : j < bk.length := (List.getElem?_eq_some_iff.1 hx).1
  refine E_as (t := 11) (v' := .int .i64 (j : Int)) rfl (by rw [hj]) ?_
  refine St.ownSome (p := [_, _, _, _, _]) (by omega) fun bbb bbc hq _ => ?_
  simp only [Value.slice.injEq] at hq
  obtain ⟨rfl, _, rfl⟩ := hq
  refine R_open [(0, 0), (1, 0), (2, 0), (3, 0), (4, 0), (5, 0), (6, 1), (7, 0), (8, 0), (9, 0), (10, 1), (11, 1), (12, 0), (13, 0), (14, 0)] mixed (by kernel_rfl) (QOk.then QOk.body) ?_
  refine O_pure rfl rfl rfl rfl (P_move rfl rfl) ?_
  refine O_pure rfl rfl rfl rfl (P_geq rfl rfl rfl) ?_
  refine E_true (t := 20) rfl (decide_eq_true (by omega)) ?_
  refine O_pure rfl rfl rfl rfl (P_move rfl rfl) ?_
  refine O_pure rfl rfl rfl rfl (P_move rfl rfl) ?_
  refine O_pure rfl rfl rfl rfl (P_nil rfl rfl) ?_
  refine O_pure rfl rfl rfl rfl (P_fld0 rfl ty_fl_59_3 rfl) ?_
  refine O_val rfl rfl rfl rfl (V_load rfl rfl ty_sc_57 (Rd.blk .h0 rfl)) ?_
  refine O_pure rfl rfl rfl rfl (P_move rfl rfl) ?_
  refine O_pure rfl rfl rfl rfl (P_ixs (j) rfl ty_sl_57 rfl rfl (by first | rfl | omega) (by omega)) ?_
  refine O_pure rfl rfl rfl rfl (P_fld rfl ty_fl_64_3 rfl) ?_
  refine O_val rfl rfl rfl rfl (V_loadAgg rfl rfl ty_ag_33 ((Rds.sn (k := j * 19) (Sn.own .h5 rfl) (fun q v hv => bkC_at hx q v hv)).part 3 (wrC_seal _)) (by rw [ints_length, sealH_length])) ?_
  refine O_val rfl rfl rfl rfl (V_loadAgg rfl rfl ty_ag_33 (Rds.blk .h1) (by rw [ints_length, hsl])) ?_
  refine O_pure rfl rfl rfl rfl (P_eqArr rfl rfl rfl ty_un_33 ty_int_5 ty_sc_5 ty_eg_33 (sealH_length _ _) (hsl)) ?_
  refine O_pure rfl rfl rfl rfl (P_pick rfl rfl rfl) ?_
  refine O_pure rfl rfl rfl rfl (P_assign rfl rfl) ?_
  refine O_nil ?_
  refine St.env (.cons (t := 0) rfl (.cons (t := 1) rfl (.cons (t := 2) rfl (.cons (t := 3) rfl (.cons (t := 9) rfl (.cons (t := 10) rfl (.cons (t := 12) rfl .nil))))))) ?_
  refine Q_then ?_
  refine R_seq ?_
  refine R_open [(0, 0), (1, 0), (2, 0), (3, 0), (4, 0), (5, 1), (6, 0), (7, 0), (8, 1), (10, 0), (9, 2), (11, 0), (12, 0)] mixed (by kernel_rfl) (QOk.then QOk.body) ?_
  refine O_pure rfl rfl rfl rfl (P_move rfl rfl) ?_
  refine O_pure rfl rfl rfl rfl (P_move rfl rfl) ?_
  refine O_pure rfl rfl rfl rfl (P_nil rfl rfl) ?_
  refine O_pure rfl rfl rfl rfl (P_fld0 rfl ty_fl_59_0 rfl) ?_
  first | (refine O_pure rfl rfl rfl rfl (P_ixa0 (1) rfl ty_ar_53 rfl rfl (by first | rfl | omega) (by omega)) ?_) | (refine O_pure rfl rfl rfl rfl (P_ixa (1) rfl ty_ar_53 rfl rfl (by first | rfl | omega) (by omega)) ?_)
  refine O_val rfl rfl rfl rfl (V_load rfl rfl ty_sc_25 (Rd.blk .h0 rfl)) ?_
  refine O_pure rfl rfl rfl rfl (P_move rfl rfl) ?_
  refine O_pure rfl rfl rfl rfl (P_move rfl rfl) ?_
  refine O_val rfl rfl rfl rfl (V_loadAgg rfl rfl ty_ag_33 (Rds.blk .h1) (by rw [ints_length, hsl])) ?_
  refine O_pure rfl rfl rfl rfl (P_move rfl rfl) ?_
  refine O_keep rfl rfl (W_callR rfl rfl rfl rfl fn_ca_19 (check_ok hG p1 sg1 (rcOf 1 bk) a base c m sl hmb (by omega) hsl) (Split.one (p := [_, _])) (Sn.pre (Sn.old hpre)) (K_keep (Weak.p1 (Weak.p1 (Weak.refl _))) ?_))
  refine O_pure rfl rfl rfl rfl (P_eql_bool rfl ty_bool_4 rfl rfl) ?_
  refine E_true (t := 44) rfl (by rw [decide_eq_true (mem_rcOf.2 hin)]; by_cases h : sl = sealH a m <;> simp [h, eq_comm]) ?_
  refine O_pure rfl rfl rfl rfl (P_assign rfl rfl) ?_
  refine O_nil ?_
  refine St.env (.cons (t := 10) rfl .nil) ?_
  refine Q_then ?_
  refine R_ret ?_
  exact R_end (rs2 := [SIGHT w (enOf sg0) (enOf sg1) bk]) rfl rfl (.tmp rfl .nil) (⟨rfl, rfl⟩) ((Weak.pick (p := [_]) (Weak.pick (p := [_]) (Weak.keep (Weak.keep (Weak.keep (Weak.keep (Weak.keep (Weak.keep (Weak.keep (Weak.nil _)))))))))).trans ((Weak.keep (Weak.drop (Weak.refl _))).trans ((Weak.keep (Weak.pick (p := [_, _, _, _]) (Weak.pick (p := [_, _, _, _]) (Weak.pick (p := [_, _, _, _]) (Weak.keep (Weak.keep (Weak.keep (Weak.keep (Weak.nil _))))))))).trans (sight_close (rs := []) ⟨p0, p1, sg0, sg1, .slice sb0 sg0.length sc0, .slice sb1 sg1.length sc1, .slice ab0 sg0.length ac0, .slice ab1 sg1.length ac1, .slice (some ⟨bbb, 0, none⟩) bk.length bc⟩))))
theorem truth_out1 {gl : Nat → Obj} (hG : Globs gl) (w : Nat) (p0 p1 : Nat) (sg0 sg1 : List (Int × Nat)) (S0 S1 A0 A1 B : Value) (bk : List Wrt) (hbk : BkOK bk) (hs0 : sg0.length ≤ 1599289640354) (hs1 : sg1.length ≤ 1599289640354) (hbl : bk.length ≤ 1599289640354) (a : Int) (base : Option Addr) (c : Nat) (m sl : List Int) (hmb : IsB m) (hml : m.length ≤ 140737488351300) (hsl : sl.length = 16) (hout : (1, a, m) ∉ bk) : SpecR (cx gl) 46 [.pointer (some ⟨w, 0, none⟩), .int .i64 1, .int .u64 a, .slice base m.length c, .agg (ints .u8 (sl)).toArray] (fun w h => Seen w h base (ints .u8 m)) [blk w [.pointer (some ⟨p0, 0, none⟩), .pointer (some ⟨p1, 0, none⟩), S0, S1, A0, A1, B, .bool false] 59, REG p0 (sg0) (rcOf 0 bk), ownS 27 1 (S0) (sg0).length (ptrs (sg0)), ownS 23 1 (A0) (sg0).length (ints .u64 (enOf (sg0))), REG p1 (sg1) (rcOf 1 bk), ownS 27 1 (S1) (sg1).length (ptrs (sg1)), ownS 23 1 (A1) (sg1).length (ints .u64 (enOf (sg1))), ownS 64 19 (B) (bk).length (bkC (bk))] (.bool true) [SIGHT w (enOf sg0) (enOf sg1) bk] := by
  refine Spec.enter (C := cx gl) Tryd.func46 rfl 45 rfl rfl fun w0 h0 hsep hsub hpre => ?_
  show St (cx gl) _ [(0, .pointer (some ⟨w, 0, none⟩)), (1, .int .i64 1), (2, .int .u64 a), (3, .slice base m.length c), (4, .agg (ints .u8 (sl)).toArray)] _ _
  refine St.ownForm (p := [_, _]) fun sb0 sc0 hsb0_ hsc0 => ?_
  subst hsb0_
  refine St.ownForm (p := [_, _, _]) fun ab0 ac0 hab0_ hac0 => ?_
  subst hab0_
  refine St.ownForm (p := [_, _, _, _, _]) fun sb1 sc1 hsb1_ hsc1 => ?_
  subst hsb1_
  refine St.ownForm (p := [_, _, _, _, _, _]) fun ab1 ac1 hab1_ hac1 => ?_
  subst hab1_
  refine St.ownForm (p := [_, _, _, _, _, _, _]) fun bb bc hbb_ hbc => ?_
  subst hbb_
  refine St.res (rs' := [blk w [.pointer (some ⟨p0, 0, none⟩), .pointer (some ⟨p1, 0, none⟩), .slice sb0 sg0.length sc0, .slice sb1 sg1.length sc1, .slice ab0 sg0.length ac0, .slice ab1 sg1.length ac1, .slice bb bk.length bc, .bool false] 59, REG p0 (sg0) (rcOf 0 bk), ownS 27 1 (.slice sb0 sg0.length sc0) (sg0).length (ptrs (sg0)), ownS 23 1 (.slice ab0 sg0.length ac0) (sg0).length (ints .u64 (enOf (sg0))), REG p1 (sg1) (rcOf 1 bk), ownS 27 1 (.slice sb1 sg1.length sc1) (sg1).length (ptrs (sg1)), ownS 23 1 (.slice ab1 sg1.length ac1) (sg1).length (ints .u64 (enOf (sg1))), ownS 64 19 (.slice bb bk.length bc) (bk).length (bkC (bk))]) (Weak.refl _) ?_
  refine R_seq ?_
  refine R_region ?_
  refine L_op rfl (W_box (ints .u8 sl) rfl rfl rfl rfl rfl fun b9 => ?_)
  refine L_val rfl rfl rfl (OpP.v (P_assign rfl rfl)) ?_
  refine L_nil ?_
  refine St.env (.cons (t := 0) rfl (.cons (t := 1) rfl (.cons (t := 2) rfl (.cons (t := 3) rfl (.cons (t := 9) rfl (.cons (t := 10) rfl .nil)))))) ?_
  refine Q_then ?_
  refine R_seq ?_
  refine St.res (rs' := [blk w [.pointer (some ⟨p0, 0, none⟩), .pointer (some ⟨p1, 0, none⟩), .slice sb0 sg0.length sc0, .slice sb1 sg1.length sc1, .slice ab0 sg0.length ac0, .slice ab1 sg1.length ac1, .slice bb bk.length bc, .bool false] 59, blk b9 (ints .u8 sl) 33, REG p1 (sg1) (rcOf 1 bk), ownS 27 1 (.slice sb1 sg1.length sc1) (sg1).length (ptrs (sg1)), ownS 23 1 (.slice ab1 sg1.length ac1) (sg1).length (ints .u64 (enOf (sg1))), ownS 64 19 (.slice bb bk.length bc) (bk).length (bkC (bk)), REG p0 (sg0) (rcOf 0 bk), ownS 27 1 (.slice sb0 sg0.length sc0) (sg0).length (ptrs (sg0)), ownS 23 1 (.slice ab0 sg0.length ac0) (sg0).length (ints .u64 (enOf (sg0)))]) (Weak.pick (p := [_]) (Weak.keep (Weak.pick (p := [_, _, _]) (Weak.pick (p := [_, _, _]) (Weak.pick (p := [_, _, _]) (Weak.pick (p := [_, _, _]) (Weak.keep (Weak.keep (Weak.keep (Weak.nil _)))))))))) ?_
  refine R_region ?_
  refine L_val rfl rfl rfl (OpP.v (P_move rfl rfl)) ?_
  refine L_val rfl rfl rfl (OpP.v (P_move rfl rfl)) ?_
  refine L_val rfl rfl rfl (OpP.v (P_move rfl rfl)) ?_
  refine L_val rfl rfl rfl (OpP.v (P_move rfl rfl)) ?_
  refine L_val rfl rfl rfl (V_str rfl (slB_spec ty_sl_24).1 ty_int_5 ty_str_9 rfl ((Sn.old hpre).rw_)) ?_
  refine L_op rfl (W_callR rfl rfl rfl rfl fn_ca_61 (find_ok w _ _ _ _ _ _ _ bb bc bk hbk hbl 1 a m hmb) (Weak.keep (Weak.pick (p := [_, _, _, _]) (Weak.keep (Weak.keep (Weak.keep (Weak.keep (Weak.keep (Weak.keep (Weak.keep (Weak.nil _)))))))))) (fun _ _ _ _ _ _ _ => trivial) ?_)
  refine St.res (rs' := [blk w [.pointer (some ⟨p0, 0, none⟩), .pointer (some ⟨p1, 0, none⟩), .slice sb0 sg0.length sc0, .slice sb1 sg1.length sc1, .slice ab0 sg0.length ac0, .slice ab1 sg1.length ac1, .slice bb bk.length bc, .bool false] 59, blk b9 (ints .u8 sl) 33, REG p1 (sg1) (rcOf 1 bk), ownS 27 1 (.slice sb1 sg1.length sc1) (sg1).length (ptrs (sg1)), ownS 23 1 (.slice ab1 sg1.length ac1) (sg1).length (ints .u64 (enOf (sg1))), ownS 64 19 (.slice bb bk.length bc) (bk).length (bkC (bk)), REG p0 (sg0) (rcOf 0 bk), ownS 27 1 (.slice sb0 sg0.length sc0) (sg0).length (ptrs (sg0)), ownS 23 1 (.slice ab0 sg0.length ac0) (sg0).length (ints .u64 (enOf (sg0)))]) (Weak.keep (Weak.pick (p := [_]) (Weak.pick (p := [_]) (Weak.pick (p := [_]) (Weak.pick (p := [_]) (Weak.keep (Weak.keep (Weak.keep (Weak.keep (Weak.nil _)))))))))) ?_
  refine L_val rfl rfl rfl (OpP.v (P_assign rfl rfl)) ?_
  refine L_nil ?_
  refine St.env (.cons (t := 0) rfl (.cons (t := 1) rfl (.cons (t := 2) rfl (.cons (t := 3) rfl (.cons (t := 9) rfl (.cons (t := 10) rfl (.cons (t := 11) rfl .nil))))))) ?_
  refine Q_then ?_
  refine R_seq ?_
  refine E_as (t := 11) (v' := .int .i64 (-1)) rfl (by rw [findB_none hout]) ?_
  refine R_open [(0, 0), (1, 0), (2, 0), (3, 0), (4, 0), (5, 0), (6, 1), (7, 0), (8, 0), (9, 0), (10, 1), (11, 1), (12, 0), (13, 0), (14, 0)] mixed (by kernel_rfl) (QOk.then QOk.body) ?_
  refine O_pure rfl rfl rfl rfl (P_move rfl rfl) ?_
  refine O_pure rfl rfl rfl rfl (P_geq rfl rfl rfl) ?_
  refine E_false (t := 20) rfl (rfl) ?_
  refine O_pure rfl rfl rfl rfl (P_move rfl rfl) ?_
  refine O_no rfl rfl rfl rfl ?_
  refine O_no rfl rfl rfl rfl ?_
  refine O_no rfl rfl rfl rfl ?_
  refine O_noX rfl rfl rfl rfl ?_
  refine O_no rfl rfl rfl rfl ?_
  refine O_no rfl rfl rfl rfl ?_
  refine O_no rfl rfl rfl rfl ?_
  refine O_noX rfl rfl rfl rfl ?_
  refine O_noX rfl rfl rfl rfl ?_
  refine O_no rfl rfl rfl rfl ?_
  refine O_pure rfl rfl rfl rfl (P_pick rfl rfl rfl) ?_
  refine O_pure rfl rfl rfl rfl (P_assign rfl rfl) ?_
  refine O_nil ?_
  refine St.env (.cons (t := 0) rfl (.cons (t := 1) rfl (.cons (t := 2) rfl (.cons (t := 3) rfl (.cons (t := 9) rfl (.cons (t := 10) rfl (.cons (t := 12) rfl .nil))))))) ?_
  refine Q_then ?_
  refine R_seq ?_
  refine R_open [(0, 0), (1, 0), (2, 0), (3, 0), (4, 0), (5, 1), (6, 0), (7, 0), (8, 1), (10, 0), (9, 2), (11, 0), (12, 0)] mixed (by kernel_rfl) (QOk.then QOk.body) ?_
  refine O_pure rfl rfl rfl rfl (P_move rfl rfl) ?_
  refine O_pure rfl rfl rfl rfl (P_move rfl rfl) ?_
  refine O_pure rfl rfl rfl rfl (P_nil rfl rfl) ?_
  refine O_pure rfl rfl rfl rfl (P_fld0 rfl ty_fl_59_0 rfl) ?_
  first | (refine O_pure rfl rfl rfl rfl (P_ixa0 (1) rfl ty_ar_53 rfl rfl (by first | rfl | omega) (by omega)) ?_) | (refine O_pure rfl rfl rfl rfl (P_ixa (1) rfl ty_ar_53 rfl rfl (by first | rfl | omega) (by omega)) ?_)
  refine O_val rfl rfl rfl rfl (V_load rfl rfl ty_sc_25 (Rd.blk .h0 rfl)) ?_
  refine O_pure rfl rfl rfl rfl (P_move rfl rfl) ?_
  refine O_pure rfl rfl rfl rfl (P_move rfl rfl) ?_
  refine O_val rfl rfl rfl rfl (V_loadAgg rfl rfl ty_ag_33 (Rds.blk .h1) (by rw [ints_length, hsl])) ?_
  refine O_pure rfl rfl rfl rfl (P_move rfl rfl) ?_
  refine O_keep rfl rfl (W_callR rfl rfl rfl rfl fn_ca_19 (check_ok hG p1 sg1 (rcOf 1 bk) a base c m sl hmb (by omega) hsl) (Split.one (p := [_, _])) (Sn.pre (Sn.old hpre)) (K_keep (Weak.p1 (Weak.p1 (Weak.refl _))) ?_))
  refine O_pure rfl rfl rfl rfl (P_eql_bool rfl ty_bool_4 rfl rfl) ?_
  refine E_true (t := 44) rfl (by rw [decide_eq_false (fun h => hout (mem_rcOf.1 h))]; rfl) ?_
  refine O_pure rfl rfl rfl rfl (P_assign rfl rfl) ?_
  refine O_nil ?_
  refine St.env (.cons (t := 10) rfl .nil) ?_
  refine Q_then ?_
  refine R_ret ?_
  exact R_end (rs2 := [SIGHT w (enOf sg0) (enOf sg1) bk]) rfl rfl (.tmp rfl .nil) (⟨rfl, rfl⟩) ((Weak.pick (p := [_]) (Weak.pick (p := [_]) (Weak.keep (Weak.keep (Weak.keep (Weak.keep (Weak.keep (Weak.keep (Weak.keep (Weak.nil _)))))))))).trans ((Weak.keep (Weak.drop (Weak.refl _))).trans ((Weak.keep (Weak.pick (p := [_, _, _, _]) (Weak.pick (p := [_, _, _, _]) (Weak.pick (p := [_, _, _, _]) (Weak.keep (Weak.keep (Weak.keep (Weak.keep (Weak.nil _))))))))).trans (sight_close (rs := []) ⟨p0, p1, sg0, sg1, .slice sb0 sg0.length sc0, .slice sb1 sg1.length sc1, .slice ab0 sg0.length ac0, .slice ab1 sg1.length ac1, .slice bb bk.length bc⟩))))
theorem truth_ok1 {gl : Nat → Obj} (hG : Globs gl) (w : Nat) (e0 e1 : List Int) (bk : List Wrt) (hbk : BkOK bk) (h0 : e0.length ≤ 1599289640354) (h1 : e1.length ≤ 1599289640354) (hbl : bk.length ≤ 1599289640354) (a : Int) (base : Option Addr) (c : Nat) (m sl : List Int) (hmb : IsB m) (hml : m.length ≤ 140737488351300) (hsl : sl.length = 16) : SpecR (cx gl) 46 [.pointer (some ⟨w, 0, none⟩), .int .i64 1, .int .u64 a, .slice base m.length c, .agg (ints .u8 (sl)).toArray] (fun w h => Seen w h base (ints .u8 m)) [SIGHT w e0 e1 bk] (.bool true) [SIGHT w e0 e1 bk] := Spec.openEx fun ⟨p0, p1, sg0, sg1, S0, S1, A0, A1, B⟩ hok => by
  obtain ⟨hx0, hx1⟩ := hok
  dsimp only at hx0 hx1
  subst hx0; subst hx1
  rw [enOf_length] at h0 h1
  by_cases hin : (1, a, m) ∈ bk
  · exact truth_in1 hG w p0 p1 sg0 sg1 S0 S1 A0 A1 B bk hbk h0 h1 hbl a base c m sl hmb hml hsl hin
  · exact truth_out1 hG w p0 p1 sg0 sg1 S0 S1 A0 A1 B bk hbk h0 h1 hbl a base c m sl hmb hml hsl hin
end Go.Proofs.YtnaadddnbfnahaaDoor
