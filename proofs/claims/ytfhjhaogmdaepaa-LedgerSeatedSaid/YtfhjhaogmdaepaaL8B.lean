/- Walks: sums of two words, soundAccounts, fresh, New, Find. Printed by gen.py. -/
import Derived.Test.YtfhjhaogmdaepaaL8A
set_option linter.unusedVariables false
set_option linter.unusedSimpArgs false
set_option maxRecDepth 100000
namespace Go.Proofs.Ytfhjhaogmdaepaa
open Go Go.RowKit Go.Proofs
/-- A sum as two words. -/
def sumC (S : Int) : List Value := [.int .u64 (S / 18446744073709551616), .int .u64 (S % 18446744073709551616)]
theorem sumC_one (S : Int) : ∀ v ∈ sumC S, v.oneCell' = true := by
  intro v hv; simp only [sumC, List.mem_cons, List.not_mem_nil, or_false] at hv; rcases hv with rfl | rfl <;> rfl
theorem sumC_zero (l : List Acc) : sumC (sumA (l.take 0)) = [.int .u64 0, .int .u64 0] := by simp [sumA, sumC]
def soundV (l : List Acc) : Value := .tuple #[.agg (sumC (if accE l = 0 then sumA l else 0)).toArray, .int .i64 (accE l)]
theorem soundV_bad {l : List Acc} {e : Int} (h : accE l = e) (he : e ≠ 0) : soundV l = .tuple #[.agg #[.int .u64 0, .int .u64 0], .int .i64 e] := by
  unfold soundV; rw [if_neg (by rw [h]; exact he), h]; rfl
theorem soundV_fine {l : List Acc} (h : accE l = 0) : soundV l = .tuple #[.agg (sumC (sumA l)).toArray, .int .i64 0] := by
  unfold soundV; rw [if_pos h, h]
/-- A ledger's cells. -/
def ledV (u r : Value) (b s : Int) : List Value := [u, r, .int .u64 b, .int .u64 s]
/-- The first place of what is asked for. -/
def idxG {α : Type} (p : α → Bool) (l : List α) : Int := match l.findIdx? p with | some i => i | none => -1
theorem idxG_hit {α : Type} {p : α → Bool} {l : List α} {i : Nat} {m : α} (h0 : ∀ j m', j < i → l[j]? = some m' → p m' = false) (hm : l[i]? = some m) (hp : p m = true) : idxG p l = i := by
  have : l.findIdx? p = some i := by
    rw [List.findIdx?_eq_some_iff_getElem]
    obtain ⟨hi, he⟩ := List.getElem?_eq_some_iff.1 hm
    exact ⟨hi, by rw [he]; exact hp, fun j hj => by have := h0 j _ hj (List.getElem?_eq_getElem (by omega)); simp [this]⟩
  unfold idxG; rw [this]
theorem idxG_none {α : Type} {p : α → Bool} {l : List α} (h0 : ∀ j m', j < l.length → l[j]? = some m' → p m' = false) : idxG p l = -1 := by
  have : l.findIdx? p = none := by
    rw [List.findIdx?_eq_none_iff]
    intro x hx
    obtain ⟨j, hj, rfl⟩ := List.getElem_of_mem hx
    exact h0 j _ hj (List.getElem?_eq_getElem hj)
  unfold idxG; rw [this]
theorem idxG_cases {α : Type} (p : α → Bool) (l : List α) : idxG p l = -1 ∨ ∃ i : Nat, i < l.length ∧ idxG p l = i := by
  unfold idxG
  cases h : l.findIdx? p with
  | none => exact .inl rfl
  | some i =>
    obtain ⟨hi, _⟩ := List.findIdx?_eq_some_iff_getElem.1 h
    exact .inr ⟨i, hi, rfl⟩
theorem idxG_pos {α : Type} {p : α → Bool} {l : List α} (h : ¬ idxG p l < 0) : ∃ i : Nat, i < l.length ∧ idxG p l = i := by
  rcases idxG_cases p l with h1 | h1
  · omega
  · exact h1
theorem no_next {α : Type} {p : α → Bool} {l : List α} {i : Nat} {x : α} (h0 : ∀ j m', j < i → l[j]? = some m' → p m' = false) (hx : l[i]? = some x) (hp : p x = false) : ∀ j m', j < i + 1 → l[j]? = some m' → p m' = false := fun j m' hj hm => by
  rcases Nat.lt_or_ge j i with h | h
  · exact h0 j m' h hm
  · obtain rfl : j = i := by omega
    rw [hx, Option.some.injEq] at hm; rw [← hm]; exact hp
def isAc (a : Int) (x : Acc) : Bool := decide (x.a = a)
def findN (l : List Acc) (a : Int) : Prop := idxG (isAc a) l < 0 ∨ a = 0
def findE (l : List Acc) (a : Int) : Int := if idxG (isAc a) l < 0 ∨ a = 0 then 85 else 0
def findX (l : List Acc) (a : Int) : Acc := if idxG (isAc a) l < 0 ∨ a = 0 then acc0 else accAt l (idxG (isAc a) l).toNat
def findV (l : List Acc) (a : Int) : Value := .tuple #[.agg (findX l a).cells.toArray, .int .i64 (findE l a)]
theorem findV_no {l : List Acc} {a : Int} (h : idxG (isAc a) l < 0 ∨ a = 0) : findV l a = .tuple #[.agg acc0.cells.toArray, .int .i64 85] := by unfold findV findX findE; rw [if_pos h, if_pos h]
theorem findV_yes {l : List Acc} {a : Int} (h : ¬ (idxG (isAc a) l < 0 ∨ a = 0)) : findV l a = .tuple #[.agg (accAt l (idxG (isAc a) l).toNat).cells.toArray, .int .i64 0] := by unfold findV findX findE; rw [if_neg h, if_neg h]
theorem add64_run (x y c : Int) (hx : 0 ≤ x) (hy : 0 ≤ y) (hc0 : 0 ≤ c) (hc : c ≤ 1) (w : World) : (callFunc 45 #[.int .u64 x, .int .u64 y, .int .u64 c]).run Try.prog w = .ok (.value (.tuple #[.int .u64 ((x + y + c) % 18446744073709551616), .int .u64 ((x + y + c) / 18446744073709551616)])) w := by
  rw [run_callFunc_extern (fn := Try.f45) Try.func45 (by kernel_rfl) (by kernel_rfl) (by kernel_rfl) (e := add64Entry) (by kernel_rfl), run_add64 x y c hx hy hc0 hc]; rfl
theorem plus_ok {gl : Nat → Obj} (S n : Int) (h0 : 0 ≤ S) (h1 : S ≤ 1267650600228229401496703205376) (hn : u64 n) : SpecV (cx gl) 33 [.agg (sumC S).toArray, .int .u64 n] noPre (.agg (sumC (S + n)).toArray) := by
  refine Spec.enter (C := cx gl) Try.func33 rfl 20 rfl rfl fun w0 h0 hsep hsub hpre => ?_
  obtain rfl : h0 = Heap.none := hsep
  show St (cx gl) _ [(0, .agg (sumC (S)).toArray), (1, .int .u64 n)] _ _
  obtain ⟨hn0, hn1⟩ := hn
  refine R_seq ?_
  refine R_region ?_
  refine L_op rfl (W_box (sumC S) rfl rfl rfl rfl rfl fun b2 => ?_)
  refine L_op rfl (W_alloc rfl rfl rfl ty_ze_50 fun b4 => ?_)
  refine L_nil ?_
  refine St.env (.cons (t := 1) rfl (.cons (t := 2) rfl (.cons (t := 4) rfl .nil))) ?_
  refine Q_then ?_
  refine R_seq ?_
  refine R_region ?_
  refine L_val rfl rfl rfl (OpP.v (P_fld0 rfl ty_fl_50_1 rfl)) ?_
  refine L_val rfl rfl rfl (V_load rfl rfl ty_sc_23 (Rd.blk .h1 rfl)) ?_
  refine L_val rfl rfl rfl (OpP.v (P_move rfl rfl)) ?_
  refine L_val rfl rfl rfl (OpP.v (P_ext rfl rfl (fun w => add64_run (S % 18446744073709551616) n 0 (by omega) (by omega) (by omega) (by omega) w))) ?_
  refine L_val rfl rfl rfl (OpP.v (P_move rfl rfl)) ?_
  refine L_val rfl rfl rfl (OpP.v (P_extract rfl rfl rfl)) ?_
  refine L_val rfl rfl rfl (OpP.v (P_extract rfl rfl rfl)) ?_
  refine L_val rfl rfl rfl (OpP.v (P_assign rfl rfl)) ?_
  refine L_val rfl rfl rfl (OpP.v (P_assign rfl rfl)) ?_
  refine L_nil ?_
  refine St.env (.cons (t := 2) rfl (.cons (t := 4) rfl (.cons (t := 5) rfl (.cons (t := 6) rfl .nil)))) ?_
  refine Q_then ?_
  refine R_seq ?_
  refine R_region ?_
  refine L_val rfl rfl rfl (OpP.v (P_fld0 rfl ty_fl_50_0 rfl)) ?_
  refine L_val rfl rfl rfl (V_load rfl rfl ty_sc_23 (Rd.blk .h1 rfl)) ?_
  refine L_val rfl rfl rfl (OpP.v (P_move rfl rfl)) ?_
  refine L_val rfl rfl rfl (OpP.v (P_addN rfl rfl rfl (by simp only [fits]; omega))) ?_
  refine L_val rfl rfl rfl (OpP.v (P_move rfl rfl)) ?_
  refine L_val rfl rfl rfl (OpP.v (P_buildStruct rfl ty_pl_50 ty_ze_50 rfl rfl (rfl))) ?_
  refine E_as (t := 19) (v' := .agg (sumC (S + n)).toArray) rfl (by show Value.agg #[_, _] = Value.agg #[_, _]; rw [show S / 18446744073709551616 + (S % 18446744073709551616 + n + 0) / 18446744073709551616 = (S + n) / 18446744073709551616 by omega, show (S % 18446744073709551616 + n + 0) % 18446744073709551616 = (S + n) % 18446744073709551616 by omega]) ?_
  refine L_op rfl (W_storeAll rfl rfl rfl rfl ty_ag_50 (rfl) (sumC_one _) .h0 (rfl) ?_)
  refine L_nil ?_
  refine St.env (.cons (t := 4) rfl .nil) ?_
  refine Q_then ?_
  refine R_ret ?_
  exact R_endV rfl rfl (.cell rfl (Rds.loadVar ty_ag_50 (Rds.blk .h0) rfl) .nil) (rfl)
theorem soundAcc_ok {gl : Nat → Obj} (base : Option Addr) (c : Nat) (l : List Acc) (hc : l.length ≤ c) (hm : l.length ≤ 65536)(hok : ∀ x ∈ l, x.ok) : SpecV (cx gl) 20 [.slice base l.length c] (fun w => Row w base (rc l)) (soundV l) := by
  refine Spec.enter (C := cx gl) Try.func20 rfl 53 rfl rfl fun w0 h0 hsep hsub hpre => ?_
  obtain rfl : h0 = Heap.none := hsep
  show St (cx gl) _ [(0, .slice base l.length c)] _ _
  have hms : MS = 1152921504606846975 := rfl
  refine R_seq ?_
  refine R_region ?_
  refine L_op rfl (W_alloc rfl rfl rfl ty_ze_50 fun b2 => ?_)
  refine L_val rfl rfl rfl (OpP.v (P_assign rfl rfl)) ?_
  refine L_nil ?_
  refine Q_then ?_
  refine R_seq ?_
  refine R_region ?_
  refine L_op rfl (W_alloc rfl rfl rfl ty_ze_50 fun b4 => ?_)
  refine L_nil ?_
  refine Q_then ?_
  refine R_seq ?_
  refine R_seq ?_
  refine R_region ?_
  refine L_val rfl rfl rfl (OpP.v (P_move rfl rfl)) ?_
  refine L_val rfl rfl rfl (OpP.v (P_len rfl ty_sl_22 rfl)) ?_
  refine L_val rfl rfl rfl (OpP.v (P_move rfl rfl)) ?_
  refine L_nil ?_
  refine Q_then ?_
  refine R_block ?_
  refine R_loopE (G := Nat) (.cons (t := 0) rfl (.cons (t := 2) rfl (.cons (t := 3) rfl (.cons (t := 4) rfl (.cons (t := 7) rfl (.cons (t := 8) rfl .nil)))))) (fun g => [(9, .int .i64 (g : Int))]) (fun g => [blk b4 (sumC (sumA (l.take g))) 50, blk b2 [.int .u64 0, .int .u64 0] 50]) (fun g => g ≤ l.length ∧ firstE (accBad l) g = 0) (fun g => l.length - g) (0) (by show (0) ≤ l.length ∧ firstE (accBad l) (0) = 0; exact ⟨Nat.zero_le _, rfl⟩) (by repeat (first | exact .nil | refine .cons rfl ?_ | refine .consE rfl (by first | rfl | (congr 1; omega) | (congr 1; push_cast; omega)) ?_)) (by rw [sumC_zero]; exact Weak.refl _) ?_
  intro i hinv
  replace hinv : i ≤ l.length ∧ firstE (accBad l) i = 0 := hinv
  show St (cx gl) _ ((9, .int .i64 (i : Int)) :: _) [blk b4 (sumC (sumA (l.take i))) 50, blk b2 [.int .u64 0, .int .u64 0] 50] _
  obtain ⟨hi, h0⟩ := hinv
  refine R_seq ?_
  refine R_region ?_
  refine L_val rfl rfl rfl (OpP.v (P_lss rfl rfl rfl)) ?_
  refine L_nil ?_
  refine Q_then ?_
  refine R_seq ?_
  refine R_condP rfl (fun hlt => ?_) (fun hlt => ?_)
  · skip
    have hx0 := accAt_get (l := l) (i := i) (by omega)
    obtain ⟨x, ex⟩ : ∃ x, x = accAt l i := ⟨_, rfl⟩
    have hx : l[i]? = some x := by rw [ex]; exact hx0
    obtain ⟨pb, pj, rfl, hrow⟩ := hpre.some_ (by rw [rc_length]; show 0 < _ * 5; omega)
    obtain ⟨⟨ha1, ha2⟩, hb1, hb2, hb3⟩ := hok x (List.mem_of_getElem? hx)
    have hS := sumA_le i hi h0
    rw [hms] at hS
    have hSn : 0 ≤ sumA (l.take i) := sumA_nn fun y hy => hok y (List.mem_of_mem_take hy)
    refine R_skip ?_
    refine Q_then ?_
    refine R_seq ?_
    refine R_block ?_
    refine R_seq ?_
    refine R_region ?_
    refine L_val rfl rfl rfl (OpP.v (P_move rfl rfl)) ?_
    refine L_val rfl rfl rfl (OpP.v (P_ixs (i) rfl ty_sl_22 rfl rfl (by first | rfl | omega) (by omega))) ?_
    refine L_val rfl rfl rfl (V_loadAgg rfl rfl ty_ag_39 (rds_rc (Rds.row hrow rfl) hx) (rfl)) ?_
    refine L_op rfl (W_alloc rfl rfl rfl ty_ze_39 fun b6 => ?_)
    refine L_val rfl rfl rfl (OpP.v (P_assign rfl rfl)) ?_
    refine L_op rfl (W_storeAll rfl rfl rfl rfl ty_ag_39 (rfl) (Rec.one x) .h0 (rfl) ?_)
    refine L_nil ?_
    refine Q_then ?_
    refine R_seq ?_
    refine R_block ?_
    refine R_seq ?_
    refine R_region ?_
    refine L_val rfl rfl rfl (OpP.v (P_fld0 rfl ty_fl_39_0 rfl)) ?_
    refine L_val rfl rfl rfl (V_load rfl rfl ty_sc_35 (Rd.blk .h0 rfl)) ?_
    refine L_val rfl rfl rfl (OpP.v (P_eql rfl rfl rfl)) ?_
    refine L_val rfl rfl rfl (OpP.v (P_assign rfl rfl)) ?_
    refine L_nil ?_
    refine Q_then ?_
    refine R_condP rfl (fun ha => ?_) (fun ha => ?_)
    · skip
      refine R_seq ?_
      refine R_region ?_
      refine L_val rfl rfl rfl (OpP.v (P_buildStruct rfl ty_pl_50 ty_ze_50 rfl rfl (rfl))) ?_
      refine E_as (t := 18) (v' := .agg [.int .u64 0, .int .u64 0].toArray) rfl (rfl) ?_
      refine L_op rfl (W_storeAll rfl rfl rfl rfl ty_ag_50 (rfl) (sumC_one 0) .h2 (rfl) ?_)
      refine L_val rfl rfl rfl (OpP.v (P_assign rfl rfl)) ?_
      refine L_nil ?_
      refine Q_then ?_
      refine R_ret ?_
      refine Q_block_ret ?_
      refine Q_then_ret ?_
      refine Q_block_ret ?_
      refine Q_then_ret ?_
      refine Q_then_ret ?_
      refine Q_block_ret ?_
      refine Q_then_ret ?_
      exact R_endV rfl rfl (.cell rfl (Rds.loadVar ty_ag_50 (Rds.blk .h2) rfl) (.tmp rfl .nil)) (by have h9 : accE l = 85 := firstE_hit h0 (show accBad l i = 85 by unfold accBad; rw [← ex]; rw [if_pos ha]) (by decide) (by omega); rw [soundV_bad h9 (by decide)]; rfl)
    · skip
      refine R_seq ?_
      refine R_open [(0, 0), (1, 0), (2, 0), (3, 0), (4, 1), (5, 0), (6, 0), (7, 0), (8, 0), (9, 0), (10, 1), (11, 0), (12, 0), (13, 0)] mixed (by kernel_rfl) (QOk.then (QOk.block (QOk.then (QOk.block (QOk.then (QOk.then (QOk.block (QOk.then QOk.body)))))))) ?_
      refine O_pure rfl rfl rfl rfl (P_move rfl rfl) ?_
      refine O_pure rfl rfl rfl rfl (P_gtr rfl rfl rfl) ?_
      refine E_bool (t := 21) rfl (fun hi0 => ?_) (fun hi0 => ?_)
      · skip
        have hi0 := of_decide_eq_true hi0
        obtain ⟨y, ey⟩ : ∃ y, y = accAt l (i - 1) := ⟨_, rfl⟩
        have hy : l[i - 1]? = some y := by rw [ey]; exact accAt_get (by omega)
        refine O_pure rfl rfl rfl rfl (P_move rfl rfl) ?_
        refine O_pure rfl rfl rfl rfl (P_fld0 rfl ty_fl_39_0 rfl) ?_
        refine O_val rfl rfl rfl rfl (V_load rfl rfl ty_sc_35 (Rd.blk .h0 rfl)) ?_
        refine O_pure rfl rfl rfl rfl (P_move rfl rfl) ?_
        refine O_pure rfl rfl rfl rfl (P_move rfl rfl) ?_
        first | (refine O_pure rfl rfl rfl rfl (P_subN rfl rfl rfl (by simp only [fits]; omega)) ?_) | (refine O_pure rfl rfl rfl rfl (P_sub rfl rfl rfl) ?_)
        refine O_pure rfl rfl rfl rfl (P_ixs (i - 1) rfl ty_sl_22 rfl rfl (by first | rfl | omega) (by omega)) ?_
        refine O_pure rfl rfl rfl rfl (P_fld rfl ty_fl_39_0 rfl) ?_
        refine O_val rfl rfl rfl rfl (V_load rfl rfl ty_sc_35 (rd_rc (Rds.row hrow rfl) hy rfl)) ?_
        refine O_pure rfl rfl rfl rfl (P_leq rfl rfl rfl) ?_
        refine O_pure rfl rfl rfl rfl (P_pick rfl rfl rfl) ?_
        refine O_pure rfl rfl rfl rfl (P_assign rfl rfl) ?_
        refine O_nil ?_
        refine Q_then ?_
        refine R_condP rfl (fun hle => ?_) (fun hle => ?_)
        · skip
          refine R_seq ?_
          refine R_region ?_
          refine L_val rfl rfl rfl (OpP.v (P_buildStruct rfl ty_pl_50 ty_ze_50 rfl rfl (rfl))) ?_
          refine E_as (t := 33) (v' := .agg [.int .u64 0, .int .u64 0].toArray) rfl (rfl) ?_
          refine L_op rfl (W_storeAll rfl rfl rfl rfl ty_ag_50 (rfl) (sumC_one 0) .h2 (rfl) ?_)
          refine L_val rfl rfl rfl (OpP.v (P_assign rfl rfl)) ?_
          refine L_nil ?_
          refine Q_then ?_
          refine R_ret ?_
          refine Q_block_ret ?_
          refine Q_then_ret ?_
          refine Q_block_ret ?_
          refine Q_then_ret ?_
          refine Q_then_ret ?_
          refine Q_block_ret ?_
          refine Q_then_ret ?_
          exact R_endV rfl rfl (.cell rfl (Rds.loadVar ty_ag_50 (Rds.blk .h2) rfl) (.tmp rfl .nil)) (by have h9 : accE l = 42 := firstE_hit h0 (show accBad l i = 42 by unfold accBad; rw [← ex]; rw [if_neg ha, if_pos ⟨by omega, by rw [← ey]; exact hle⟩]) (by decide) (by omega); rw [soundV_bad h9 (by decide)]; rfl)
        · skip
          have hn42 : ¬ (0 < i ∧ x.a ≤ (accAt l (i - 1)).a) := by rw [← ey]; omega
          refine R_seq ?_
          refine R_region ?_
          refine L_val rfl rfl rfl (OpP.v (P_fld0 rfl ty_fl_39_1 rfl)) ?_
          refine L_val rfl rfl rfl (V_load rfl rfl ty_sc_23 (Rd.blk .h0 rfl)) ?_
          refine L_val rfl rfl rfl (OpP.v (P_gtr rfl rfl rfl)) ?_
          refine E_bool (t := 37) rfl (fun hb => ?_) (fun hb => ?_)
          · skip
            have hb := of_decide_eq_true hb
            refine L_val rfl rfl rfl (OpP.v (P_move rfl rfl)) ?_
            refine L_no rfl rfl rfl ?_
            refine L_no rfl rfl rfl ?_
            refine L_no rfl rfl rfl ?_
            refine L_val rfl rfl rfl (OpP.v (P_pick rfl rfl rfl)) ?_
            refine L_val rfl rfl rfl (OpP.v (P_assign rfl rfl)) ?_
            refine L_nil ?_
            refine Q_then ?_
            refine R_condT rfl ?_
            refine R_seq ?_
            refine R_region ?_
            refine L_val rfl rfl rfl (OpP.v (P_buildStruct rfl ty_pl_50 ty_ze_50 rfl rfl (rfl))) ?_
            refine E_as (t := 43) (v' := .agg [.int .u64 0, .int .u64 0].toArray) rfl (rfl) ?_
            refine L_op rfl (W_storeAll rfl rfl rfl rfl ty_ag_50 (rfl) (sumC_one 0) .h2 (rfl) ?_)
            refine L_val rfl rfl rfl (OpP.v (P_assign rfl rfl)) ?_
            refine L_nil ?_
            refine Q_then ?_
            refine R_ret ?_
            refine Q_block_ret ?_
            refine Q_then_ret ?_
            refine Q_block_ret ?_
            refine Q_then_ret ?_
            refine Q_then_ret ?_
            refine Q_block_ret ?_
            refine Q_then_ret ?_
            exact R_endV rfl rfl (.cell rfl (Rds.loadVar ty_ag_50 (Rds.blk .h2) rfl) (.tmp rfl .nil)) (by have h9 : accE l = 87 := firstE_hit h0 (show accBad l i = 87 by unfold accBad; rw [← ex]; rw [if_neg ha, if_neg hn42, if_pos (by omega)]) (by decide) (by omega); rw [soundV_bad h9 (by decide)]; rfl)
          · skip
            have hb := of_decide_eq_false hb
            refine L_val rfl rfl rfl (OpP.v (P_move rfl rfl)) ?_
            refine L_val rfl rfl rfl (OpP.v (P_fld0 rfl ty_fl_39_2 rfl)) ?_
            refine L_val rfl rfl rfl (V_load rfl rfl ty_sc_23 (Rd.blk .h0 rfl)) ?_
            refine L_val rfl rfl rfl (OpP.v (P_gtr rfl rfl rfl)) ?_
            refine L_val rfl rfl rfl (OpP.v (P_pick rfl rfl rfl)) ?_
            refine L_val rfl rfl rfl (OpP.v (P_assign rfl rfl)) ?_
            refine L_nil ?_
            refine Q_then ?_
            refine R_condP rfl (fun hd => ?_) (fun hd => ?_)
            · skip
              refine R_seq ?_
              refine R_region ?_
              refine L_val rfl rfl rfl (OpP.v (P_buildStruct rfl ty_pl_50 ty_ze_50 rfl rfl (rfl))) ?_
              refine E_as (t := 43) (v' := .agg [.int .u64 0, .int .u64 0].toArray) rfl (rfl) ?_
              refine L_op rfl (W_storeAll rfl rfl rfl rfl ty_ag_50 (rfl) (sumC_one 0) .h2 (rfl) ?_)
              refine L_val rfl rfl rfl (OpP.v (P_assign rfl rfl)) ?_
              refine L_nil ?_
              refine Q_then ?_
              refine R_ret ?_
              refine Q_block_ret ?_
              refine Q_then_ret ?_
              refine Q_block_ret ?_
              refine Q_then_ret ?_
              refine Q_then_ret ?_
              refine Q_block_ret ?_
              refine Q_then_ret ?_
              exact R_endV rfl rfl (.cell rfl (Rds.loadVar ty_ag_50 (Rds.blk .h2) rfl) (.tmp rfl .nil)) (by have h9 : accE l = 87 := firstE_hit h0 (show accBad l i = 87 by unfold accBad; rw [← ex]; rw [if_neg ha, if_neg hn42, if_pos (by omega)]) (by decide) (by omega); rw [soundV_bad h9 (by decide)]; rfl)
            · skip
              refine R_skip ?_
              refine Q_block ?_
              refine Q_then ?_
              refine R_open [(0, 1), (1, 0), (2, 1), (4, 0), (5, 1), (3, 2), (6, 2), (7, 3)] mixed (by kernel_rfl) (QOk.block (QOk.then (QOk.then (QOk.block (QOk.then QOk.body))))) ?_
              refine O_val rfl rfl rfl rfl (V_loadAgg rfl rfl ty_ag_50 (Rds.blk .h1) (rfl)) ?_
              refine O_pure rfl rfl rfl rfl (P_fld0 rfl ty_fl_39_1 rfl) ?_
              refine O_val rfl rfl rfl rfl (V_load rfl rfl ty_sc_23 (Rd.blk .h0 rfl)) ?_
              refine O_pure rfl rfl rfl rfl (P_fld0 rfl ty_fl_39_2 rfl) ?_
              refine O_val rfl rfl rfl rfl (V_load rfl rfl ty_sc_23 (Rd.blk .h0 rfl)) ?_
              refine O_keep rfl rfl (W_callV rfl rfl rfl rfl fn_ca_33 (plus_ok (sumA (l.take i)) x.bal hSn (by omega) hb1) (fun _ _ => trivial) (K_keep (Weak.refl _) ?_))
              refine O_keep rfl rfl (W_callV rfl rfl rfl rfl fn_ca_33 (plus_ok (sumA (l.take i) + x.bal) x.bond (by have := hb1.1; omega) (by have := hb1.2; omega) hb2) (fun _ _ => trivial) (K_keep (Weak.refl _) ?_))
              refine O_new rfl rfl (W_storeAll rfl rfl rfl rfl ty_ag_50 (rfl) (sumC_one _) .h1 (rfl) (K_new ?_))
              refine O_nil ?_
              refine Q_block ?_
              refine Q_then ?_
              refine R_region ?_
              first | (refine L_val rfl rfl rfl (OpP.v (P_addN rfl rfl rfl (by simp only [fits]; omega))) ?_) | (refine L_val rfl rfl rfl (OpP.v (P_add rfl rfl rfl)) ?_)
              refine L_val rfl rfl rfl (OpP.v (P_move rfl rfl)) ?_
              refine L_nil ?_
              exact Q_round (i + 1) (by show (i + 1) ≤ l.length ∧ firstE (accBad l) (i + 1) = 0; exact ⟨by omega, firstE_next h0 (by unfold accBad; rw [← ex, if_neg ha, if_neg hn42, if_neg (by omega)])⟩) (by show l.length - (i + 1) < l.length - i; omega) (by repeat (first | exact .nil | refine .cons rfl ?_ | refine .consE rfl (by first | rfl | (congr 1; omega) | (congr 1; push_cast; omega)) ?_)) (by rw [sumA_snoc hx, ← Int.add_assoc]; exact Weak.drop (Weak.refl _))
      · skip
        have hi0 := of_decide_eq_false hi0
        have hn42 : ¬ (0 < i ∧ x.a ≤ (accAt l (i - 1)).a) := by omega
        refine O_pure rfl rfl rfl rfl (P_move rfl rfl) ?_
        refine O_no rfl rfl rfl rfl ?_
        refine O_noX rfl rfl rfl rfl ?_
        refine O_no rfl rfl rfl rfl ?_
        refine O_no rfl rfl rfl rfl ?_
        refine O_no rfl rfl rfl rfl ?_
        refine O_no rfl rfl rfl rfl ?_
        refine O_no rfl rfl rfl rfl ?_
        refine O_noX rfl rfl rfl rfl ?_
        refine O_no rfl rfl rfl rfl ?_
        refine O_pure rfl rfl rfl rfl (P_pick rfl rfl rfl) ?_
        refine O_pure rfl rfl rfl rfl (P_assign rfl rfl) ?_
        refine O_nil ?_
        refine Q_then ?_
        refine R_condF rfl ?_
        refine R_seq ?_
        refine R_region ?_
        refine L_val rfl rfl rfl (OpP.v (P_fld0 rfl ty_fl_39_1 rfl)) ?_
        refine L_val rfl rfl rfl (V_load rfl rfl ty_sc_23 (Rd.blk .h0 rfl)) ?_
        refine L_val rfl rfl rfl (OpP.v (P_gtr rfl rfl rfl)) ?_
        refine E_bool (t := 37) rfl (fun hb => ?_) (fun hb => ?_)
        · skip
          have hb := of_decide_eq_true hb
          refine L_val rfl rfl rfl (OpP.v (P_move rfl rfl)) ?_
          refine L_no rfl rfl rfl ?_
          refine L_no rfl rfl rfl ?_
          refine L_no rfl rfl rfl ?_
          refine L_val rfl rfl rfl (OpP.v (P_pick rfl rfl rfl)) ?_
          refine L_val rfl rfl rfl (OpP.v (P_assign rfl rfl)) ?_
          refine L_nil ?_
          refine Q_then ?_
          refine R_condT rfl ?_
          refine R_seq ?_
          refine R_region ?_
          refine L_val rfl rfl rfl (OpP.v (P_buildStruct rfl ty_pl_50 ty_ze_50 rfl rfl (rfl))) ?_
          refine E_as (t := 43) (v' := .agg [.int .u64 0, .int .u64 0].toArray) rfl (rfl) ?_
          refine L_op rfl (W_storeAll rfl rfl rfl rfl ty_ag_50 (rfl) (sumC_one 0) .h2 (rfl) ?_)
          refine L_val rfl rfl rfl (OpP.v (P_assign rfl rfl)) ?_
          refine L_nil ?_
          refine Q_then ?_
          refine R_ret ?_
          refine Q_block_ret ?_
          refine Q_then_ret ?_
          refine Q_block_ret ?_
          refine Q_then_ret ?_
          refine Q_then_ret ?_
          refine Q_block_ret ?_
          refine Q_then_ret ?_
          exact R_endV rfl rfl (.cell rfl (Rds.loadVar ty_ag_50 (Rds.blk .h2) rfl) (.tmp rfl .nil)) (by have h9 : accE l = 87 := firstE_hit h0 (show accBad l i = 87 by unfold accBad; rw [← ex]; rw [if_neg ha, if_neg hn42, if_pos (by omega)]) (by decide) (by omega); rw [soundV_bad h9 (by decide)]; rfl)
        · skip
          have hb := of_decide_eq_false hb
          refine L_val rfl rfl rfl (OpP.v (P_move rfl rfl)) ?_
          refine L_val rfl rfl rfl (OpP.v (P_fld0 rfl ty_fl_39_2 rfl)) ?_
          refine L_val rfl rfl rfl (V_load rfl rfl ty_sc_23 (Rd.blk .h0 rfl)) ?_
          refine L_val rfl rfl rfl (OpP.v (P_gtr rfl rfl rfl)) ?_
          refine L_val rfl rfl rfl (OpP.v (P_pick rfl rfl rfl)) ?_
          refine L_val rfl rfl rfl (OpP.v (P_assign rfl rfl)) ?_
          refine L_nil ?_
          refine Q_then ?_
          refine R_condP rfl (fun hd => ?_) (fun hd => ?_)
          · skip
            refine R_seq ?_
            refine R_region ?_
            refine L_val rfl rfl rfl (OpP.v (P_buildStruct rfl ty_pl_50 ty_ze_50 rfl rfl (rfl))) ?_
            refine E_as (t := 43) (v' := .agg [.int .u64 0, .int .u64 0].toArray) rfl (rfl) ?_
            refine L_op rfl (W_storeAll rfl rfl rfl rfl ty_ag_50 (rfl) (sumC_one 0) .h2 (rfl) ?_)
            refine L_val rfl rfl rfl (OpP.v (P_assign rfl rfl)) ?_
            refine L_nil ?_
            refine Q_then ?_
            refine R_ret ?_
            refine Q_block_ret ?_
            refine Q_then_ret ?_
            refine Q_block_ret ?_
            refine Q_then_ret ?_
            refine Q_then_ret ?_
            refine Q_block_ret ?_
            refine Q_then_ret ?_
            exact R_endV rfl rfl (.cell rfl (Rds.loadVar ty_ag_50 (Rds.blk .h2) rfl) (.tmp rfl .nil)) (by have h9 : accE l = 87 := firstE_hit h0 (show accBad l i = 87 by unfold accBad; rw [← ex]; rw [if_neg ha, if_neg hn42, if_pos (by omega)]) (by decide) (by omega); rw [soundV_bad h9 (by decide)]; rfl)
          · skip
            refine R_skip ?_
            refine Q_block ?_
            refine Q_then ?_
            refine R_open [(0, 1), (1, 0), (2, 1), (4, 0), (5, 1), (3, 2), (6, 2), (7, 3)] mixed (by kernel_rfl) (QOk.block (QOk.then (QOk.then (QOk.block (QOk.then QOk.body))))) ?_
            refine O_val rfl rfl rfl rfl (V_loadAgg rfl rfl ty_ag_50 (Rds.blk .h1) (rfl)) ?_
            refine O_pure rfl rfl rfl rfl (P_fld0 rfl ty_fl_39_1 rfl) ?_
            refine O_val rfl rfl rfl rfl (V_load rfl rfl ty_sc_23 (Rd.blk .h0 rfl)) ?_
            refine O_pure rfl rfl rfl rfl (P_fld0 rfl ty_fl_39_2 rfl) ?_
            refine O_val rfl rfl rfl rfl (V_load rfl rfl ty_sc_23 (Rd.blk .h0 rfl)) ?_
            refine O_keep rfl rfl (W_callV rfl rfl rfl rfl fn_ca_33 (plus_ok (sumA (l.take i)) x.bal hSn (by omega) hb1) (fun _ _ => trivial) (K_keep (Weak.refl _) ?_))
            refine O_keep rfl rfl (W_callV rfl rfl rfl rfl fn_ca_33 (plus_ok (sumA (l.take i) + x.bal) x.bond (by have := hb1.1; omega) (by have := hb1.2; omega) hb2) (fun _ _ => trivial) (K_keep (Weak.refl _) ?_))
            refine O_new rfl rfl (W_storeAll rfl rfl rfl rfl ty_ag_50 (rfl) (sumC_one _) .h1 (rfl) (K_new ?_))
            refine O_nil ?_
            refine Q_block ?_
            refine Q_then ?_
            refine R_region ?_
            first | (refine L_val rfl rfl rfl (OpP.v (P_addN rfl rfl rfl (by simp only [fits]; omega))) ?_) | (refine L_val rfl rfl rfl (OpP.v (P_add rfl rfl rfl)) ?_)
            refine L_val rfl rfl rfl (OpP.v (P_move rfl rfl)) ?_
            refine L_nil ?_
            exact Q_round (i + 1) (by show (i + 1) ≤ l.length ∧ firstE (accBad l) (i + 1) = 0; exact ⟨by omega, firstE_next h0 (by unfold accBad; rw [← ex, if_neg ha, if_neg hn42, if_neg (by omega)])⟩) (by show l.length - (i + 1) < l.length - i; omega) (by repeat (first | exact .nil | refine .cons rfl ?_ | refine .consE rfl (by first | rfl | (congr 1; omega) | (congr 1; push_cast; omega)) ?_)) (by rw [sumA_snoc hx, ← Int.add_assoc]; exact Weak.drop (Weak.refl _))
  · skip
    have hin : i = l.length := by omega
    rw [hin] at h0
    rw [hin, List.take_length]
    refine R_exit ?_
    refine Q_then_exit ?_
    refine Q_then_exit ?_
    refine Q_block_eq ?_
    refine St.env (.cons (t := 2) rfl (.cons (t := 3) rfl (.cons (t := 4) rfl .nil))) ?_
    refine Q_then ?_
    refine R_seq ?_
    refine R_region ?_
    refine L_val rfl rfl rfl (V_loadAgg rfl rfl ty_ag_50 (Rds.blk .h0) (rfl)) ?_
    refine L_op rfl (W_storeAll rfl rfl rfl rfl ty_ag_50 (rfl) (sumC_one _) .h1 (rfl) ?_)
    refine L_val rfl rfl rfl (OpP.v (P_assign rfl rfl)) ?_
    refine L_nil ?_
    refine St.env (.cons (t := 2) rfl (.cons (t := 3) rfl .nil)) ?_
    refine Q_then ?_
    refine R_ret ?_
    exact R_endV rfl rfl (.cell rfl (Rds.loadVar ty_ag_50 (Rds.blk .h1) rfl) (.tmp rfl .nil)) (by rw [soundV_fine h0]; rfl)
theorem freshA_ok {gl : Nat → Obj} (base : Option Addr) (c : Nat) (l : List Acc) (hc : l.length ≤ c) (hm : l.length ≤ 3518437208883) : Spec (cx gl) 21 [.slice base l.length c] (fun w h => Seen w h base (rc l)) [] (fun v rs => rs = [ownS 39 5 (v) (l.length) (rc (l))]) := by
  refine Spec.enter (C := cx gl) Try.func21 rfl 7 rfl rfl fun w0 h0 hsep hsub hpre => ?_
  obtain rfl : h0 = Heap.none := hsep
  show St (cx gl) _ [(0, .slice base l.length c)] _ _
  refine R_seq ?_
  refine R_region ?_
  refine L_val rfl rfl rfl (OpP.v (P_assign rfl rfl)) ?_
  refine L_nil ?_
  refine Q_then ?_
  refine R_seq ?_
  refine R_region ?_
  refine L_val rfl rfl rfl (OpP.v (P_move rfl rfl)) ?_
  refine L_val rfl rfl rfl (OpP.v (P_slice3 0 0 0 rfl ty_sl_22 rfl rfl rfl rfl (by omega) (by omega) (by omega))) ?_
  refine E_as (t := 4) (v' := .slice base 0 0) rfl (rfl) ?_
  refine St.res (rs' := [ownS 39 5 (.slice base 0 0) 0 (rc ([] : List Acc))]) (Weak.newNil0) ?_
  refine L_val rfl rfl rfl (OpP.v (P_move rfl rfl)) ?_
  refine L_op rfl (W_append (p := []) rfl rfl rfl ty_sl_22 ty_ap_22 ty_src_22 rfl rfl rfl (Src.row (sz := 5) (Sn.old hpre).rw_ (rc_length l) (rc_one l)) (by omega) (by simp only [maxLen]; omega) fun v6 => ?_)
  refine L_val rfl rfl rfl (OpP.v (P_assign rfl rfl)) ?_
  refine L_nil ?_
  refine St.env (.cons (t := 2) rfl .nil) ?_
  refine Q_then ?_
  refine R_ret ?_
  exact R_end (rs2 := _) rfl rfl (.tmp rfl .nil) (rfl) (ownS.to2 (by omega) rfl)
theorem ledV_one (u r : Value) (b s : Int) (hu : u.oneCell' = true) (hr : r.oneCell' = true) : ∀ v ∈ ledV u r b s, v.oneCell' = true := by
  intro v hv; simp only [ledV, List.mem_cons, List.not_mem_nil, or_false] at hv; rcases hv with rfl | rfl | rfl | rfl <;> first | assumption | rfl
theorem newL8_bad' {l : List Acc} (h : newE l ≠ 0) : (newL8 l).acc = [] ∧ (newL8 l).sup = 0 := by rw [newL8_bad h]; exact ⟨rfl, rfl⟩
theorem lnew_ok {gl : Nat → Obj} (base : Option Addr) (c : Nat) (l : List Acc) (hc : l.length ≤ c)(hm : l.length ≤ 3518437208883)(hok : ∀ x ∈ l, x.ok) : Spec (cx gl) 6 [.slice base l.length c] (fun w _ => Row w base (rc l)) [] (fun v rs => ∃ u, v = .tuple #[.agg (ledV u (.slice none 0 0) 0 (newL8 l).sup).toArray, .int .i64 (newE l)] ∧ rs = [ownS 39 5 (u) ((newL8 l).acc.length) (rc ((newL8 l).acc))]) := by
  refine Spec.enter (C := cx gl) Try.func6 rfl 33 rfl rfl fun w0 h0 hsep hsub hpre => ?_
  obtain rfl : h0 = Heap.none := hsep
  show St (cx gl) _ [(0, .slice base l.length c)] _ _
  have hms : MS = 1152921504606846975 := rfl
  refine R_seq ?_
  refine R_region ?_
  refine L_op rfl (W_alloc rfl rfl rfl ty_ze_29 fun b2 => ?_)
  refine L_val rfl rfl rfl (OpP.v (P_assign rfl rfl)) ?_
  refine L_nil ?_
  refine Q_then ?_
  refine R_seq ?_
  refine R_seq ?_
  refine R_region ?_
  refine L_val rfl rfl rfl (OpP.v (P_move rfl rfl)) ?_
  refine L_val rfl rfl rfl (OpP.v (P_len rfl ty_sl_22 rfl)) ?_
  refine L_val rfl rfl rfl (OpP.v (P_gtr rfl rfl rfl)) ?_
  refine L_nil ?_
  refine St.env (.cons (t := 0) rfl (.cons (t := 2) rfl (.cons (t := 3) rfl (.cons (t := 8) rfl .nil)))) ?_
  refine Q_then ?_
  refine R_condP rfl (fun hbig => ?_) (fun hbig => ?_)
  · skip
    have h9e : newE l = 86 := newE_big (by omega)
    have h9 : newE l ≠ 0 := by rw [h9e]; decide
    refine R_seq ?_
    refine R_region ?_
    refine L_val rfl rfl rfl (OpP.v (P_buildStruct rfl ty_pl_29 ty_ze_29 rfl rfl (rfl))) ?_
    refine E_as (t := 9) (v' := .agg (ledV (.slice none 0 0) (.slice none 0 0) 0 0).toArray) rfl (rfl) ?_
    refine L_op rfl (W_storeAll rfl rfl rfl rfl ty_ag_29 (rfl) (ledV_one _ _ _ _ rfl rfl) .h0 (rfl) ?_)
    refine L_val rfl rfl rfl (OpP.v (P_assign rfl rfl)) ?_
    refine L_nil ?_
    refine St.env (.cons (t := 0) rfl (.cons (t := 2) rfl (.cons (t := 3) rfl .nil))) ?_
    refine Q_then ?_
    refine R_ret ?_
    refine Q_then_ret ?_
    exact R_end (rs2 := [ownS 39 5 (.slice none 0 0) ((newL8 l).acc.length) (rc ((newL8 l).acc))]) rfl rfl (.cell rfl (Rds.loadVar ty_ag_29 (Rds.blk .h0) rfl) (.tmp rfl .nil)) (⟨.slice none 0 0, by rw [(newL8_bad' h9).2]; rw [h9e]; rfl, rfl⟩) (Weak.trans (Weak.newNil (T := 39) (sz := 5)) (Weak.keep_to (fun h hh => by rw [(newL8_bad' h9).1]; exact hh)))
  · skip
    have hbig : ¬ 65536 < l.length := by omega
    refine R_skip ?_
    refine Q_then ?_
    refine R_seq ?_
    refine R_region ?_
    refine L_val rfl rfl rfl (OpP.v (P_move rfl rfl)) ?_
    refine L_op rfl (W_callV rfl rfl rfl rfl fn_ca_20 (soundAcc_ok base c l hc (by omega) hok) (fun w nw => (Sn.row hpre rfl).rw_ w nw) ?_)
    rw [show soundV l = .tuple #[.agg (sumC (if accE l = 0 then sumA l else 0)).toArray, .int .i64 (accE l)] from rfl]
    refine L_val rfl rfl rfl (OpP.v (P_move rfl rfl)) ?_
    refine L_val rfl rfl rfl (OpP.v (P_extract rfl rfl rfl)) ?_
    refine L_val rfl rfl rfl (OpP.v (P_extract rfl rfl rfl)) ?_
    refine L_op rfl (W_alloc rfl rfl rfl ty_ze_50 fun b4 => ?_)
    refine L_op rfl (W_storeAll rfl rfl rfl rfl ty_ag_50 (rfl) (sumC_one _) .h0 (rfl) ?_)
    refine L_val rfl rfl rfl (OpP.v (P_assign rfl rfl)) ?_
    refine L_nil ?_
    refine St.env (.cons (t := 0) rfl (.cons (t := 2) rfl (.cons (t := 3) rfl (.cons (t := 4) rfl (.cons (t := 5) rfl .nil))))) ?_
    refine Q_then ?_
    refine R_seq ?_
    refine R_seq ?_
    refine R_region ?_
    refine L_val rfl rfl rfl (OpP.v (P_move rfl rfl)) ?_
    refine L_val rfl rfl rfl (OpP.v (P_neq rfl rfl rfl)) ?_
    refine L_nil ?_
    refine St.env (.cons (t := 0) rfl (.cons (t := 2) rfl (.cons (t := 3) rfl (.cons (t := 4) rfl (.cons (t := 5) rfl (.cons (t := 16) rfl .nil)))))) ?_
    refine Q_then ?_
    refine R_condP rfl (fun he => ?_) (fun he => ?_)
    · skip
      have h9e : newE l = accE l := newE_bad hbig he
      have h9 : newE l ≠ 0 := by rw [h9e]; exact he
      refine R_seq ?_
      refine R_region ?_
      refine L_val rfl rfl rfl (OpP.v (P_buildStruct rfl ty_pl_29 ty_ze_29 rfl rfl (rfl))) ?_
      refine E_as (t := 17) (v' := .agg (ledV (.slice none 0 0) (.slice none 0 0) 0 0).toArray) rfl (rfl) ?_
      refine L_val rfl rfl rfl (OpP.v (P_move rfl rfl)) ?_
      refine L_op rfl (W_storeAll rfl rfl rfl rfl ty_ag_29 (rfl) (ledV_one _ _ _ _ rfl rfl) .h1 (rfl) ?_)
      refine L_val rfl rfl rfl (OpP.v (P_assign rfl rfl)) ?_
      refine L_nil ?_
      refine St.env (.cons (t := 0) rfl (.cons (t := 2) rfl (.cons (t := 3) rfl (.cons (t := 4) rfl .nil)))) ?_
      refine Q_then ?_
      refine R_ret ?_
      refine Q_then_ret ?_
      exact R_end (rs2 := [ownS 39 5 (.slice none 0 0) ((newL8 l).acc.length) (rc ((newL8 l).acc))]) rfl rfl (.cell rfl (Rds.loadVar ty_ag_29 (Rds.blk .h1) rfl) (.tmp rfl .nil)) (⟨.slice none 0 0, by rw [(newL8_bad' h9).2]; rw [h9e]; rfl, rfl⟩) (Weak.trans (Weak.newNil (T := 39) (sz := 5)) (Weak.keep_to (fun h hh => by rw [(newL8_bad' h9).1]; exact hh)))
    · skip
      have he : accE l = 0 := Classical.not_not.1 he
      have hSn := sumA_nn hok
      have hS := sumA_le l.length (Nat.le_refl _) he
      rw [List.take_length, hms] at hS
      rw [if_pos he]
      refine R_skip ?_
      refine Q_then ?_
      refine R_seq ?_
      refine R_seq ?_
      refine R_region ?_
      refine L_val rfl rfl rfl (OpP.v (P_fld0 rfl ty_fl_50_0 rfl)) ?_
      refine L_val rfl rfl rfl (V_load rfl rfl ty_sc_23 (Rd.blk .h0 rfl)) ?_
      refine L_val rfl rfl rfl (OpP.v (P_gtr rfl rfl rfl)) ?_
      refine E_bool (t := 21) rfl (fun hh => ?_) (fun hh => ?_)
      · skip
        have hh := of_decide_eq_true hh
        have hbs : MS < sumA l := by omega
        refine L_val rfl rfl rfl (OpP.v (P_move rfl rfl)) ?_
        refine L_no rfl rfl rfl ?_
        refine L_no rfl rfl rfl ?_
        refine L_no rfl rfl rfl ?_
        refine L_val rfl rfl rfl (OpP.v (P_pick rfl rfl rfl)) ?_
        refine L_nil ?_
        refine St.env (.cons (t := 0) rfl (.cons (t := 2) rfl (.cons (t := 3) rfl (.cons (t := 4) rfl (.cons (t := 26) rfl .nil))))) ?_
        refine Q_then ?_
        refine R_condT rfl ?_
        refine R_seq ?_
        refine R_region ?_
        refine L_val rfl rfl rfl (OpP.v (P_buildStruct rfl ty_pl_29 ty_ze_29 rfl rfl (rfl))) ?_
        refine E_as (t := 27) (v' := .agg (ledV (.slice none 0 0) (.slice none 0 0) 0 0).toArray) rfl (rfl) ?_
        refine L_op rfl (W_storeAll rfl rfl rfl rfl ty_ag_29 (rfl) (ledV_one _ _ _ _ rfl rfl) .h1 (rfl) ?_)
        refine L_val rfl rfl rfl (OpP.v (P_assign rfl rfl)) ?_
        refine L_nil ?_
        refine St.env (.cons (t := 0) rfl (.cons (t := 2) rfl (.cons (t := 3) rfl (.cons (t := 4) rfl .nil)))) ?_
        refine Q_then ?_
        refine R_ret ?_
        refine Q_then_ret ?_
        have h9 : newE l ≠ 0 := by rw [newE_sum hbig he hbs]; decide
        exact R_end (rs2 := [ownS 39 5 (.slice none 0 0) ((newL8 l).acc.length) (rc ((newL8 l).acc))]) rfl rfl (.cell rfl (Rds.loadVar ty_ag_29 (Rds.blk .h1) rfl) (.tmp rfl .nil)) (⟨.slice none 0 0, by rw [(newL8_bad' h9).2]; rw [newE_sum hbig he hbs]; rfl, rfl⟩) (Weak.trans (Weak.newNil (T := 39) (sz := 5)) (Weak.keep_to (fun h hh => by rw [(newL8_bad' h9).1]; exact hh)))
      · skip
        have hh := of_decide_eq_false hh
        have hlow : sumA l % 18446744073709551616 = sumA l := by omega
        refine L_val rfl rfl rfl (OpP.v (P_move rfl rfl)) ?_
        refine L_val rfl rfl rfl (OpP.v (P_fld0 rfl ty_fl_50_1 rfl)) ?_
        refine L_val rfl rfl rfl (V_load rfl rfl ty_sc_23 (Rd.blk .h0 rfl)) ?_
        refine E_as (t := 24) (v' := .int .u64 (sumA l)) rfl (by rw [hlow]) ?_
        refine L_val rfl rfl rfl (OpP.v (P_gtr rfl rfl rfl)) ?_
        refine L_val rfl rfl rfl (OpP.v (P_pick rfl rfl rfl)) ?_
        refine L_nil ?_
        refine St.env (.cons (t := 0) rfl (.cons (t := 2) rfl (.cons (t := 3) rfl (.cons (t := 4) rfl (.cons (t := 26) rfl .nil))))) ?_
        refine Q_then ?_
        refine R_condP rfl (fun hs => ?_) (fun hs => ?_)
        · skip
          have hbs : MS < sumA l := hs
          refine R_seq ?_
          refine R_region ?_
          refine L_val rfl rfl rfl (OpP.v (P_buildStruct rfl ty_pl_29 ty_ze_29 rfl rfl (rfl))) ?_
          refine E_as (t := 27) (v' := .agg (ledV (.slice none 0 0) (.slice none 0 0) 0 0).toArray) rfl (rfl) ?_
          refine L_op rfl (W_storeAll rfl rfl rfl rfl ty_ag_29 (rfl) (ledV_one _ _ _ _ rfl rfl) .h1 (rfl) ?_)
          refine L_val rfl rfl rfl (OpP.v (P_assign rfl rfl)) ?_
          refine L_nil ?_
          refine St.env (.cons (t := 0) rfl (.cons (t := 2) rfl (.cons (t := 3) rfl (.cons (t := 4) rfl .nil)))) ?_
          refine Q_then ?_
          refine R_ret ?_
          refine Q_then_ret ?_
          have h9 : newE l ≠ 0 := by rw [newE_sum hbig he hbs]; decide
          exact R_end (rs2 := [ownS 39 5 (.slice none 0 0) ((newL8 l).acc.length) (rc ((newL8 l).acc))]) rfl rfl (.cell rfl (Rds.loadVar ty_ag_29 (Rds.blk .h1) rfl) (.tmp rfl .nil)) (⟨.slice none 0 0, by rw [(newL8_bad' h9).2]; rw [newE_sum hbig he hbs]; rfl, rfl⟩) (Weak.trans (Weak.newNil (T := 39) (sz := 5)) (Weak.keep_to (fun h hh => by rw [(newL8_bad' h9).1]; exact hh)))
        · skip
          have hbs : ¬ MS < sumA l := hs
          have h9 : newE l = 0 := newE_fine hbig he hbs
          refine R_skip ?_
          refine Q_then ?_
          refine R_seq ?_
          refine R_open [(0, 0), (2, 0), (3, 1), (1, 2), (4, 0), (5, 3), (6, 0)] mixed (by kernel_rfl) (QOk.then QOk.body) ?_
          refine O_pure rfl rfl rfl rfl (P_move rfl rfl) ?_
          refine O_pure rfl rfl rfl rfl (P_fld0 rfl ty_fl_50_1 rfl) ?_
          refine O_val rfl rfl rfl rfl (V_load rfl rfl ty_sc_23 (Rd.blk .h0 rfl)) ?_
          refine E_as (t := 31) (v' := .int .u64 (sumA l)) rfl (by rw [hlow]) ?_
          refine O_keep rfl rfl (W_call rfl rfl rfl rfl fn_ca_21 (freshA_ok base c l hc (by omega)) (Split.nil _) (fun w a b _ hb dj m => Sn.pre (Sn.row hpre rfl) w a b ‹_› hb dj m) fun v29 rs1 (e1 : rs1 = _) => ?_)
          subst e1
          refine St.ownForm (p := []) fun ub uc huv huc => ?_
          subst huv
          refine K_keep (Weak.drop (Weak.refl _)) ?_
          refine O_pure rfl rfl rfl rfl (P_buildStruct rfl ty_pl_29 ty_ze_29 rfl rfl (rfl)) ?_
          refine E_as (t := 32) (v' := .agg (ledV (.slice ub l.length uc) (.slice none 0 0) 0 (sumA l)).toArray) rfl (rfl) ?_
          refine O_new rfl rfl (W_storeAll rfl rfl rfl rfl ty_ag_29 (rfl) (ledV_one _ _ _ _ rfl rfl) .h2 (rfl) (K_new ?_))
          refine O_pure rfl rfl rfl rfl (P_assign rfl rfl) ?_
          refine O_nil ?_
          refine St.env (.cons (t := 2) rfl (.cons (t := 3) rfl .nil)) ?_
          refine Q_then ?_
          refine R_ret ?_
          exact R_end (rs2 := [ownS 39 5 (.slice ub l.length uc) ((newL8 l).acc.length) (rc ((newL8 l).acc))]) rfl rfl (.cell rfl (Rds.loadVar ty_ag_29 (Rds.blk .h2) rfl) (.tmp rfl .nil)) (⟨_, by rw [newL8_fine h9, h9]; rfl, rfl⟩) (by rw [newL8_fine h9]; exact Weak.keep (Weak.nil _))
theorem find1_ok {gl : Nat → Obj} (ab : Nat) (a : Int) (x : Acc) : SpecV (cx gl) 35 [.agg x.cells.toArray, .pointer (some ⟨ab, 0, none⟩)] (fun w => w.cell? ⟨ab, 0, none⟩ = some (.int .u64 a)) (.bool (isAc a x)) := by
  refine Spec.enter (C := cx gl) Try.func35 rfl 8 rfl rfl fun w0 h0 hsep hsub hpre => ?_
  obtain rfl : h0 = Heap.none := hsep
  show St (cx gl) _ [(0, .agg x.cells.toArray), (1, .pointer (some ⟨ab, 0, none⟩))] _ _
  refine R_seq ?_
  refine R_region ?_
  refine L_op rfl (W_box (x.cells) rfl rfl rfl rfl rfl fun b2 => ?_)
  refine L_val rfl rfl rfl (OpP.v (P_assign rfl rfl)) ?_
  refine L_nil ?_
  refine St.env (.cons (t := 1) rfl (.cons (t := 2) rfl (.cons (t := 3) rfl .nil))) ?_
  refine Q_then ?_
  refine R_seq ?_
  refine R_region ?_
  refine L_val rfl rfl rfl (OpP.v (P_fld0 rfl ty_fl_39_0 rfl)) ?_
  refine L_val rfl rfl rfl (V_load rfl rfl ty_sc_35 (Rd.blk .h0 rfl)) ?_
  refine L_val rfl rfl rfl (V_load rfl rfl ty_sc_35 (Rd.old hpre rfl)) ?_
  refine L_val rfl rfl rfl (OpP.v (P_eql rfl rfl rfl)) ?_
  refine L_val rfl rfl rfl (OpP.v (P_assign rfl rfl)) ?_
  refine L_nil ?_
  refine St.env (.cons (t := 3) rfl .nil) ?_
  refine Q_then ?_
  refine R_ret ?_
  exact R_endV rfl rfl (.tmp rfl .nil) (rfl)
theorem ixA_ok {gl : Nat → Obj} (ab : Nat) (a : Int) (base : Option Addr) (c : Nat) (l : List Acc) (hc : l.length ≤ c) (hm : l.length ≤ 3518437208883) : SpecV (cx gl) 34 [.slice base l.length c, .func (.func 35) #[] #[.pointer (some ⟨ab, 0, none⟩)]] (fun w => Row w base (rc l) ∧ w.cell? ⟨ab, 0, none⟩ = some (.int .u64 a)) (.int .i64 (idxG (isAc a) l)) := by
  refine Spec.enter (C := cx gl) Try.func34 rfl 19 rfl rfl fun w0 h0 hsep hsub hpre => ?_
  obtain rfl : h0 = Heap.none := hsep
  show St (cx gl) _ [(0, .slice base l.length c), (1, .func (.func 35) #[] #[.pointer (some ⟨ab, 0, none⟩)])] _ _
  refine R_seq ?_
  refine R_region ?_
  refine L_val rfl rfl rfl (OpP.v (P_assign rfl rfl)) ?_
  refine L_nil ?_
  refine Q_then ?_
  refine R_seq ?_
  refine R_seq ?_
  refine R_region ?_
  refine L_val rfl rfl rfl (OpP.v (P_move rfl rfl)) ?_
  refine L_val rfl rfl rfl (OpP.v (P_len rfl ty_sl_22 rfl)) ?_
  refine L_val rfl rfl rfl (OpP.v (P_move rfl rfl)) ?_
  refine L_nil ?_
  refine St.env (.cons (t := 0) rfl (.cons (t := 1) rfl (.cons (t := 4) rfl (.cons (t := 7) rfl (.cons (t := 8) rfl .nil))))) ?_
  refine Q_then ?_
  refine R_block ?_
  refine R_loopE (G := Nat) (.cons (t := 0) rfl (.cons (t := 1) rfl (.cons (t := 4) rfl (.cons (t := 7) rfl .nil)))) (fun g => [(8, .int .i64 (g : Int))]) (fun _ => _) (fun g => g ≤ l.length ∧ ∀ j m', j < g → l[j]? = some m' → isAc a m' = false) (fun g => l.length - g) (0) (by show (0) ≤ l.length ∧ ∀ j m', j < (0) → l[j]? = some m' → isAc a m' = false; exact ⟨Nat.zero_le _, fun j _ h => by omega⟩) (by repeat (first | exact .nil | refine .cons rfl ?_ | refine .consE rfl (by first | rfl | (congr 1; omega) | (congr 1; push_cast; omega)) ?_)) (Weak.refl _) ?_
  intro i hinv
  replace hinv : i ≤ l.length ∧ ∀ j m', j < i → l[j]? = some m' → isAc a m' = false := hinv
  show St (cx gl) _ ((8, .int .i64 (i : Int)) :: _) _ _
  obtain ⟨hi, h0⟩ := hinv
  refine R_seq ?_
  refine R_region ?_
  refine L_val rfl rfl rfl (OpP.v (P_lss rfl rfl rfl)) ?_
  refine L_nil ?_
  refine Q_then ?_
  refine R_seq ?_
  refine R_condP rfl (fun hlt => ?_) (fun hlt => ?_)
  · skip
    obtain ⟨x, hx⟩ : ∃ x, l[i]? = some x := ⟨_, List.getElem?_eq_getElem (by omega)⟩
    obtain ⟨pb, pj, rfl, hrow⟩ := hpre.1.some_ (by rw [rc_length]; show 0 < _ * 5; omega)
    refine R_skip ?_
    refine Q_then ?_
    refine R_seq ?_
    refine R_block ?_
    refine R_seq ?_
    refine R_region ?_
    refine L_val rfl rfl rfl (OpP.v (P_move rfl rfl)) ?_
    refine L_val rfl rfl rfl (OpP.v (P_assign rfl rfl)) ?_
    refine L_nil ?_
    refine Q_then ?_
    refine R_seq ?_
    refine R_region ?_
    refine L_val rfl rfl rfl (OpP.v (P_move rfl rfl)) ?_
    refine L_val rfl rfl rfl (OpP.v (P_move rfl rfl)) ?_
    refine L_val rfl rfl rfl (OpP.v (P_move rfl rfl)) ?_
    refine L_val rfl rfl rfl (OpP.v (P_ixs (i) rfl ty_sl_22 rfl rfl (by first | rfl | omega) (by omega))) ?_
    refine L_val rfl rfl rfl (V_loadAgg rfl rfl ty_ag_39 (rds_rc (Rds.row hrow rfl) hx) (rfl)) ?_
    refine L_op rfl (W_callFV (fi := []) (ca := [.pointer (some ⟨ab, 0, none⟩)]) rfl rfl rfl rfl rfl rfl fn_ca_35 (find1_ok ab a x) (fun w nw => (Rd.old hpre.2 rfl) w nw) ?_)
    refine L_nil ?_
    refine Q_then ?_
    refine R_cond rfl (fun hp => ?_) (fun hp => ?_)
    · skip
      refine R_seq ?_
      refine R_region ?_
      refine L_val rfl rfl rfl (OpP.v (P_move rfl rfl)) ?_
      refine L_val rfl rfl rfl (OpP.v (P_assign rfl rfl)) ?_
      refine L_nil ?_
      refine Q_then ?_
      refine R_ret ?_
      refine Q_block_ret ?_
      refine Q_then_ret ?_
      refine Q_then_ret ?_
      refine Q_block_ret ?_
      refine Q_then_ret ?_
      exact R_endV rfl rfl (.tmp rfl .nil) (by rw [idxG_hit h0 hx hp]; rfl)
    · skip
      refine R_skip ?_
      refine Q_block ?_
      refine Q_then ?_
      refine R_region ?_
      first | (refine L_val rfl rfl rfl (OpP.v (P_addN rfl rfl rfl (by simp only [fits]; omega))) ?_) | (refine L_val rfl rfl rfl (OpP.v (P_add rfl rfl rfl)) ?_)
      refine L_val rfl rfl rfl (OpP.v (P_move rfl rfl)) ?_
      refine L_nil ?_
      exact Q_round (i + 1) (by show (i + 1) ≤ l.length ∧ ∀ j m', j < (i + 1) → l[j]? = some m' → isAc a m' = false; exact ⟨by omega, no_next h0 hx hp⟩) (by show l.length - (i + 1) < l.length - i; omega) (by repeat (first | exact .nil | refine .cons rfl ?_ | refine .consE rfl (by first | rfl | (congr 1; omega) | (congr 1; push_cast; omega)) ?_)) (Weak.refl _)
  · skip
    refine R_exit ?_
    refine Q_then_exit ?_
    refine Q_then_exit ?_
    refine Q_block_eq ?_
    refine St.env (.cons (t := 4) rfl .nil) ?_
    refine Q_then ?_
    refine R_seq ?_
    refine R_region ?_
    refine L_val rfl rfl rfl (OpP.v (P_assign rfl rfl)) ?_
    refine L_nil ?_
    refine Q_then ?_
    refine R_ret ?_
    exact R_endV rfl rfl (.tmp rfl .nil) (by rw [idxG_none fun j m' hj hm' => h0 j m' (by omega) hm']; rfl)
theorem find_ok {gl : Nat → Obj} (base : Option Addr) (c : Nat) (l : List Acc) (hc : l.length ≤ c) (hm : l.length ≤ 3518437208883) (r : Value) (hr : r.oneCell' = true) (bu su a : Int) : SpecV (cx gl) 13 [.agg (ledV (.slice base l.length c) r bu su).toArray, .int .u64 a] (fun w => Row w base (rc l)) (findV l a) := by
  refine Spec.enter (C := cx gl) Try.func13 rfl 23 rfl rfl fun w0 h0 hsep hsub hpre => ?_
  obtain rfl : h0 = Heap.none := hsep
  show St (cx gl) _ [(0, .agg (ledV (.slice base l.length c) r bu su).toArray), (1, .int .u64 a)] _ _
  refine R_seq ?_
  refine R_region ?_
  refine L_op rfl (W_box (ledV (.slice base l.length c) r bu su) rfl rfl rfl rfl rfl fun b2 => ?_)
  refine L_op rfl (W_box ([.int .u64 a]) rfl rfl rfl rfl rfl fun b3 => ?_)
  refine L_op rfl (W_alloc rfl rfl rfl ty_ze_39 fun b4 => ?_)
  refine L_val rfl rfl rfl (OpP.v (P_assign rfl rfl)) ?_
  refine L_nil ?_
  refine St.env (.cons (t := 2) rfl (.cons (t := 3) rfl (.cons (t := 4) rfl (.cons (t := 5) rfl .nil)))) ?_
  refine Q_then ?_
  refine R_seq ?_
  refine R_region ?_
  refine L_val rfl rfl rfl (OpP.v (P_fld0 rfl ty_fl_29_0 rfl)) ?_
  refine L_val rfl rfl rfl (V_load rfl rfl ty_sc_22 (Rd.blk .h2 rfl)) ?_
  refine L_val rfl rfl rfl (OpP.v (P_func rfl rfl rfl)) ?_
  refine L_op rfl (W_callV rfl rfl rfl rfl fn_ca_34 (ixA_ok b3 a base c l hc hm) (fun w nw => ⟨(Sn.row hpre rfl).rw_ w nw, Rd.blk .h1 rfl w nw⟩) ?_)
  refine L_val rfl rfl rfl (OpP.v (P_assign rfl rfl)) ?_
  refine L_nil ?_
  refine St.env (.cons (t := 2) rfl (.cons (t := 3) rfl (.cons (t := 4) rfl (.cons (t := 5) rfl (.cons (t := 6) rfl .nil))))) ?_
  refine Q_then ?_
  refine R_seq ?_
  refine R_seq ?_
  refine R_region ?_
  refine L_val rfl rfl rfl (OpP.v (P_move rfl rfl)) ?_
  refine L_val rfl rfl rfl (OpP.v (P_lss rfl rfl rfl)) ?_
  refine E_bool (t := 12) rfl (fun hn => ?_) (fun hn => ?_)
  · skip
    have hn := of_decide_eq_true hn
    have hno : idxG (isAc a) l < 0 ∨ a = 0 := .inl hn
    refine L_val rfl rfl rfl (OpP.v (P_move rfl rfl)) ?_
    refine L_no rfl rfl rfl ?_
    refine L_no rfl rfl rfl ?_
    refine L_val rfl rfl rfl (OpP.v (P_pick rfl rfl rfl)) ?_
    refine L_nil ?_
    refine St.env (.cons (t := 2) rfl (.cons (t := 4) rfl (.cons (t := 5) rfl (.cons (t := 6) rfl (.cons (t := 16) rfl .nil))))) ?_
    refine Q_then ?_
    refine R_condT rfl ?_
    refine R_seq ?_
    refine R_region ?_
    refine L_val rfl rfl rfl (OpP.v (P_buildStruct rfl ty_pl_39 ty_ze_39 rfl rfl (rfl))) ?_
    refine E_as (t := 17) (v' := .agg acc0.cells.toArray) rfl (rfl) ?_
    refine L_op rfl (W_storeAll rfl rfl rfl rfl ty_ag_39 (rfl) (Rec.one acc0) .h0 (rfl) ?_)
    refine L_val rfl rfl rfl (OpP.v (P_assign rfl rfl)) ?_
    refine L_nil ?_
    refine St.env (.cons (t := 2) rfl (.cons (t := 4) rfl (.cons (t := 5) rfl (.cons (t := 6) rfl .nil)))) ?_
    refine Q_then ?_
    refine R_ret ?_
    refine Q_then_ret ?_
    exact R_endV rfl rfl (.cell rfl (Rds.loadVar ty_ag_39 (Rds.blk .h0) rfl) (.tmp rfl .nil)) (by rw [findV_no hno]; rfl)
  · skip
    have hn := of_decide_eq_false hn
    refine L_val rfl rfl rfl (OpP.v (P_move rfl rfl)) ?_
    refine L_val rfl rfl rfl (V_load rfl rfl ty_sc_35 (Rd.blk .h1 rfl)) ?_
    refine L_val rfl rfl rfl (OpP.v (P_eql rfl rfl rfl)) ?_
    refine L_val rfl rfl rfl (OpP.v (P_pick rfl rfl rfl)) ?_
    refine L_nil ?_
    refine St.env (.cons (t := 2) rfl (.cons (t := 4) rfl (.cons (t := 5) rfl (.cons (t := 6) rfl (.cons (t := 16) rfl .nil))))) ?_
    refine Q_then ?_
    refine R_condP rfl (fun hz => ?_) (fun hz => ?_)
    · skip
      have hno : idxG (isAc a) l < 0 ∨ a = 0 := .inr hz
      refine R_seq ?_
      refine R_region ?_
      refine L_val rfl rfl rfl (OpP.v (P_buildStruct rfl ty_pl_39 ty_ze_39 rfl rfl (rfl))) ?_
      refine E_as (t := 17) (v' := .agg acc0.cells.toArray) rfl (rfl) ?_
      refine L_op rfl (W_storeAll rfl rfl rfl rfl ty_ag_39 (rfl) (Rec.one acc0) .h0 (rfl) ?_)
      refine L_val rfl rfl rfl (OpP.v (P_assign rfl rfl)) ?_
      refine L_nil ?_
      refine St.env (.cons (t := 2) rfl (.cons (t := 4) rfl (.cons (t := 5) rfl (.cons (t := 6) rfl .nil)))) ?_
      refine Q_then ?_
      refine R_ret ?_
      refine Q_then_ret ?_
      exact R_endV rfl rfl (.cell rfl (Rds.loadVar ty_ag_39 (Rds.blk .h0) rfl) (.tmp rfl .nil)) (by rw [findV_no hno]; rfl)
    · skip
      have hno : ¬ (idxG (isAc a) l < 0 ∨ a = 0) := by omega
      obtain ⟨i, hi, hix⟩ := idxG_pos (p := isAc a) (l := l) (by omega)
      have hx := accAt_get hi
      obtain ⟨pb, pj, rfl, hrow⟩ := hpre.some_ (by rw [rc_length]; show 0 < _ * 5; omega)
      refine E_as (t := 6) (v' := .int .i64 (i : Int)) rfl (by rw [hix]) ?_
      refine R_skip ?_
      refine Q_then ?_
      refine R_seq ?_
      refine R_region ?_
      refine L_val rfl rfl rfl (OpP.v (P_fld0 rfl ty_fl_29_0 rfl)) ?_
      refine L_val rfl rfl rfl (V_load rfl rfl ty_sc_22 (Rd.blk .h2 rfl)) ?_
      refine L_val rfl rfl rfl (OpP.v (P_move rfl rfl)) ?_
      refine L_val rfl rfl rfl (OpP.v (P_ixs (i) rfl ty_sl_22 rfl rfl (by first | rfl | omega) (by omega))) ?_
      refine L_val rfl rfl rfl (V_loadAgg rfl rfl ty_ag_39 (rds_rc (Rds.row hrow rfl) hx) (rfl)) ?_
      refine L_op rfl (W_storeAll rfl rfl rfl rfl ty_ag_39 (rfl) (Rec.one (accAt l i)) .h0 (rfl) ?_)
      refine L_val rfl rfl rfl (OpP.v (P_assign rfl rfl)) ?_
      refine L_nil ?_
      refine St.env (.cons (t := 4) rfl (.cons (t := 5) rfl .nil)) ?_
      refine Q_then ?_
      refine R_ret ?_
      exact R_endV rfl rfl (.cell rfl (Rds.loadVar ty_ag_39 (Rds.blk .h0) rfl) (.tmp rfl .nil)) (by rw [findV_yes hno, hix]; rfl)
end Go.Proofs.Ytfhjhaogmdaepaa
