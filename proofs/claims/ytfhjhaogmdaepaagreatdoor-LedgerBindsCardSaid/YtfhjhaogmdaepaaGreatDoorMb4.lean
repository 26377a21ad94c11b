/- Texts that ledgerBinds_holds leans on, part 4: each says at its head what it holds; no condition beyond its theorems' own. -/
import Derived.Test.YtfhjhaogmdaepaaGreatDoorMb3
/- Walks: sums of two words, soundAccounts, fresh, New, Find. Printed by gen.py. -/
set_option linter.unusedVariables false
set_option linter.unusedSimpArgs false
set_option maxRecDepth 100000
namespace Go.Proofs.YtfhjhaogmdaepaaGreatDoor
open Go Go.RowKit Go.Proofs
/-- A sum as two words. -/
def sumC (S : Int) : List Value := [.int .u64 (S / 18446744073709551616), .int .u64 (S % 18446744073709551616)]
theorem sumC_one (S : Int) : ∀ v ∈ sumC S, v.oneCell' = true := by
 intro v hv; simp only [sumC, List.mem_cons, List.not_mem_nil, or_false] at hv; rcases hv with rfl | rfl <;> rfl
theorem sumC_zero (l : List Acc) : sumC (sumA (l.take 0)) = [.int .u64 0, .int .u64 0] := by simp [sumA, sumC]
def soundV (l : List Acc) : Value := .tuple #[.agg (sumC (if accE l = 0 then sumA l else 0)).toArray, .int .i64 (accE l)]
theorem soundV_bad {l : List Acc} {e : Int} (h : accE l = e) (he : e ≠ 0) : soundV l = .tuple #[.agg #[.int .u64 0, .int .u64 0], .int .i64 e] := by
 unfold soundV; rw [if_neg (by rw [h]; exact he), h]; rfl
theorem soundV_fine {l : List Acc} (h : accE l = 0) : soundV l = .tuple #[.agg (sumC (sumA l)).toArray, .int .i64 0] := by
 unfold soundV; rw [if_pos h, h]
/-- A ledger's cells. -/
def ledV (u r : Value) (b s : Int) : List Value := [u, r, .int .u64 b, .int .u64 s]
/-- The first place of what is asked for. -/
def idxG {α : Type} (p : α → Bool) (l : List α) : Int := match l.findIdx? p with | some i => i | none => -1
theorem idxG_hit {α : Type} {p : α → Bool} {l : List α} {i : Nat} {m : α} (h0 : ∀ j m', j < i → l[j]? = some m' → p m' = false) (hm : l[i]? = some m) (hp : p m = true) : idxG p l = i := by
 have : l.findIdx? p = some i := by
  rw [List.findIdx?_eq_some_iff_getElem]
  obtain ⟨hi, he⟩ := List.getElem?_eq_some_iff.1 hm
  exact ⟨hi, by rw [he]; exact hp, fun j hj => by have := h0 j _ hj (List.getElem?_eq_getElem (by omega)); simp [this]⟩
 unfold idxG; rw [this]
theorem idxG_none {α : Type} {p : α → Bool} {l : List α} (h0 : ∀ j m', j < l.length → l[j]? = some m' → p m' = false) : idxG p l = -1 := by
 have : l.findIdx? p = none := by
  rw [List.findIdx?_eq_none_iff]
  intro x hx
  obtain ⟨j, hj, rfl⟩ := List.getElem_of_mem hx
  exact h0 j _ hj (List.getElem?_eq_getElem hj)
 unfold idxG; rw [this]
theorem idxG_cases {α : Type} (p : α → Bool) (l : List α) : idxG p l = -1 ∨ ∃ i : Nat, i < l.length ∧ idxG p l = i := by
 unfold idxG
 cases h : l.findIdx? p with
 | none => exact .inl rfl
 | some i =>
  obtain ⟨hi, _⟩ := List.findIdx?_eq_some_iff_getElem.1 h
  exact .inr ⟨i, hi, rfl⟩
theorem idxG_pos {α : Type} {p : α → Bool} {l : List α} (h : ¬ idxG p l < 0) : ∃ i : Nat, i < l.length ∧ idxG p l = i := by
 rcases idxG_cases p l with h1 | h1
 ·omega
 ·exact h1
theorem no_next {α : Type} {p : α → Bool} {l : List α} {i : Nat} {x : α} (h0 : ∀ j m', j < i → l[j]? = some m' → p m' = false) (hx : l[i]? = some x) (hp : p x = false) : ∀ j m', j < i + 1 → l[j]? = some m' → p m' = false := fun j m' hj hm => by
 rcases Nat.lt_or_ge j i with h | h
 ·exact h0 j m' h hm
 ·obtain rfl : j = i := by omega
  rw [hx, Option.some.injEq] at hm; rw [← hm]; exact hp
def isAc (a : Int) (x : Acc) : Bool := decide (x.a = a)
def findE (l : List Acc) (a : Int) : Int := if idxG (isAc a) l < 0 ∨ a = 0 then 85 else 0
def findX (l : List Acc) (a : Int) : Acc := if idxG (isAc a) l < 0 ∨ a = 0 then acc0 else accAt l (idxG (isAc a) l).toNat
def findV (l : List Acc) (a : Int) : Value := .tuple #[.agg (findX l a).cells.toArray, .int .i64 (findE l a)]
theorem findV_no {l : List Acc} {a : Int} (h : idxG (isAc a) l < 0 ∨ a = 0) : findV l a = .tuple #[.agg acc0.cells.toArray, .int .i64 85] := by unfold findV findX findE; rw [if_pos h, if_pos h]
theorem findV_yes {l : List Acc} {a : Int} (h : ¬ (idxG (isAc a) l < 0 ∨ a = 0)) : findV l a = .tuple #[.agg (accAt l (idxG (isAc a) l).toNat).cells.toArray, .int .i64 0] := by unfold findV findX findE; rw [if_neg h, if_neg h]
theorem add64_run (x y c : Int) (hx : 0 ≤ x) (hy : 0 ≤ y) (hc0 : 0 ≤ c) (hc : c ≤ 1) (w : World) : (callFunc 163 #[.int .u64 x, .int .u64 y, .int .u64 c]).run Tryz.prog w = .ok (.value (.tuple #[.int .u64 ((x + y + c) % 18446744073709551616), .int .u64 ((x + y + c) / 18446744073709551616)])) w := by
 rw [run_callFunc_extern (fn := Tryz.f163) Tryz.func163 (by kernel_rfl) (by kernel_rfl) (by kernel_rfl) (e := add64Entry) (by kernel_rfl), run_add64 x y c hx hy hc0 hc]; rfl
theorem plus_ok {gl : Nat → Obj} (S n : Int) (h0 : 0 ≤ S) (h1 : S ≤ 1267650600228229401496703205376) (hn : u64 n) : SpecV (cx gl) 108 [.agg (sumC S).toArray, .int .u64 n] noPre (.agg (sumC (S + n)).toArray) := by
 refine Spec.enter (C := cx gl) Tryz.func108 rfl 20 rfl rfl fun w0 h0 hsep hsub hpre => ?_
 obtain rfl : h0 = Heap.none := hsep
 show St (cx gl) _ [(0, .agg (sumC (S)).toArray), (1, .int .u64 n)] _ _
 obtain ⟨hn0, hn1⟩ := hn
 refine R_seq ?_
 refine R_region ?_
 refine L_op rfl (W_box (sumC S) rfl rfl rfl rfl rfl fun b2 => ?_)
 refine L_op rfl (W_alloc rfl rfl rfl ty_ze_141 fun b4 => ?_)
 refine L_nil ?_
 refine St.env (.cons (t := 1) rfl (.cons (t := 2) rfl (.cons (t := 4) rfl .nil))) ?_
 refine Q_then ?_
 refine R_seq ?_
 refine R_region ?_
 refine L_val rfl rfl rfl (OpP.v (P_fld0 rfl ty_fl_141_1 rfl)) ?_
 refine L_val rfl rfl rfl (V_load rfl rfl ty_sc_24 (Rd.blk .h1 rfl)) ?_
 refine L_val rfl rfl rfl (OpP.v (P_move rfl rfl)) ?_
 refine L_val rfl rfl rfl (OpP.v (P_ext rfl rfl (fun w => add64_run (S % 18446744073709551616) n 0 (by omega) (by omega) (by omega) (by omega) w))) ?_
 refine L_val rfl rfl rfl (OpP.v (P_move rfl rfl)) ?_
 refine L_val rfl rfl rfl (OpP.v (P_extract rfl rfl rfl)) ?_
 refine L_val rfl rfl rfl (OpP.v (P_extract rfl rfl rfl)) ?_
 refine L_val rfl rfl rfl (OpP.v (P_assign rfl rfl)) ?_
 refine L_val rfl rfl rfl (OpP.v (P_assign rfl rfl)) ?_
 refine L_nil ?_
 refine St.env (.cons (t := 2) rfl (.cons (t := 4) rfl (.cons (t := 5) rfl (.cons (t := 6) rfl .nil)))) ?_
 refine Q_then ?_
 refine R_seq ?_
 refine R_region ?_
 refine L_val rfl rfl rfl (OpP.v (P_fld0 rfl ty_fl_141_0 rfl)) ?_
 refine L_val rfl rfl rfl (V_load rfl rfl ty_sc_24 (Rd.blk .h1 rfl)) ?_
 refine L_val rfl rfl rfl (OpP.v (P_move rfl rfl)) ?_
 refine L_val rfl rfl rfl (OpP.v (P_addN rfl rfl rfl (by simp only [fits]; omega))) ?_
 refine L_val rfl rfl rfl (OpP.v (P_move rfl rfl)) ?_
 refine L_val rfl rfl rfl (OpP.v (P_buildStruct rfl ty_pl_141 ty_ze_141 rfl rfl (rfl))) ?_
 refine E_as (t := 19) (v' := .agg (sumC (S + n)).toArray) rfl (by show Value.agg #[_, _] = Value.agg #[_, _]; rw [show S / 18446744073709551616 + (S % 18446744073709551616 + n + 0) / 18446744073709551616 = (S + n) / 18446744073709551616 by omega, show (S % 18446744073709551616 + n + 0) % 18446744073709551616 = (S + n) % 18446744073709551616 by omega]) ?_
 refine L_op rfl (W_storeAll rfl rfl rfl rfl ty_ag_141 (rfl) (sumC_one _) .h0 (rfl) ?_)
 refine L_nil ?_
 refine St.env (.cons (t := 4) rfl .nil) ?_
 refine Q_then ?_
 refine R_ret ?_
 exact R_endV rfl rfl (.cell rfl (Rds.loadVar ty_ag_141 (Rds.blk .h0) rfl) .nil) (rfl)
theorem soundAcc_ok {gl : Nat → Obj} (base : Option Addr) (c : Nat) (l : List Acc) (hc : l.length ≤ c) (hm : l.length ≤ 65536)(hok : ∀ x ∈ l, x.ok) : SpecV (cx gl) 71 [.slice base l.length c] (fun w => Row w base (rc l)) (soundV l) := by
 refine Spec.enter (C := cx gl) Tryz.func71 rfl 53 rfl rfl fun w0 h0 hsep hsub hpre => ?_
 obtain rfl : h0 = Heap.none := hsep
 show St (cx gl) _ [(0, .slice base l.length c)] _ _
 have hms : MS = 1152921504606846975 := rfl
 refine R_seq ?_
 refine R_region ?_
 refine L_op rfl (W_alloc rfl rfl rfl ty_ze_141 fun b2 => ?_)
 refine L_val rfl rfl rfl (OpP.v (P_assign rfl rfl)) ?_
 refine L_nil ?_
 refine Q_then ?_
 refine R_seq ?_
 refine R_region ?_
 refine L_op rfl (W_alloc rfl rfl rfl ty_ze_141 fun b4 => ?_)
 refine L_nil ?_
 refine Q_then ?_
 refine R_seq ?_
 refine R_seq ?_
 refine R_region ?_
 refine L_val rfl rfl rfl (OpP.v (P_move rfl rfl)) ?_
 refine L_val rfl rfl rfl (OpP.v (P_len rfl ty_sl_22 rfl)) ?_
 refine L_val rfl rfl rfl (OpP.v (P_move rfl rfl)) ?_
 refine L_nil ?_
 refine Q_then ?_
 refine R_block ?_
 refine R_loopE (G := Nat) (.cons (t := 0) rfl (.cons (t := 2) rfl (.cons (t := 3) rfl (.cons (t := 4) rfl (.cons (t := 7) rfl (.cons (t := 8) rfl .nil)))))) (fun g => [(9, .int .i64 (g : Int))]) (fun g => [blk b4 (sumC (sumA (l.take g))) 141, blk b2 [.int .u64 0, .int .u64 0] 141]) (fun g => g ≤ l.length ∧ firstE (accBad l) g = 0) (fun g => l.length - g) (0) (by show (0) ≤ l.length ∧ firstE (accBad l) (0) = 0; exact ⟨Nat.zero_le _, rfl⟩) (by repeat (first | exact .nil | refine .cons rfl ?_ | refine .consE rfl (by first | rfl | (congr 1; omega) | (congr 1; push_cast; omega)) ?_)) (by rw [sumC_zero]; exact Weak.refl _) ?_
 intro i hinv
 replace hinv : i ≤ l.length ∧ firstE (accBad l) i = 0 := hinv
 show St (cx gl) _ ((9, .int .i64 (i : Int)) :: _) [blk b4 (sumC (sumA (l.take i))) 141, blk b2 [.int .u64 0, .int .u64 0] 141] _
 obtain ⟨hi, h0⟩ := hinv
 refine R_seq ?_
 refine R_region ?_
 refine L_val rfl rfl rfl (OpP.v (P_lss rfl rfl rfl)) ?_
 refine L_nil ?_
 refine Q_then ?_
 refine R_seq ?_
 refine R_condP rfl (fun hlt => ?_) (fun hlt => ?_)
 ·skip
  have hx0 := accAt_get (l := l) (i := i) (by omega)
  obtain ⟨x, ex⟩ : ∃ x, x = accAt l i := ⟨_, rfl⟩
  have hx : l[i]? = some x := by rw [ex]; exact hx0
  obtain ⟨pb, pj, rfl, hrow⟩ := hpre.some_ (by rw [rc_length]; show 0 < _ * 5; omega)
  obtain ⟨⟨ha1, ha2⟩, hb1, hb2, hb3⟩ := hok x (List.mem_of_getElem? hx)
  have hS := sumA_le i hi h0
  rw [hms] at hS
  have hSn : 0 ≤ sumA (l.take i) := sumA_nn fun y hy => hok y (List.mem_of_mem_take hy)
  refine R_skip ?_
  refine Q_then ?_
  refine R_seq ?_
  refine R_block ?_
  refine R_seq ?_
  refine R_region ?_
  refine L_val rfl rfl rfl (OpP.v (P_move rfl rfl)) ?_
  refine L_val rfl rfl rfl (OpP.v (P_ixs (i) rfl ty_sl_22 rfl rfl (by first | rfl | omega) (by omega))) ?_
  refine L_val rfl rfl rfl (V_loadAgg rfl rfl ty_ag_38 (rds_rc (Rds.row hrow rfl) hx) (rfl)) ?_
  refine L_op rfl (W_alloc rfl rfl rfl ty_ze_38 fun b6 => ?_)
  refine L_val rfl rfl rfl (OpP.v (P_assign rfl rfl)) ?_
  refine L_op rfl (W_storeAll rfl rfl rfl rfl ty_ag_38 (rfl) (Rec.one x) .h0 (rfl) ?_)
  refine L_nil ?_
  refine Q_then ?_
  refine R_seq ?_
  refine R_block ?_
  refine R_seq ?_
  refine R_region ?_
  refine L_val rfl rfl rfl (OpP.v (P_fld0 rfl ty_fl_38_0 rfl)) ?_
  refine L_val rfl rfl rfl (V_load rfl rfl ty_sc_27 (Rd.blk .h0 rfl)) ?_
  refine L_val rfl rfl rfl (OpP.v (P_eql rfl rfl rfl)) ?_
  refine L_val rfl rfl rfl (OpP.v (P_assign rfl rfl)) ?_
  refine L_nil ?_
  refine Q_then ?_
  refine R_condP rfl (fun ha => ?_) (fun ha => ?_)
  ·skip
   refine R_seq ?_
   refine R_region ?_
   refine L_val rfl rfl rfl (OpP.v (P_buildStruct rfl ty_pl_141 ty_ze_141 rfl rfl (rfl))) ?_
   refine E_as (t := 18) (v' := .agg [.int .u64 0, .int .u64 0].toArray) rfl (rfl) ?_
   refine L_op rfl (W_storeAll rfl rfl rfl rfl ty_ag_141 (rfl) (sumC_one 0) .h2 (rfl) ?_)
   refine L_val rfl rfl rfl (OpP.v (P_assign rfl rfl)) ?_
   refine L_nil ?_
   refine Q_then ?_
   refine R_ret ?_
   refine Q_block_ret ?_
   refine Q_then_ret ?_
   refine Q_block_ret ?_
   refine Q_then_ret ?_
   refine Q_then_ret ?_
   refine Q_block_ret ?_
   refine Q_then_ret ?_
   exact R_endV rfl rfl (.cell rfl (Rds.loadVar ty_ag_141 (Rds.blk .h2) rfl) (.tmp rfl .nil)) (by have h9 : accE l = 85 := firstE_hit h0 (show accBad l i = 85 by unfold accBad; rw [← ex]; rw [if_pos ha]) (by decide) (by omega); rw [soundV_bad h9 (by decide)]; rfl)
  ·skip
   refine R_seq ?_
   refine R_open [(0, 0), (1, 0), (2, 0), (3, 0), (4, 1), (5, 0), (6, 0), (7, 0), (8, 0), (9, 0), (10, 1), (11, 0), (12, 0), (13, 0)] mixed (by kernel_rfl) (QOk.then (QOk.block (QOk.then (QOk.block (QOk.then (QOk.then (QOk.block (QOk.then QOk.body)))))))) ?_
   refine O_pure rfl rfl rfl rfl (P_move rfl rfl) ?_
   refine O_pure rfl rfl rfl rfl (P_gtr rfl rfl rfl) ?_
   refine E_bool (t := 21) rfl (fun hi0 => ?_) (fun hi0 => ?_)
   ·skip
    have hi0 := of_decide_eq_true hi0
    obtain ⟨y, ey⟩ : ∃ y, y = accAt l (i - 1) := ⟨_, rfl⟩
    have hy : l[i - 1]? = some y := by rw [ey]; exact accAt_get (by omega)
    refine O_pure rfl rfl rfl rfl (P_move rfl rfl) ?_
    refine O_pure rfl rfl rfl rfl (P_fld0 rfl ty_fl_38_0 rfl) ?_
    refine O_val rfl rfl rfl rfl (V_load rfl rfl ty_sc_27 (Rd.blk .h0 rfl)) ?_
    refine O_pure rfl rfl rfl rfl (P_move rfl rfl) ?_
    refine O_pure rfl rfl rfl rfl (P_move rfl rfl) ?_
    first | (refine O_pure rfl rfl rfl rfl (P_subN rfl rfl rfl (by simp only [fits]; omega)) ?_) | (refine O_pure rfl rfl rfl rfl (P_sub rfl rfl rfl) ?_)
    refine O_pure rfl rfl rfl rfl (P_ixs (i - 1) rfl ty_sl_22 rfl rfl (by first | rfl | omega) (by omega)) ?_
    refine O_pure rfl rfl rfl rfl (P_fld rfl ty_fl_38_0 rfl) ?_
    refine O_val rfl rfl rfl rfl (V_load rfl rfl ty_sc_27 (rd_rc (Rds.row hrow rfl) hy rfl)) ?_
    refine O_pure rfl rfl rfl rfl (P_leq rfl rfl rfl) ?_
    refine O_pure rfl rfl rfl rfl (P_pick rfl rfl rfl) ?_
    refine O_pure rfl rfl rfl rfl (P_assign rfl rfl) ?_
    refine O_nil ?_
    refine Q_then ?_
    refine R_condP rfl (fun hle => ?_) (fun hle => ?_)
    ·skip
     refine R_seq ?_
     refine R_region ?_
     refine L_val rfl rfl rfl (OpP.v (P_buildStruct rfl ty_pl_141 ty_ze_141 rfl rfl (rfl))) ?_
     refine E_as (t := 33) (v' := .agg [.int .u64 0, .int .u64 0].toArray) rfl (rfl) ?_
     refine L_op rfl (W_storeAll rfl rfl rfl rfl ty_ag_141 (rfl) (sumC_one 0) .h2 (rfl) ?_)
     refine L_val rfl rfl rfl (OpP.v (P_assign rfl rfl)) ?_
     refine L_nil ?_
     refine Q_then ?_
     refine R_ret ?_
     refine Q_block_ret ?_
     refine Q_then_ret ?_
     refine Q_block_ret ?_
     refine Q_then_ret ?_
     refine Q_then_ret ?_
     refine Q_block_ret ?_
     refine Q_then_ret ?_
     exact R_endV rfl rfl (.cell rfl (Rds.loadVar ty_ag_141 (Rds.blk .h2) rfl) (.tmp rfl .nil)) (by have h9 : accE l = 42 := firstE_hit h0 (show accBad l i = 42 by unfold accBad; rw [← ex]; rw [if_neg ha, if_pos ⟨by omega, by rw [← ey]; exact hle⟩]) (by decide) (by omega); rw [soundV_bad h9 (by decide)]; rfl)
    ·skip
     have hn42 : ¬ (0 < i ∧ x.a ≤ (accAt l (i - 1)).a) := by rw [← ey]; omega
     refine R_seq ?_
     refine R_region ?_
     refine L_val rfl rfl rfl (OpP.v (P_fld0 rfl ty_fl_38_1 rfl)) ?_
     refine L_val rfl rfl rfl (V_load rfl rfl ty_sc_24 (Rd.blk .h0 rfl)) ?_
     refine L_val rfl rfl rfl (OpP.v (P_gtr rfl rfl rfl)) ?_
     refine E_bool (t := 37) rfl (fun hb => ?_) (fun hb => ?_)
     ·skip
      have hb := of_decide_eq_true hb
      refine L_val rfl rfl rfl (OpP.v (P_move rfl rfl)) ?_
      refine L_no rfl rfl rfl ?_
      refine L_no rfl rfl rfl ?_
      refine L_no rfl rfl rfl ?_
      refine L_val rfl rfl rfl (OpP.v (P_pick rfl rfl rfl)) ?_
      refine L_val rfl rfl rfl (OpP.v (P_assign rfl rfl)) ?_
      refine L_nil ?_
      refine Q_then ?_
      refine R_condT rfl ?_
      refine R_seq ?_
      refine R_region ?_
      refine L_val rfl rfl rfl (OpP.v (P_buildStruct rfl ty_pl_141 ty_ze_141 rfl rfl (rfl))) ?_
      refine E_as (t := 43) (v' := .agg [.int .u64 0, .int .u64 0].toArray) rfl (rfl) ?_
      refine L_op rfl (W_storeAll rfl rfl rfl rfl ty_ag_141 (rfl) (sumC_one 0) .h2 (rfl) ?_)
      refine L_val rfl rfl rfl (OpP.v (P_assign rfl rfl)) ?_
      refine L_nil ?_
      refine Q_then ?_
      refine R_ret ?_
      refine Q_block_ret ?_
      refine Q_then_ret ?_
      refine Q_block_ret ?_
      refine Q_then_ret ?_
      refine Q_then_ret ?_
      refine Q_block_ret ?_
      refine Q_then_ret ?_
      exact R_endV rfl rfl (.cell rfl (Rds.loadVar ty_ag_141 (Rds.blk .h2) rfl) (.tmp rfl .nil)) (by have h9 : accE l = 87 := firstE_hit h0 (show accBad l i = 87 by unfold accBad; rw [← ex]; rw [if_neg ha, if_neg hn42, if_pos (by omega)]) (by decide) (by omega); rw [soundV_bad h9 (by decide)]; rfl)
     ·skip
      have hb := of_decide_eq_false hb
      refine L_val rfl rfl rfl (OpP.v (P_move rfl rfl)) ?_
      refine L_val rfl rfl rfl (OpP.v (P_fld0 rfl ty_fl_38_2 rfl)) ?_
      refine L_val rfl rfl rfl (V_load rfl rfl ty_sc_24 (Rd.blk .h0 rfl)) ?_
      refine L_val rfl rfl rfl (OpP.v (P_gtr rfl rfl rfl)) ?_
      refine L_val rfl rfl rfl (OpP.v (P_pick rfl rfl rfl)) ?_
      refine L_val rfl rfl rfl (OpP.v (P_assign rfl rfl)) ?_
      refine L_nil ?_
      refine Q_then ?_
      refine R_condP rfl (fun hd => ?_) (fun hd => ?_)
      ·skip
       refine R_seq ?_
       refine R_region ?_
       refine L_val rfl rfl rfl (OpP.v (P_buildStruct rfl ty_pl_141 ty_ze_141 rfl rfl (rfl))) ?_
       refine E_as (t := 43) (v' := .agg [.int .u64 0, .int .u64 0].toArray) rfl (rfl) ?_
       refine L_op rfl (W_storeAll rfl rfl rfl rfl ty_ag_141 (rfl) (sumC_one 0) .h2 (rfl) ?_)
       refine L_val rfl rfl rfl (OpP.v (P_assign rfl rfl)) ?_
       refine L_nil ?_
       refine Q_then ?_
       refine R_ret ?_
       refine Q_block_ret ?_
       refine Q_then_ret ?_
       refine Q_block_ret ?_
       refine Q_then_ret ?_
       refine Q_then_ret ?_
       refine Q_block_ret ?_
       refine Q_then_ret ?_
       exact R_endV rfl rfl (.cell rfl (Rds.loadVar ty_ag_141 (Rds.blk .h2) rfl) (.tmp rfl .nil)) (by have h9 : accE l = 87 := firstE_hit h0 (show accBad l i = 87 by unfold accBad; rw [← ex]; rw [if_neg ha, if_neg hn42, if_pos (by omega)]) (by decide) (by omega); rw [soundV_bad h9 (by decide)]; rfl)
      ·skip
       refine R_skip ?_
       refine Q_block ?_
       refine Q_then ?_
       refine R_open [(0, 1), (1, 0), (2, 1), (4, 0), (5, 1), (3, 2), (6, 2), (7, 3)] mixed (by kernel_rfl) (QOk.block (QOk.then (QOk.then (QOk.block (QOk.then QOk.body))))) ?_
       refine O_val rfl rfl rfl rfl (V_loadAgg rfl rfl ty_ag_141 (Rds.blk .h1) (rfl)) ?_
       refine O_pure rfl rfl rfl rfl (P_fld0 rfl ty_fl_38_1 rfl) ?_
       refine O_val rfl rfl rfl rfl (V_load rfl rfl ty_sc_24 (Rd.blk .h0 rfl)) ?_
       refine O_pure rfl rfl rfl rfl (P_fld0 rfl ty_fl_38_2 rfl) ?_
       refine O_val rfl rfl rfl rfl (V_load rfl rfl ty_sc_24 (Rd.blk .h0 rfl)) ?_
       refine O_keep rfl rfl (W_callV rfl rfl rfl rfl fn_ca_108 (plus_ok (sumA (l.take i)) x.bal hSn (by omega) hb1) (fun _ _ => trivial) (K_keep (Weak.refl _) ?_))
       refine O_keep rfl rfl (W_callV rfl rfl rfl rfl fn_ca_108 (plus_ok (sumA (l.take i) + x.bal) x.bond (by have := hb1.1; omega) (by have := hb1.2; omega) hb2) (fun _ _ => trivial) (K_keep (Weak.refl _) ?_))
       refine O_new rfl rfl (W_storeAll rfl rfl rfl rfl ty_ag_141 (rfl) (sumC_one _) .h1 (rfl) (K_new ?_))
       refine O_nil ?_
       refine Q_block ?_
       refine Q_then ?_
       refine R_region ?_
       first | (refine L_val rfl rfl rfl (OpP.v (P_addN rfl rfl rfl (by simp only [fits]; omega))) ?_) | (refine L_val rfl rfl rfl (OpP.v (P_add rfl rfl rfl)) ?_)
       refine L_val rfl rfl rfl (OpP.v (P_move rfl rfl)) ?_
       refine L_nil ?_
       exact Q_round (i + 1) (by show (i + 1) ≤ l.length ∧ firstE (accBad l) (i + 1) = 0; exact ⟨by omega, firstE_next h0 (by unfold accBad; rw [← ex, if_neg ha, if_neg hn42, if_neg (by omega)])⟩) (by show l.length - (i + 1) < l.length - i; omega) (by repeat (first | exact .nil | refine .cons rfl ?_ | refine .consE rfl (by first | rfl | (congr 1; omega) | (congr 1; push_cast; omega)) ?_)) (by rw [sumA_snoc hx, ← Int.add_assoc]; exact Weak.drop (Weak.refl _))
   ·skip
    have hi0 := of_decide_eq_false hi0
    have hn42 : ¬ (0 < i ∧ x.a ≤ (accAt l (i - 1)).a) := by omega
    refine O_pure rfl rfl rfl rfl (P_move rfl rfl) ?_
    refine O_no rfl rfl rfl rfl ?_
    refine O_noX rfl rfl rfl rfl ?_
    refine O_no rfl rfl rfl rfl ?_
    refine O_no rfl rfl rfl rfl ?_
    refine O_no rfl rfl rfl rfl ?_
    refine O_no rfl rfl rfl rfl ?_
    refine O_no rfl rfl rfl rfl ?_
    refine O_noX rfl rfl rfl rfl ?_
    refine O_no rfl rfl rfl rfl ?_
    refine O_pure rfl rfl rfl rfl (P_pick rfl rfl rfl) ?_
    refine O_pure rfl rfl rfl rfl (P_assign rfl rfl) ?_
    refine O_nil ?_
    refine Q_then ?_
    refine R_condF rfl ?_
    refine R_seq ?_
    refine R_region ?_
    refine L_val rfl rfl rfl (OpP.v (P_fld0 rfl ty_fl_38_1 rfl)) ?_
    refine L_val rfl rfl rfl (V_load rfl rfl ty_sc_24 (Rd.blk .h0 rfl)) ?_
    refine L_val rfl rfl rfl (OpP.v (P_gtr rfl rfl rfl)) ?_
    refine E_bool (t := 37) rfl (fun hb => ?_) (fun hb => ?_)
    ·skip
     have hb := of_decide_eq_true hb
     refine L_val rfl rfl rfl (OpP.v (P_move rfl rfl)) ?_
     refine L_no rfl rfl rfl ?_
     refine L_no rfl rfl rfl ?_
     refine L_no rfl rfl rfl ?_
     refine L_val rfl rfl rfl (OpP.v (P_pick rfl rfl rfl)) ?_
     refine L_val rfl rfl rfl (OpP.v (P_assign rfl rfl)) ?_
     refine L_nil ?_
     refine Q_then ?_
     refine R_condT rfl ?_
     refine R_seq ?_
     refine R_region ?_
     refine L_val rfl rfl rfl (OpP.v (P_buildStruct rfl ty_pl_141 ty_ze_141 rfl rfl (rfl))) ?_
     refine E_as (t := 43) (v' := .agg [.int .u64 0, .int .u64 0].toArray) rfl (rfl) ?_
     refine L_op rfl (W_storeAll rfl rfl rfl rfl ty_ag_141 (rfl) (sumC_one 0) .h2 (rfl) ?_)
     refine L_val rfl rfl rfl (OpP.v (P_assign rfl rfl)) ?_
     refine L_nil ?_
     refine Q_then ?_
     refine R_ret ?_
     refine Q_block_ret ?_
     refine Q_then_ret ?_
     refine Q_block_ret ?_
     refine Q_then_ret ?_
     refine Q_then_ret ?_
     refine Q_block_ret ?_
     refine Q_then_ret ?_
     exact R_endV rfl rfl (.cell rfl (Rds.loadVar ty_ag_141 (Rds.blk .h2) rfl) (.tmp rfl .nil)) (by have h9 : accE l = 87 := firstE_hit h0 (show accBad l i = 87 by unfold accBad; rw [← ex]; rw [if_neg ha, if_neg hn42, if_pos (by omega)]) (by decide) (by omega); rw [soundV_bad h9 (by decide)]; rfl)
    ·skip
     have hb := of_decide_eq_false hb
     refine L_val rfl rfl rfl (OpP.v (P_move rfl rfl)) ?_
     refine L_val rfl rfl rfl (OpP.v (P_fld0 rfl ty_fl_38_2 rfl)) ?_
     refine L_val rfl rfl rfl (V_load rfl rfl ty_sc_24 (Rd.blk .h0 rfl)) ?_
     refine L_val rfl rfl rfl (OpP.v (P_gtr rfl rfl rfl)) ?_
     refine L_val rfl rfl rfl (OpP.v (P_pick rfl rfl rfl)) ?_
     refine L_val rfl rfl rfl (OpP.v (P_assign rfl rfl)) ?_
     refine L_nil ?_
     refine Q_then ?_
     refine R_condP rfl (fun hd => ?_) (fun hd => ?_)
     ·skip
      refine R_seq ?_
      refine R_region ?_
      refine L_val rfl rfl rfl (OpP.v (P_buildStruct rfl ty_pl_141 ty_ze_141 rfl rfl (rfl))) ?_
      refine E_as (t := 43) (v' := .agg [.int .u64 0, .int .u64 0].toArray) rfl (rfl) ?_
      refine L_op rfl (W_storeAll rfl rfl rfl rfl ty_ag_141 (rfl) (sumC_one 0) .h2 (rfl) ?_)
      refine L_val rfl rfl rfl (OpP.v (P_assign rfl rfl)) ?_
      refine L_nil ?_
      refine Q_then ?_
      refine R_ret ?_
      refine Q_block_ret ?_
      refine Q_then_ret ?_
      refine Q_block_ret ?_
      refine Q_then_ret ?_
      refine Q_then_ret ?_
      refine Q_block_ret ?_
      refine Q_then_ret ?_
      exact R_endV rfl rfl (.cell rfl (Rds.loadVar ty_ag_141 (Rds.blk .h2) rfl) (.tmp rfl .nil)) (by have h9 : accE l = 87 := firstE_hit h0 (show accBad l i = 87 by unfold accBad; rw [← ex]; rw [if_neg ha, if_neg hn42, if_pos (by omega)]) (by decide) (by omega); rw [soundV_bad h9 (by decide)]; rfl)
     ·skip
      refine R_skip ?_
      refine Q_block ?_
      refine Q_then ?_
      refine R_open [(0, 1), (1, 0), (2, 1), (4, 0), (5, 1), (3, 2), (6, 2), (7, 3)] mixed (by kernel_rfl) (QOk.block (QOk.then (QOk.then (QOk.block (QOk.then QOk.body))))) ?_
      refine O_val rfl rfl rfl rfl (V_loadAgg rfl rfl ty_ag_141 (Rds.blk .h1) (rfl)) ?_
      refine O_pure rfl rfl rfl rfl (P_fld0 rfl ty_fl_38_1 rfl) ?_
      refine O_val rfl rfl rfl rfl (V_load rfl rfl ty_sc_24 (Rd.blk .h0 rfl)) ?_
      refine O_pure rfl rfl rfl rfl (P_fld0 rfl ty_fl_38_2 rfl) ?_
      refine O_val rfl rfl rfl rfl (V_load rfl rfl ty_sc_24 (Rd.blk .h0 rfl)) ?_
      refine O_keep rfl rfl (W_callV rfl rfl rfl rfl fn_ca_108 (plus_ok (sumA (l.take i)) x.bal hSn (by omega) hb1) (fun _ _ => trivial) (K_keep (Weak.refl _) ?_))
      refine O_keep rfl rfl (W_callV rfl rfl rfl rfl fn_ca_108 (plus_ok (sumA (l.take i) + x.bal) x.bond (by have := hb1.1; omega) (by have := hb1.2; omega) hb2) (fun _ _ => trivial) (K_keep (Weak.refl _) ?_))
      refine O_new rfl rfl (W_storeAll rfl rfl rfl rfl ty_ag_141 (rfl) (sumC_one _) .h1 (rfl) (K_new ?_))
      refine O_nil ?_
      refine Q_block ?_
      refine Q_then ?_
      refine R_region ?_
      first | (refine L_val rfl rfl rfl (OpP.v (P_addN rfl rfl rfl (by simp only [fits]; omega))) ?_) | (refine L_val rfl rfl rfl (OpP.v (P_add rfl rfl rfl)) ?_)
      refine L_val rfl rfl rfl (OpP.v (P_move rfl rfl)) ?_
      refine L_nil ?_
      exact Q_round (i + 1) (by show (i + 1) ≤ l.length ∧ firstE (accBad l) (i + 1) = 0; exact ⟨by omega, firstE_next h0 (by unfold accBad; rw [← ex, if_neg ha, if_neg hn42, if_neg (by omega)])⟩) (by show l.length - (i + 1) < l.length - i; omega) (by repeat (first | exact .nil | refine .cons rfl ?_ | refine .consE rfl (by first | rfl | (congr 1; omega) | (congr 1; push_cast; omega)) ?_)) (by rw [sumA_snoc hx, ← Int.add_assoc]; exact Weak.drop (Weak.refl _))
 ·skip
  have hin : i = l.length := by omega
  rw [hin] at h0
  rw [hin, List.take_length]
  refine R_exit ?_
  refine Q_then_exit ?_
  refine Q_then_exit ?_
  refine Q_block_eq ?_
  refine St.env (.cons (t := 2) rfl (.cons (t := 3) rfl (.cons (t := 4) rfl .nil))) ?_
  refine Q_then ?_
  refine R_seq ?_
  refine R_region ?_
  refine L_val rfl rfl rfl (V_loadAgg rfl rfl ty_ag_141 (Rds.blk .h0) (rfl)) ?_
  refine L_op rfl (W_storeAll rfl rfl rfl rfl ty_ag_141 (rfl) (sumC_one _) .h1 (rfl) ?_)
  refine L_val rfl rfl rfl (OpP.v (P_assign rfl rfl)) ?_
  refine L_nil ?_
  refine St.env (.cons (t := 2) rfl (.cons (t := 3) rfl .nil)) ?_
  refine Q_then ?_
  refine R_ret ?_
  exact R_endV rfl rfl (.cell rfl (Rds.loadVar ty_ag_141 (Rds.blk .h1) rfl) (.tmp rfl .nil)) (by rw [soundV_fine h0]; rfl)
theorem freshA_ok {gl : Nat → Obj} (base : Option Addr) (c : Nat) (l : List Acc) (hc : l.length ≤ c) (hm : l.length ≤ 3518437208883) : Spec (cx gl) 72 [.slice base l.length c] (fun w h => Seen w h base (rc l)) [] (fun v rs => rs = [ownS 38 5 (v) (l.length) (rc (l))]) := by
 refine Spec.enter (C := cx gl) Tryz.func72 rfl 7 rfl rfl fun w0 h0 hsep hsub hpre => ?_
 obtain rfl : h0 = Heap.none := hsep
 show St (cx gl) _ [(0, .slice base l.length c)] _ _
 refine R_seq ?_
 refine R_region ?_
 refine L_val rfl rfl rfl (OpP.v (P_assign rfl rfl)) ?_
 refine L_nil ?_
 refine Q_then ?_
 refine R_seq ?_
 refine R_region ?_
 refine L_val rfl rfl rfl (OpP.v (P_move rfl rfl)) ?_
 refine L_val rfl rfl rfl (OpP.v (P_slice3 0 0 0 rfl ty_sl_22 rfl rfl rfl rfl (by omega) (by omega) (by omega))) ?_
 refine E_as (t := 4) (v' := .slice base 0 0) rfl (rfl) ?_
 refine St.res (rs' := [ownS 38 5 (.slice base 0 0) 0 (rc ([] : List Acc))]) (Weak.newNil0) ?_
 refine L_val rfl rfl rfl (OpP.v (P_move rfl rfl)) ?_
 refine L_op rfl (W_append (p := []) rfl rfl rfl ty_sl_22 ty_ap_22 ty_src_22 rfl rfl rfl (Src.row (sz := 5) (Sn.old hpre).rw_ (rc_length l) (rc_one l)) (by omega) (by simp only [maxLen]; omega) fun v6 => ?_)
 refine L_val rfl rfl rfl (OpP.v (P_assign rfl rfl)) ?_
 refine L_nil ?_
 refine St.env (.cons (t := 2) rfl .nil) ?_
 refine Q_then ?_
 refine R_ret ?_
 exact R_end (rs2 := _) rfl rfl (.tmp rfl .nil) (rfl) (ownS.to2 (by omega) rfl)
theorem ledV_one (u r : Value) (b s : Int) (hu : u.oneCell' = true) (hr : r.oneCell' = true) : ∀ v ∈ ledV u r b s, v.oneCell' = true := by
 intro v hv; simp only [ledV, List.mem_cons, List.not_mem_nil, or_false] at hv; rcases hv with rfl | rfl | rfl | rfl <;> first | assumption | rfl
theorem newL8_bad' {l : List Acc} (h : newE l ≠ 0) : (newL8 l).acc = [] ∧ (newL8 l).sup = 0 := by rw [newL8_bad h]; exact ⟨rfl, rfl⟩
theorem lnew_ok {gl : Nat → Obj} (base : Option Addr) (c : Nat) (l : List Acc) (hc : l.length ≤ c)(hm : l.length ≤ 3518437208883)(hok : ∀ x ∈ l, x.ok) : Spec (cx gl) 26 [.slice base l.length c] (fun w _ => Row w base (rc l)) [] (fun v rs => ∃ u, v = .tuple #[.agg (ledV u (.slice none 0 0) 0 (newL8 l).sup).toArray, .int .i64 (newE l)] ∧ rs = [ownS 38 5 (u) ((newL8 l).acc.length) (rc ((newL8 l).acc))]) := by
 refine Spec.enter (C := cx gl) Tryz.func26 rfl 33 rfl rfl fun w0 h0 hsep hsub hpre => ?_
 obtain rfl : h0 = Heap.none := hsep
 show St (cx gl) _ [(0, .slice base l.length c)] _ _
 have hms : MS = 1152921504606846975 := rfl
 refine R_seq ?_
 refine R_region ?_
 refine L_op rfl (W_alloc rfl rfl rfl ty_ze_26 fun b2 => ?_)
 refine L_val rfl rfl rfl (OpP.v (P_assign rfl rfl)) ?_
 refine L_nil ?_
 refine Q_then ?_
 refine R_seq ?_
 refine R_seq ?_
 refine R_region ?_
 refine L_val rfl rfl rfl (OpP.v (P_move rfl rfl)) ?_
 refine L_val rfl rfl rfl (OpP.v (P_len rfl ty_sl_22 rfl)) ?_
 refine L_val rfl rfl rfl (OpP.v (P_gtr rfl rfl rfl)) ?_
 refine L_nil ?_
 refine St.env (.cons (t := 0) rfl (.cons (t := 2) rfl (.cons (t := 3) rfl (.cons (t := 8) rfl .nil)))) ?_
 refine Q_then ?_
 refine R_condP rfl (fun hbig => ?_) (fun hbig => ?_)
 ·skip
  have h9e : newE l = 86 := newE_big (by omega)
  have h9 : newE l ≠ 0 := by rw [h9e]; decide
  refine R_seq ?_
  refine R_region ?_
  refine L_val rfl rfl rfl (OpP.v (P_buildStruct rfl ty_pl_26 ty_ze_26 rfl rfl (rfl))) ?_
  refine E_as (t := 9) (v' := .agg (ledV (.slice none 0 0) (.slice none 0 0) 0 0).toArray) rfl (rfl) ?_
  refine L_op rfl (W_storeAll rfl rfl rfl rfl ty_ag_26 (rfl) (ledV_one _ _ _ _ rfl rfl) .h0 (rfl) ?_)
  refine L_val rfl rfl rfl (OpP.v (P_assign rfl rfl)) ?_
  refine L_nil ?_
  refine St.env (.cons (t := 0) rfl (.cons (t := 2) rfl (.cons (t := 3) rfl .nil))) ?_
  refine Q_then ?_
  refine R_ret ?_
  refine Q_then_ret ?_
  exact R_end (rs2 := [ownS 38 5 (.slice none 0 0) ((newL8 l).acc.length) (rc ((newL8 l).acc))]) rfl rfl (.cell rfl (Rds.loadVar ty_ag_26 (Rds.blk .h0) rfl) (.tmp rfl .nil)) (⟨.slice none 0 0, by rw [(newL8_bad' h9).2]; rw [h9e]; rfl, rfl⟩) (Weak.trans (Weak.newNil (T := 38) (sz := 5)) (Weak.keep_to (fun h hh => by rw [(newL8_bad' h9).1]; exact hh)))
 ·skip
  have hbig : ¬ 65536 < l.length := by omega
  refine R_skip ?_
  refine Q_then ?_
  refine R_seq ?_
  refine R_region ?_
  refine L_val rfl rfl rfl (OpP.v (P_move rfl rfl)) ?_
  refine L_op rfl (W_callV rfl rfl rfl rfl fn_ca_71 (soundAcc_ok base c l hc (by omega) hok) (fun w nw => (Sn.row hpre rfl).rw_ w nw) ?_)
  rw [show soundV l = .tuple #[.agg (sumC (if accE l = 0 then sumA l else 0)).toArray, .int .i64 (accE l)] from rfl]
  refine L_val rfl rfl rfl (OpP.v (P_move rfl rfl)) ?_
  refine L_val rfl rfl rfl (OpP.v (P_extract rfl rfl rfl)) ?_
  refine L_val rfl rfl rfl (OpP.v (P_extract rfl rfl rfl)) ?_
  refine L_op rfl (W_alloc rfl rfl rfl ty_ze_141 fun b4 => ?_)
  refine L_op rfl (W_storeAll rfl rfl rfl rfl ty_ag_141 (rfl) (sumC_one _) .h0 (rfl) ?_)
  refine L_val rfl rfl rfl (OpP.v (P_assign rfl rfl)) ?_
  refine L_nil ?_
  refine St.env (.cons (t := 0) rfl (.cons (t := 2) rfl (.cons (t := 3) rfl (.cons (t := 4) rfl (.cons (t := 5) rfl .nil))))) ?_
  refine Q_then ?_
  refine R_seq ?_
  refine R_seq ?_
  refine R_region ?_
  refine L_val rfl rfl rfl (OpP.v (P_move rfl rfl)) ?_
  refine L_val rfl rfl rfl (OpP.v (P_neq rfl rfl rfl)) ?_
  refine L_nil ?_
  refine St.env (.cons (t := 0) rfl (.cons (t := 2) rfl (.cons (t := 3) rfl (.cons (t := 4) rfl (.cons (t := 5) rfl (.cons (t := 16) rfl .nil)))))) ?_
  refine Q_then ?_
  refine R_condP rfl (fun he => ?_) (fun he => ?_)
  ·skip
   have h9e : newE l = accE l := newE_bad hbig he
   have h9 : newE l ≠ 0 := by rw [h9e]; exact he
   refine R_seq ?_
   refine R_region ?_
   refine L_val rfl rfl rfl (OpP.v (P_buildStruct rfl ty_pl_26 ty_ze_26 rfl rfl (rfl))) ?_
   refine E_as (t := 17) (v' := .agg (ledV (.slice none 0 0) (.slice none 0 0) 0 0).toArray) rfl (rfl) ?_
   refine L_val rfl rfl rfl (OpP.v (P_move rfl rfl)) ?_
   refine L_op rfl (W_storeAll rfl rfl rfl rfl ty_ag_26 (rfl) (ledV_one _ _ _ _ rfl rfl) .h1 (rfl) ?_)
   refine L_val rfl rfl rfl (OpP.v (P_assign rfl rfl)) ?_
   refine L_nil ?_
   refine St.env (.cons (t := 0) rfl (.cons (t := 2) rfl (.cons (t := 3) rfl (.cons (t := 4) rfl .nil)))) ?_
   refine Q_then ?_
   refine R_ret ?_
   refine Q_then_ret ?_
   exact R_end (rs2 := [ownS 38 5 (.slice none 0 0) ((newL8 l).acc.length) (rc ((newL8 l).acc))]) rfl rfl (.cell rfl (Rds.loadVar ty_ag_26 (Rds.blk .h1) rfl) (.tmp rfl .nil)) (⟨.slice none 0 0, by rw [(newL8_bad' h9).2]; rw [h9e]; rfl, rfl⟩) (Weak.trans (Weak.newNil (T := 38) (sz := 5)) (Weak.keep_to (fun h hh => by rw [(newL8_bad' h9).1]; exact hh)))
  ·skip
   have he : accE l = 0 := Classical.not_not.1 he
   have hSn := sumA_nn hok
   have hS := sumA_le l.length (Nat.le_refl _) he
   rw [List.take_length, hms] at hS
   rw [if_pos he]
   refine R_skip ?_
   refine Q_then ?_
   refine R_seq ?_
   refine R_seq ?_
   refine R_region ?_
   refine L_val rfl rfl rfl (OpP.v (P_fld0 rfl ty_fl_141_0 rfl)) ?_
   refine L_val rfl rfl rfl (V_load rfl rfl ty_sc_24 (Rd.blk .h0 rfl)) ?_
   refine L_val rfl rfl rfl (OpP.v (P_gtr rfl rfl rfl)) ?_
   refine E_bool (t := 21) rfl (fun hh => ?_) (fun hh => ?_)
   ·skip
    have hh := of_decide_eq_true hh
    have hbs : MS < sumA l := by omega
    refine L_val rfl rfl rfl (OpP.v (P_move rfl rfl)) ?_
    refine L_no rfl rfl rfl ?_
    refine L_no rfl rfl rfl ?_
    refine L_no rfl rfl rfl ?_
    refine L_val rfl rfl rfl (OpP.v (P_pick rfl rfl rfl)) ?_
    refine L_nil ?_
    refine St.env (.cons (t := 0) rfl (.cons (t := 2) rfl (.cons (t := 3) rfl (.cons (t := 4) rfl (.cons (t := 26) rfl .nil))))) ?_
    refine Q_then ?_
    refine R_condT rfl ?_
    refine R_seq ?_
    refine R_region ?_
    refine L_val rfl rfl rfl (OpP.v (P_buildStruct rfl ty_pl_26 ty_ze_26 rfl rfl (rfl))) ?_
    refine E_as (t := 27) (v' := .agg (ledV (.slice none 0 0) (.slice none 0 0) 0 0).toArray) rfl (rfl) ?_
    refine L_op rfl (W_storeAll rfl rfl rfl rfl ty_ag_26 (rfl) (ledV_one _ _ _ _ rfl rfl) .h1 (rfl) ?_)
    refine L_val rfl rfl rfl (OpP.v (P_assign rfl rfl)) ?_
    refine L_nil ?_
    refine St.env (.cons (t := 0) rfl (.cons (t := 2) rfl (.cons (t := 3) rfl (.cons (t := 4) rfl .nil)))) ?_
    refine Q_then ?_
    refine R_ret ?_
    refine Q_then_ret ?_
    have h9 : newE l ≠ 0 := by rw [newE_sum hbig he hbs]; decide
    exact R_end (rs2 := [ownS 38 5 (.slice none 0 0) ((newL8 l).acc.length) (rc ((newL8 l).acc))]) rfl rfl (.cell rfl (Rds.loadVar ty_ag_26 (Rds.blk .h1) rfl) (.tmp rfl .nil)) (⟨.slice none 0 0, by rw [(newL8_bad' h9).2]; rw [newE_sum hbig he hbs]; rfl, rfl⟩) (Weak.trans (Weak.newNil (T := 38) (sz := 5)) (Weak.keep_to (fun h hh => by rw [(newL8_bad' h9).1]; exact hh)))
   ·skip
    have hh := of_decide_eq_false hh
    have hlow : sumA l % 18446744073709551616 = sumA l := by omega
    refine L_val rfl rfl rfl (OpP.v (P_move rfl rfl)) ?_
    refine L_val rfl rfl rfl (OpP.v (P_fld0 rfl ty_fl_141_1 rfl)) ?_
    refine L_val rfl rfl rfl (V_load rfl rfl ty_sc_24 (Rd.blk .h0 rfl)) ?_
    refine E_as (t := 24) (v' := .int .u64 (sumA l)) rfl (by rw [hlow]) ?_
    refine L_val rfl rfl rfl (OpP.v (P_gtr rfl rfl rfl)) ?_
    refine L_val rfl rfl rfl (OpP.v (P_pick rfl rfl rfl)) ?_
    refine L_nil ?_
    refine St.env (.cons (t := 0) rfl (.cons (t := 2) rfl (.cons (t := 3) rfl (.cons (t := 4) rfl (.cons (t := 26) rfl .nil))))) ?_
    refine Q_then ?_
    refine R_condP rfl (fun hs => ?_) (fun hs => ?_)
    ·skip
     have hbs : MS < sumA l := hs
     refine R_seq ?_
     refine R_region ?_
     refine L_val rfl rfl rfl (OpP.v (P_buildStruct rfl ty_pl_26 ty_ze_26 rfl rfl (rfl))) ?_
     refine E_as (t := 27) (v' := .agg (ledV (.slice none 0 0) (.slice none 0 0) 0 0).toArray) rfl (rfl) ?_
     refine L_op rfl (W_storeAll rfl rfl rfl rfl ty_ag_26 (rfl) (ledV_one _ _ _ _ rfl rfl) .h1 (rfl) ?_)
     refine L_val rfl rfl rfl (OpP.v (P_assign rfl rfl)) ?_
     refine L_nil ?_
     refine St.env (.cons (t := 0) rfl (.cons (t := 2) rfl (.cons (t := 3) rfl (.cons (t := 4) rfl .nil)))) ?_
     refine Q_then ?_
     refine R_ret ?_
     refine Q_then_ret ?_
     have h9 : newE l ≠ 0 := by rw [newE_sum hbig he hbs]; decide
     exact R_end (rs2 := [ownS 38 5 (.slice none 0 0) ((newL8 l).acc.length) (rc ((newL8 l).acc))]) rfl rfl (.cell rfl (Rds.loadVar ty_ag_26 (Rds.blk .h1) rfl) (.tmp rfl .nil)) (⟨.slice none 0 0, by rw [(newL8_bad' h9).2]; rw [newE_sum hbig he hbs]; rfl, rfl⟩) (Weak.trans (Weak.newNil (T := 38) (sz := 5)) (Weak.keep_to (fun h hh => by rw [(newL8_bad' h9).1]; exact hh)))
    ·skip
     have hbs : ¬ MS < sumA l := hs
     have h9 : newE l = 0 := newE_fine hbig he hbs
     refine R_skip ?_
     refine Q_then ?_
     refine R_seq ?_
     refine R_open [(0, 0), (2, 0), (3, 1), (1, 2), (4, 0), (5, 3), (6, 0)] mixed (by kernel_rfl) (QOk.then QOk.body) ?_
     refine O_pure rfl rfl rfl rfl (P_move rfl rfl) ?_
     refine O_pure rfl rfl rfl rfl (P_fld0 rfl ty_fl_141_1 rfl) ?_
     refine O_val rfl rfl rfl rfl (V_load rfl rfl ty_sc_24 (Rd.blk .h0 rfl)) ?_
     refine E_as (t := 31) (v' := .int .u64 (sumA l)) rfl (by rw [hlow]) ?_
     refine O_keep rfl rfl (W_call rfl rfl rfl rfl fn_ca_72 (freshA_ok base c l hc (by omega)) (Split.nil _) (fun w a b _ hb dj m => Sn.pre (Sn.row hpre rfl) w a b ‹_› hb dj m) fun v29 rs1 (e1 : rs1 = _) => ?_)
     subst e1
     refine St.ownForm (p := []) fun ub uc huv huc => ?_
     subst huv
     refine K_keep (Weak.drop (Weak.refl _)) ?_
     refine O_pure rfl rfl rfl rfl (P_buildStruct rfl ty_pl_26 ty_ze_26 rfl rfl (rfl)) ?_
     refine E_as (t := 32) (v' := .agg (ledV (.slice ub l.length uc) (.slice none 0 0) 0 (sumA l)).toArray) rfl (rfl) ?_
     refine O_new rfl rfl (W_storeAll rfl rfl rfl rfl ty_ag_26 (rfl) (ledV_one _ _ _ _ rfl rfl) .h2 (rfl) (K_new ?_))
     refine O_pure rfl rfl rfl rfl (P_assign rfl rfl) ?_
     refine O_nil ?_
     refine St.env (.cons (t := 2) rfl (.cons (t := 3) rfl .nil)) ?_
     refine Q_then ?_
     refine R_ret ?_
     exact R_end (rs2 := [ownS 38 5 (.slice ub l.length uc) ((newL8 l).acc.length) (rc ((newL8 l).acc))]) rfl rfl (.cell rfl (Rds.loadVar ty_ag_26 (Rds.blk .h2) rfl) (.tmp rfl .nil)) (⟨_, by rw [newL8_fine h9, h9]; rfl, rfl⟩) (by rw [newL8_fine h9]; exact Weak.keep (Weak.nil _))
theorem find1_ok {gl : Nat → Obj} (ab : Nat) (a : Int) (x : Acc) : SpecV (cx gl) 114 [.agg x.cells.toArray, .pointer (some ⟨ab, 0, none⟩)] (fun w => w.cell? ⟨ab, 0, none⟩ = some (.int .u64 a)) (.bool (isAc a x)) := by
 refine Spec.enter (C := cx gl) Tryz.func114 rfl 8 rfl rfl fun w0 h0 hsep hsub hpre => ?_
 obtain rfl : h0 = Heap.none := hsep
 show St (cx gl) _ [(0, .agg x.cells.toArray), (1, .pointer (some ⟨ab, 0, none⟩))] _ _
 refine R_seq ?_
 refine R_region ?_
 refine L_op rfl (W_box (x.cells) rfl rfl rfl rfl rfl fun b2 => ?_)
 refine L_val rfl rfl rfl (OpP.v (P_assign rfl rfl)) ?_
 refine L_nil ?_
 refine St.env (.cons (t := 1) rfl (.cons (t := 2) rfl (.cons (t := 3) rfl .nil))) ?_
 refine Q_then ?_
 refine R_seq ?_
 refine R_region ?_
 refine L_val rfl rfl rfl (OpP.v (P_fld0 rfl ty_fl_38_0 rfl)) ?_
 refine L_val rfl rfl rfl (V_load rfl rfl ty_sc_27 (Rd.blk .h0 rfl)) ?_
 refine L_val rfl rfl rfl (V_load rfl rfl ty_sc_27 (Rd.old hpre rfl)) ?_
 refine L_val rfl rfl rfl (OpP.v (P_eql rfl rfl rfl)) ?_
 refine L_val rfl rfl rfl (OpP.v (P_assign rfl rfl)) ?_
 refine L_nil ?_
 refine St.env (.cons (t := 3) rfl .nil) ?_
 refine Q_then ?_
 refine R_ret ?_
 exact R_endV rfl rfl (.tmp rfl .nil) (rfl)
theorem ixA_ok {gl : Nat → Obj} (ab : Nat) (a : Int) (base : Option Addr) (c : Nat) (l : List Acc) (hc : l.length ≤ c) (hm : l.length ≤ 3518437208883) : SpecV (cx gl) 113 [.slice base l.length c, .func (.func 114) #[] #[.pointer (some ⟨ab, 0, none⟩)]] (fun w => Row w base (rc l) ∧ w.cell? ⟨ab, 0, none⟩ = some (.int .u64 a)) (.int .i64 (idxG (isAc a) l)) := by
 refine Spec.enter (C := cx gl) Tryz.func113 rfl 19 rfl rfl fun w0 h0 hsep hsub hpre => ?_
 obtain rfl : h0 = Heap.none := hsep
 show St (cx gl) _ [(0, .slice base l.length c), (1, .func (.func 114) #[] #[.pointer (some ⟨ab, 0, none⟩)])] _ _
 refine R_seq ?_
 refine R_region ?_
 refine L_val rfl rfl rfl (OpP.v (P_assign rfl rfl)) ?_
 refine L_nil ?_
 refine Q_then ?_
 refine R_seq ?_
 refine R_seq ?_
 refine R_region ?_
 refine L_val rfl rfl rfl (OpP.v (P_move rfl rfl)) ?_
 refine L_val rfl rfl rfl (OpP.v (P_len rfl ty_sl_22 rfl)) ?_
 refine L_val rfl rfl rfl (OpP.v (P_move rfl rfl)) ?_
 refine L_nil ?_
 refine St.env (.cons (t := 0) rfl (.cons (t := 1) rfl (.cons (t := 4) rfl (.cons (t := 7) rfl (.cons (t := 8) rfl .nil))))) ?_
 refine Q_then ?_
 refine R_block ?_
 refine R_loopE (G := Nat) (.cons (t := 0) rfl (.cons (t := 1) rfl (.cons (t := 4) rfl (.cons (t := 7) rfl .nil)))) (fun g => [(8, .int .i64 (g : Int))]) (fun _ => _) (fun g => g ≤ l.length ∧ ∀ j m', j < g → l[j]? = some m' → isAc a m' = false) (fun g => l.length - g) (0) (by show (0) ≤ l.length ∧ ∀ j m', j < (0) → l[j]? = some m' → isAc a m' = false; exact ⟨Nat.zero_le _, fun j _ h => by omega⟩) (by repeat (first | exact .nil | refine .cons rfl ?_ | refine .consE rfl (by first | rfl | (congr 1; omega) | (congr 1; push_cast; omega)) ?_)) (Weak.refl _) ?_
 intro i hinv
 replace hinv : i ≤ l.length ∧ ∀ j m', j < i → l[j]? = some m' → isAc a m' = false := hinv
 show St (cx gl) _ ((8, .int .i64 (i : Int)) :: _) _ _
 obtain ⟨hi, h0⟩ := hinv
 refine R_seq ?_
 refine R_region ?_
 refine L_val rfl rfl rfl (OpP.v (P_lss rfl rfl rfl)) ?_
 refine L_nil ?_
 refine Q_then ?_
 refine R_seq ?_
 refine R_condP rfl (fun hlt => ?_) (fun hlt => ?_)
 ·skip
  obtain ⟨x, hx⟩ : ∃ x, l[i]? = some x := ⟨_, List.getElem?_eq_getElem (by omega)⟩
  obtain ⟨pb, pj, rfl, hrow⟩ := hpre.1.some_ (by rw [rc_length]; show 0 < _ * 5; omega)
  refine R_skip ?_
  refine Q_then ?_
  refine R_seq ?_
  refine R_block ?_
  refine R_seq ?_
  refine R_region ?_
  refine L_val rfl rfl rfl (OpP.v (P_move rfl rfl)) ?_
  refine L_val rfl rfl rfl (OpP.v (P_assign rfl rfl)) ?_
  refine L_nil ?_
  refine Q_then ?_
  refine R_seq ?_
  refine R_region ?_
  refine L_val rfl rfl rfl (OpP.v (P_move rfl rfl)) ?_
  refine L_val rfl rfl rfl (OpP.v (P_move rfl rfl)) ?_
  refine L_val rfl rfl rfl (OpP.v (P_move rfl rfl)) ?_
  refine L_val rfl rfl rfl (OpP.v (P_ixs (i) rfl ty_sl_22 rfl rfl (by first | rfl | omega) (by omega))) ?_
  refine L_val rfl rfl rfl (V_loadAgg rfl rfl ty_ag_38 (rds_rc (Rds.row hrow rfl) hx) (rfl)) ?_
  refine L_op rfl (W_callFV (fi := []) (ca := [.pointer (some ⟨ab, 0, none⟩)]) rfl rfl rfl rfl rfl rfl fn_ca_114 (find1_ok ab a x) (fun w nw => (Rd.old hpre.2 rfl) w nw) ?_)
  refine L_nil ?_
  refine Q_then ?_
  refine R_cond rfl (fun hp => ?_) (fun hp => ?_)
  ·skip
   refine R_seq ?_
   refine R_region ?_
   refine L_val rfl rfl rfl (OpP.v (P_move rfl rfl)) ?_
   refine L_val rfl rfl rfl (OpP.v (P_assign rfl rfl)) ?_
   refine L_nil ?_
   refine Q_then ?_
   refine R_ret ?_
   refine Q_block_ret ?_
   refine Q_then_ret ?_
   refine Q_then_ret ?_
   refine Q_block_ret ?_
   refine Q_then_ret ?_
   exact R_endV rfl rfl (.tmp rfl .nil) (by rw [idxG_hit h0 hx hp]; rfl)
  ·skip
   refine R_skip ?_
   refine Q_block ?_
   refine Q_then ?_
   refine R_region ?_
   first | (refine L_val rfl rfl rfl (OpP.v (P_addN rfl rfl rfl (by simp only [fits]; omega))) ?_) | (refine L_val rfl rfl rfl (OpP.v (P_add rfl rfl rfl)) ?_)
   refine L_val rfl rfl rfl (OpP.v (P_move rfl rfl)) ?_
   refine L_nil ?_
   exact Q_round (i + 1) (by show (i + 1) ≤ l.length ∧ ∀ j m', j < (i + 1) → l[j]? = some m' → isAc a m' = false; exact ⟨by omega, no_next h0 hx hp⟩) (by show l.length - (i + 1) < l.length - i; omega) (by repeat (first | exact .nil | refine .cons rfl ?_ | refine .consE rfl (by first | rfl | (congr 1; omega) | (congr 1; push_cast; omega)) ?_)) (Weak.refl _)
 ·skip
  refine R_exit ?_
  refine Q_then_exit ?_
  refine Q_then_exit ?_
  refine Q_block_eq ?_
  refine St.env (.cons (t := 4) rfl .nil) ?_
  refine Q_then ?_
  refine R_seq ?_
  refine R_region ?_
  refine L_val rfl rfl rfl (OpP.v (P_assign rfl rfl)) ?_
  refine L_nil ?_
  refine Q_then ?_
  refine R_ret ?_
  exact R_endV rfl rfl (.tmp rfl .nil) (by rw [idxG_none fun j m' hj hm' => h0 j m' (by omega) hm']; rfl)
theorem find_ok {gl : Nat → Obj} (base : Option Addr) (c : Nat) (l : List Acc) (hc : l.length ≤ c) (hm : l.length ≤ 3518437208883) (r : Value) (hr : r.oneCell' = true) (bu su a : Int) : SpecV (cx gl) 50 [.agg (ledV (.slice base l.length c) r bu su).toArray, .int .u64 a] (fun w => Row w base (rc l)) (findV l a) := by
 refine Spec.enter (C := cx gl) Tryz.func50 rfl 23 rfl rfl fun w0 h0 hsep hsub hpre => ?_
 obtain rfl : h0 = Heap.none := hsep
 show St (cx gl) _ [(0, .agg (ledV (.slice base l.length c) r bu su).toArray), (1, .int .u64 a)] _ _
 refine R_seq ?_
 refine R_region ?_
 refine L_op rfl (W_box (ledV (.slice base l.length c) r bu su) rfl rfl rfl rfl rfl fun b2 => ?_)
 refine L_op rfl (W_box ([.int .u64 a]) rfl rfl rfl rfl rfl fun b3 => ?_)
 refine L_op rfl (W_alloc rfl rfl rfl ty_ze_38 fun b4 => ?_)
 refine L_val rfl rfl rfl (OpP.v (P_assign rfl rfl)) ?_
 refine L_nil ?_
 refine St.env (.cons (t := 2) rfl (.cons (t := 3) rfl (.cons (t := 4) rfl (.cons (t := 5) rfl .nil)))) ?_
 refine Q_then ?_
 refine R_seq ?_
 refine R_region ?_
 refine L_val rfl rfl rfl (OpP.v (P_fld0 rfl ty_fl_26_0 rfl)) ?_
 refine L_val rfl rfl rfl (V_load rfl rfl ty_sc_22 (Rd.blk .h2 rfl)) ?_
 refine L_val rfl rfl rfl (OpP.v (P_func rfl rfl rfl)) ?_
 refine L_op rfl (W_callV rfl rfl rfl rfl fn_ca_113 (ixA_ok b3 a base c l hc hm) (fun w nw => ⟨(Sn.row hpre rfl).rw_ w nw, Rd.blk .h1 rfl w nw⟩) ?_)
 refine L_val rfl rfl rfl (OpP.v (P_assign rfl rfl)) ?_
 refine L_nil ?_
 refine St.env (.cons (t := 2) rfl (.cons (t := 3) rfl (.cons (t := 4) rfl (.cons (t := 5) rfl (.cons (t := 6) rfl .nil))))) ?_
 refine Q_then ?_
 refine R_seq ?_
 refine R_seq ?_
 refine R_region ?_
 refine L_val rfl rfl rfl (OpP.v (P_move rfl rfl)) ?_
 refine L_val rfl rfl rfl (OpP.v (P_lss rfl rfl rfl)) ?_
 refine E_bool (t := 12) rfl (fun hn => ?_) (fun hn => ?_)
 ·skip
  have hn := of_decide_eq_true hn
  have hno : idxG (isAc a) l < 0 ∨ a = 0 := .inl hn
  refine L_val rfl rfl rfl (OpP.v (P_move rfl rfl)) ?_
  refine L_no rfl rfl rfl ?_
  refine L_no rfl rfl rfl ?_
  refine L_val rfl rfl rfl (OpP.v (P_pick rfl rfl rfl)) ?_
  refine L_nil ?_
  refine St.env (.cons (t := 2) rfl (.cons (t := 4) rfl (.cons (t := 5) rfl (.cons (t := 6) rfl (.cons (t := 16) rfl .nil))))) ?_
  refine Q_then ?_
  refine R_condT rfl ?_
  refine R_seq ?_
  refine R_region ?_
  refine L_val rfl rfl rfl (OpP.v (P_buildStruct rfl ty_pl_38 ty_ze_38 rfl rfl (rfl))) ?_
  refine E_as (t := 17) (v' := .agg acc0.cells.toArray) rfl (rfl) ?_
  refine L_op rfl (W_storeAll rfl rfl rfl rfl ty_ag_38 (rfl) (Rec.one acc0) .h0 (rfl) ?_)
  refine L_val rfl rfl rfl (OpP.v (P_assign rfl rfl)) ?_
  refine L_nil ?_
  refine St.env (.cons (t := 2) rfl (.cons (t := 4) rfl (.cons (t := 5) rfl (.cons (t := 6) rfl .nil)))) ?_
  refine Q_then ?_
  refine R_ret ?_
  refine Q_then_ret ?_
  exact R_endV rfl rfl (.cell rfl (Rds.loadVar ty_ag_38 (Rds.blk .h0) rfl) (.tmp rfl .nil)) (by rw [findV_no hno]; rfl)
 ·skip
  have hn := of_decide_eq_false hn
  refine L_val rfl rfl rfl (OpP.v (P_move rfl rfl)) ?_
  refine L_val rfl rfl rfl (V_load rfl rfl ty_sc_27 (Rd.blk .h1 rfl)) ?_
  refine L_val rfl rfl rfl (OpP.v (P_eql rfl rfl rfl)) ?_
  refine L_val rfl rfl rfl (OpP.v (P_pick rfl rfl rfl)) ?_
  refine L_nil ?_
  refine St.env (.cons (t := 2) rfl (.cons (t := 4) rfl (.cons (t := 5) rfl (.cons (t := 6) rfl (.cons (t := 16) rfl .nil))))) ?_
  refine Q_then ?_
  refine R_condP rfl (fun hz => ?_) (fun hz => ?_)
  ·skip
   have hno : idxG (isAc a) l < 0 ∨ a = 0 := .inr hz
   refine R_seq ?_
   refine R_region ?_
   refine L_val rfl rfl rfl (OpP.v (P_buildStruct rfl ty_pl_38 ty_ze_38 rfl rfl (rfl))) ?_
   refine E_as (t := 17) (v' := .agg acc0.cells.toArray) rfl (rfl) ?_
   refine L_op rfl (W_storeAll rfl rfl rfl rfl ty_ag_38 (rfl) (Rec.one acc0) .h0 (rfl) ?_)
   refine L_val rfl rfl rfl (OpP.v (P_assign rfl rfl)) ?_
   refine L_nil ?_
   refine St.env (.cons (t := 2) rfl (.cons (t := 4) rfl (.cons (t := 5) rfl (.cons (t := 6) rfl .nil)))) ?_
   refine Q_then ?_
   refine R_ret ?_
   refine Q_then_ret ?_
   exact R_endV rfl rfl (.cell rfl (Rds.loadVar ty_ag_38 (Rds.blk .h0) rfl) (.tmp rfl .nil)) (by rw [findV_no hno]; rfl)
  ·skip
   have hno : ¬ (idxG (isAc a) l < 0 ∨ a = 0) := by omega
   obtain ⟨i, hi, hix⟩ := idxG_pos (p := isAc a) (l := l) (by omega)
   have hx := accAt_get hi
   obtain ⟨pb, pj, rfl, hrow⟩ := hpre.some_ (by rw [rc_length]; show 0 < _ * 5; omega)
   refine E_as (t := 6) (v' := .int .i64 (i : Int)) rfl (by rw [hix]) ?_
   refine R_skip ?_
   refine Q_then ?_
   refine R_seq ?_
   refine R_region ?_
   refine L_val rfl rfl rfl (OpP.v (P_fld0 rfl ty_fl_26_0 rfl)) ?_
   refine L_val rfl rfl rfl (V_load rfl rfl ty_sc_22 (Rd.blk .h2 rfl)) ?_
   refine L_val rfl rfl rfl (OpP.v (P_move rfl rfl)) ?_
   refine L_val rfl rfl rfl (OpP.v (P_ixs (i) rfl ty_sl_22 rfl rfl (by first | rfl | omega) (by omega))) ?_
   refine L_val rfl rfl rfl (V_loadAgg rfl rfl ty_ag_38 (rds_rc (Rds.row hrow rfl) hx) (rfl)) ?_
   refine L_op rfl (W_storeAll rfl rfl rfl rfl ty_ag_38 (rfl) (Rec.one (accAt l i)) .h0 (rfl) ?_)
   refine L_val rfl rfl rfl (OpP.v (P_assign rfl rfl)) ?_
   refine L_nil ?_
   refine St.env (.cons (t := 4) rfl (.cons (t := 5) rfl .nil)) ?_
   refine Q_then ?_
   refine R_ret ?_
   exact R_endV rfl rfl (.cell rfl (Rds.loadVar ty_ag_38 (Rds.blk .h0) rfl) (.tmp rfl .nil)) (by rw [findV_yes hno, hix]; rfl)
end Go.Proofs.YtfhjhaogmdaepaaGreatDoor

/- Places, Sound. Printed by gen.py. -/
set_option linter.unusedVariables false
set_option linter.unusedSimpArgs false
set_option maxRecDepth 100000
namespace Go.Proofs.YtfhjhaogmdaepaaGreatDoor
open Go Go.RowKit Go.Proofs
theorem cmpI_pos (x y : Int) : 0 < cmpI x y ↔ y < x := by
 unfold cmpI; split
 ·exact ⟨fun h => absurd h (by decide), fun h => by omega⟩
 ·split
  ·exact ⟨fun _ => by assumption, fun _ => by decide⟩
  ·exact ⟨fun h => absurd h (by decide), fun h => by omega⟩
theorem laterI_pos (x y : Rel) : ¬ 0 < laterI x y ↔ laterB x y = false := by
 have h : 0 < laterI x y ↔ laterB x y = true := by
  unfold laterI laterB orI
  rw [Bool.or_eq_true, Bool.and_eq_true, decide_eq_true_eq, decide_eq_true_eq, decide_eq_true_eq]
  split
  ·rename_i h; rw [cmpI_pos]; rw [ne_eq, cmpI_zero] at h; omega
  ·rename_i h; rw [cmpI_pos]; rw [ne_eq, cmpI_zero, Classical.not_not] at h; omega
 rw [h, Bool.not_eq_true]
theorem place_neg (l : List Acc) (a : Int) : placeI l a < 0 ↔ spotB l a = false := by
 unfold placeI
 cases spotB l a with
 | true => rw [if_pos rfl]; exact ⟨fun h => by omega, fun h => by cases h⟩
 | false => rw [if_neg (by decide)]; exact ⟨fun _ => rfl, fun _ => by decide⟩
theorem lsoundE_big {l : Led} (h : 65536 < l.acc.length ∨ 65536 < l.rel.length) : lsoundE l = 86 := by unfold lsoundE; rw [if_pos h]
theorem lsoundE_acc {l : Led} (h1 : ¬ 65536 < l.acc.length) (h2 : ¬ 65536 < l.rel.length) (h : accE l.acc ≠ 0) : lsoundE l = accE l.acc := by unfold lsoundE; rw [if_neg (by omega), if_pos h]
theorem lsoundE_rel {l : Led} (h1 : ¬ 65536 < l.acc.length) (h2 : ¬ 65536 < l.rel.length) (h : accE l.acc = 0) {e : Int} (hr : relE l.acc l.rel = e) (he : e ≠ 0) : lsoundE l = e := by
 subst hr; unfold lsoundE; rw [if_neg (by omega), if_neg (by rw [h]; simp), if_pos he]
theorem lsoundE_sum {l : Led} (h1 : ¬ 65536 < l.acc.length) (h2 : ¬ 65536 < l.rel.length) (h : accE l.acc = 0) (hr : relE l.acc l.rel = 0) (hs : MS < l.sup ∨ l.burnt + sumA l.acc + sumR l.rel ≠ l.sup) : lsoundE l = 87 := by
 unfold lsoundE; rw [if_neg (by omega), if_neg (by rw [h]; simp), if_neg (by rw [hr]; simp), if_pos hs]
theorem lsoundE_fine {l : Led} (h1 : ¬ 65536 < l.acc.length) (h2 : ¬ 65536 < l.rel.length) (h : accE l.acc = 0) (hr : relE l.acc l.rel = 0) (h3 : ¬ MS < l.sup) (hs : l.burnt + sumA l.acc + sumR l.rel = l.sup) : lsoundE l = 0 := by
 unfold lsoundE; rw [if_neg (by omega), if_neg (by rw [h]; simp), if_neg (by rw [hr]; simp), if_neg (by omega)]
theorem sumC_eq {S x : Int} (h0 : 0 ≤ S) (hx : u64 x) : decide (S ≠ x) = false ↔ sumC S = [.int .u64 0, .int .u64 x] := by
 obtain ⟨h1, h2⟩ := hx
 rw [decide_eq_false_iff_not, Classical.not_not]
 unfold sumC
 simp only [List.cons.injEq, Value.int.injEq, true_and, and_true]
 omega
theorem sumC_kind (S x : Int) : ∀ (i : Nat) (u v : Value), (sumC S)[i]? = some u → ([.int .u64 0, .int .u64 x] : List Value)[i]? = some v → ∃ k a b, u = .int k a ∧ v = .int k b
 | 0, _, _, h, h' => by cases h; cases h'; exact ⟨_, _, _, rfl, rfl⟩
 | 1, _, _, h, h' => by cases h; cases h'; exact ⟨_, _, _, rfl, rfl⟩
 | _ + 2, _, _, h, _ => by cases h
theorem spot1_ok {gl : Nat → Obj} (x : Acc) (a : Int) : SpecV (cx gl) 143 [.agg x.cells.toArray, .int .u64 a] noPre (.int .i64 (cmpI x.a a)) := by
 refine Spec.enter (C := cx gl) Tryz.func143 rfl 9 rfl rfl fun w0 h0 hsep hsub hpre => ?_
 obtain rfl : h0 = Heap.none := hsep
 show St (cx gl) _ [(0, .agg x.cells.toArray), (1, .int .u64 a)] _ _
 refine R_seq ?_
 refine R_region ?_
 refine L_op rfl (W_box (x.cells) rfl rfl rfl rfl rfl fun b2 => ?_)
 refine L_val rfl rfl rfl (OpP.v (P_assign rfl rfl)) ?_
 refine L_nil ?_
 refine St.env (.cons (t := 1) rfl (.cons (t := 2) rfl (.cons (t := 4) rfl .nil))) ?_
 refine Q_then ?_
 refine R_seq ?_
 refine R_region ?_
 refine L_val rfl rfl rfl (OpP.v (P_fld0 rfl ty_fl_38_0 rfl)) ?_
 refine L_val rfl rfl rfl (V_load rfl rfl ty_sc_27 (Rd.blk .h0 rfl)) ?_
 refine L_val rfl rfl rfl (OpP.v (P_move rfl rfl)) ?_
 refine L_op rfl (W_callV rfl rfl rfl rfl fn_ca_87 (cmpa_ok _ _) (fun _ _ => trivial) ?_)
 refine L_val rfl rfl rfl (OpP.v (P_assign rfl rfl)) ?_
 refine L_nil ?_
 refine St.env (.cons (t := 4) rfl .nil) ?_
 refine Q_then ?_
 refine R_ret ?_
 exact R_endV rfl rfl (.tmp rfl .nil) (rfl)
theorem bsA_ok {gl : Nat → Obj} (a : Int) (base : Option Addr) (c : Nat) (l : List Acc) (hc : l.length ≤ c) (hm : l.length ≤ 3518437208883) : SpecV (cx gl) 142 [.slice base l.length c, .int .u64 a, .func (.func 143) #[] #[]] (fun w => Row w base (rc l)) (.tuple #[.int .i64 (spotI l a), .bool (spotB l a)]) := by
 refine Spec.enter (C := cx gl) Tryz.func142 rfl 49 rfl rfl fun w0 h0 hsep hsub hpre => ?_
 obtain rfl : h0 = Heap.none := hsep
 show St (cx gl) _ [(0, .slice base l.length c), (1, .int .u64 a), (2, .func (.func 143) #[] #[])] _ _
 refine R_seq ?_
 refine R_region ?_
 refine L_val rfl rfl rfl (OpP.v (P_assign rfl rfl)) ?_
 refine L_val rfl rfl rfl (OpP.v (P_assign rfl rfl)) ?_
 refine L_nil ?_
 refine Q_then ?_
 refine R_seq ?_
 refine R_region ?_
 refine L_val rfl rfl rfl (OpP.v (P_move rfl rfl)) ?_
 refine L_val rfl rfl rfl (OpP.v (P_len rfl ty_sl_22 rfl)) ?_
 refine L_val rfl rfl rfl (OpP.v (P_assign rfl rfl)) ?_
 refine L_nil ?_
 refine St.env (.cons (t := 0) rfl (.cons (t := 1) rfl (.cons (t := 2) rfl (.cons (t := 6) rfl (.cons (t := 7) rfl (.cons (t := 8) rfl .nil)))))) ?_
 refine Q_then ?_
 refine R_seq ?_
 refine R_region ?_
 refine L_val rfl rfl rfl (OpP.v (P_move rfl rfl)) ?_
 refine L_val rfl rfl rfl (OpP.v (P_assign rfl rfl)) ?_
 refine L_val rfl rfl rfl (OpP.v (P_assign rfl rfl)) ?_
 refine L_nil ?_
 refine St.env (.cons (t := 0) rfl (.cons (t := 1) rfl (.cons (t := 2) rfl (.cons (t := 6) rfl (.cons (t := 7) rfl (.cons (t := 8) rfl (.cons (t := 9) rfl (.cons (t := 10) rfl .nil)))))))) ?_
 refine Q_then ?_
 refine R_seq ?_
 refine R_block ?_
 refine R_loopE (G := Nat × Nat) (.cons (t := 0) rfl (.cons (t := 1) rfl (.cons (t := 2) rfl (.cons (t := 6) rfl (.cons (t := 7) rfl (.cons (t := 8) rfl .nil)))))) (fun g => [(9, .int .i64 ((g.1 : Nat) : Int)), (10, .int .i64 ((g.2 : Nat) : Int))]) (fun _ => _) (fun g => g.1 ≤ g.2 ∧ g.2 ≤ l.length ∧ spotI l a = bsN (fun i => decide ((accAt l i).a < a)) g.1 g.2) (fun g => g.2 - g.1) (0, l.length) (by show (0) ≤ (l.length) ∧ (l.length) ≤ l.length ∧ spotI l a = bsN (fun i => decide ((accAt l i).a < a)) (0) (l.length); exact ⟨Nat.zero_le _, Nat.le_refl _, rfl⟩) (by repeat (first | exact .nil | refine .cons rfl ?_ | refine .consE rfl (by first | rfl | (congr 1; omega) | (congr 1; push_cast; omega)) ?_)) (Weak.refl _) ?_
 rintro ⟨lo, hi⟩ hinv
 replace hinv : lo ≤ hi ∧ hi ≤ l.length ∧ spotI l a = bsN (fun i => decide ((accAt l i).a < a)) lo hi := hinv
 show St (cx gl) _ ((9, .int .i64 ((lo : Nat) : Int)) :: (10, .int .i64 ((hi : Nat) : Int)) :: _) _ _
 obtain ⟨h1, h2, h3⟩ := hinv
 refine R_seq ?_
 refine R_seq ?_
 refine R_region ?_
 refine L_val rfl rfl rfl (OpP.v (P_move rfl rfl)) ?_
 refine L_val rfl rfl rfl (OpP.v (P_move rfl rfl)) ?_
 refine L_val rfl rfl rfl (OpP.v (P_lss rfl rfl rfl)) ?_
 refine L_nil ?_
 refine Q_then ?_
 refine R_condP rfl (fun hlt => ?_) (fun hlt => ?_)
 ·skip
  have hx := accAt_get (l := l) (i := (lo + hi) / 2) (by omega)
  obtain ⟨pb, pj, rfl, hrow⟩ := hpre.some_ (by rw [rc_length]; show 0 < _ * 5; omega)
  refine R_skip ?_
  refine Q_then ?_
  refine R_block ?_
  refine R_seq ?_
  refine R_region ?_
  refine L_val rfl rfl rfl (OpP.v (P_move rfl rfl)) ?_
  refine L_val rfl rfl rfl (OpP.v (P_move rfl rfl)) ?_
  first | (refine L_val rfl rfl rfl (OpP.v (P_addN rfl rfl rfl (by simp only [fits]; omega))) ?_) | (refine L_val rfl rfl rfl (OpP.v (P_add rfl rfl rfl)) ?_)
  first | (refine L_val rfl rfl rfl (OpP.v (P_convN rfl ty_int_3 ty_int_133 rfl (by simp only [fits]; omega))) ?_) | (refine L_val rfl rfl rfl (OpP.v (P_conv rfl ty_int_3 ty_int_133 rfl)) ?_)
  refine L_val rfl rfl rfl (OpP.v (P_shr rfl rfl rfl (by omega))) ?_
  refine E_as (t := 22) (v' := .int .u64 (((lo + hi) / 2 : Nat) : Int)) rfl (by have h9 := half_nat (lo + hi); push_cast at h9 ⊢; rw [h9]) ?_
  first | (refine L_val rfl rfl rfl (OpP.v (P_convN rfl ty_int_133 ty_int_3 rfl (by simp only [fits]; omega))) ?_) | (refine L_val rfl rfl rfl (OpP.v (P_conv rfl ty_int_133 ty_int_3 rfl)) ?_)
  refine L_val rfl rfl rfl (OpP.v (P_assign rfl rfl)) ?_
  refine L_nil ?_
  refine Q_then ?_
  refine R_seq ?_
  refine R_region ?_
  refine L_val rfl rfl rfl (OpP.v (P_move rfl rfl)) ?_
  refine L_val rfl rfl rfl (OpP.v (P_move rfl rfl)) ?_
  refine L_val rfl rfl rfl (OpP.v (P_move rfl rfl)) ?_
  refine L_val rfl rfl rfl (OpP.v (P_ixs ((lo + hi) / 2) rfl ty_sl_22 rfl rfl (by first | rfl | omega) (by omega))) ?_
  refine L_val rfl rfl rfl (V_loadAgg rfl rfl ty_ag_38 (rds_rc (Rds.row hrow rfl) hx) (rfl)) ?_
  refine L_val rfl rfl rfl (OpP.v (P_move rfl rfl)) ?_
  refine L_op rfl (W_callFV (fi := []) (ca := []) rfl rfl rfl rfl rfl rfl fn_ca_143 (spot1_ok (accAt l ((lo + hi) / 2)) a) (fun _ _ => trivial) ?_)
  refine L_val rfl rfl rfl (OpP.v (P_lss rfl rfl rfl)) ?_
  refine L_nil ?_
  refine Q_then ?_
  refine R_condP rfl (fun hb => ?_) (fun hb => ?_)
  ·skip
   refine R_region ?_
   refine L_val rfl rfl rfl (OpP.v (P_move rfl rfl)) ?_
   first | (refine L_val rfl rfl rfl (OpP.v (P_addN rfl rfl rfl (by simp only [fits]; omega))) ?_) | (refine L_val rfl rfl rfl (OpP.v (P_add rfl rfl rfl)) ?_)
   refine L_val rfl rfl rfl (OpP.v (P_assign rfl rfl)) ?_
   refine L_nil ?_
   refine Q_block ?_
   exact Q_round ((lo + hi) / 2 + 1, hi) (by show ((lo + hi) / 2 + 1) ≤ (hi) ∧ (hi) ≤ l.length ∧ spotI l a = bsN (fun i => decide ((accAt l i).a < a)) ((lo + hi) / 2 + 1) (hi); exact ⟨by omega, h2, by rw [h3]; exact bsN_up (by omega) (decide_eq_true ((cmpI_neg _ _).1 hb))⟩) (by show hi - ((lo + hi) / 2 + 1) < hi - lo; omega) (by repeat (first | exact .nil | refine .cons rfl ?_ | refine .consE rfl (by first | rfl | (congr 1; omega) | (congr 1; push_cast; omega)) ?_)) (Weak.refl _)
  ·skip
   refine R_region ?_
   refine L_val rfl rfl rfl (OpP.v (P_move rfl rfl)) ?_
   refine L_val rfl rfl rfl (OpP.v (P_assign rfl rfl)) ?_
   refine L_nil ?_
   refine Q_block ?_
   exact Q_round (lo, (lo + hi) / 2) (by show (lo) ≤ ((lo + hi) / 2) ∧ ((lo + hi) / 2) ≤ l.length ∧ spotI l a = bsN (fun i => decide ((accAt l i).a < a)) (lo) ((lo + hi) / 2); exact ⟨by omega, by omega, by rw [h3]; exact bsN_down (by omega) (decide_eq_false fun h9 => hb ((cmpI_neg _ _).2 h9))⟩) (by show (lo + hi) / 2 - lo < hi - lo; omega) (by repeat (first | exact .nil | refine .cons rfl ?_ | refine .consE rfl (by first | rfl | (congr 1; omega) | (congr 1; push_cast; omega)) ?_)) (Weak.refl _)
 ·skip
  have hin : hi = lo := by omega
  have hsp : spotI l a = lo := by rw [h3]; exact bsN_end (by omega)
  refine R_exit ?_
  refine Q_then_exit ?_
  refine Q_then_exit ?_
  refine Q_block_eq ?_
  refine St.env (.cons (t := 0) rfl (.cons (t := 1) rfl (.cons (t := 2) rfl (.cons (t := 6) rfl (.cons (t := 7) rfl (.cons (t := 8) rfl (.cons (t := 9) rfl .nil))))))) ?_
  refine Q_then ?_
  refine R_seq ?_
  refine R_region ?_
  refine L_val rfl rfl rfl (OpP.v (P_move rfl rfl)) ?_
  refine L_val rfl rfl rfl (OpP.v (P_move rfl rfl)) ?_
  refine L_val rfl rfl rfl (OpP.v (P_move rfl rfl)) ?_
  refine L_val rfl rfl rfl (OpP.v (P_lss rfl rfl rfl)) ?_
  refine E_bool (t := 38) rfl (fun hl2 => ?_) (fun hl2 => ?_)
  ·skip
   have hl2 : lo < l.length := by have := of_decide_eq_true hl2; omega
   have hx := accAt_get hl2
   obtain ⟨pb, pj, rfl, hrow⟩ := hpre.some_ (by rw [rc_length]; show 0 < _ * 5; omega)
   refine L_val rfl rfl rfl (OpP.v (P_move rfl rfl)) ?_
   refine L_val rfl rfl rfl (OpP.v (P_move rfl rfl)) ?_
   refine L_val rfl rfl rfl (OpP.v (P_move rfl rfl)) ?_
   refine L_val rfl rfl rfl (OpP.v (P_move rfl rfl)) ?_
   refine L_val rfl rfl rfl (OpP.v (P_ixs (lo) rfl ty_sl_22 rfl rfl (by first | rfl | omega) (by omega))) ?_
   refine L_val rfl rfl rfl (V_loadAgg rfl rfl ty_ag_38 (rds_rc (Rds.row hrow rfl) hx) (rfl)) ?_
   refine L_val rfl rfl rfl (OpP.v (P_move rfl rfl)) ?_
   refine L_op rfl (W_callFV (fi := []) (ca := []) rfl rfl rfl rfl rfl rfl fn_ca_143 (spot1_ok (accAt l lo) a) (fun _ _ => trivial) ?_)
   refine L_val rfl rfl rfl (OpP.v (P_eql rfl rfl rfl)) ?_
   refine L_val rfl rfl rfl (OpP.v (P_pick rfl rfl rfl)) ?_
   refine L_val rfl rfl rfl (OpP.v (P_assign rfl rfl)) ?_
   refine L_val rfl rfl rfl (OpP.v (P_assign rfl rfl)) ?_
   refine L_nil ?_
   refine St.env (.cons (t := 6) rfl (.cons (t := 7) rfl .nil)) ?_
   refine Q_then ?_
   refine R_ret ?_
   exact R_endV rfl rfl (.tmp rfl (.tmp rfl .nil)) (by unfold spotB; rw [hsp]; first | (rw [decide_eq_false hl2]; rfl) | (rw [decide_eq_true hl2, Bool.true_and, show decide ((accAt l lo).a = a) = decide (cmpI (accAt l lo).a a = 0) from decide_eq_decide.2 (cmpI_zero _ _).symm]; rfl))
  ·skip
   have hl2 : ¬ lo < l.length := by have := of_decide_eq_false hl2; omega
   refine L_val rfl rfl rfl (OpP.v (P_move rfl rfl)) ?_
   refine L_no rfl rfl rfl ?_
   refine L_no rfl rfl rfl ?_
   refine L_no rfl rfl rfl ?_
   refine L_no rfl rfl rfl ?_
   refine L_no rfl rfl rfl ?_
   refine L_no rfl rfl rfl ?_
   refine L_no rfl rfl rfl ?_
   refine L_no rfl rfl rfl ?_
   refine L_val rfl rfl rfl (OpP.v (P_pick rfl rfl rfl)) ?_
   refine L_val rfl rfl rfl (OpP.v (P_assign rfl rfl)) ?_
   refine L_val rfl rfl rfl (OpP.v (P_assign rfl rfl)) ?_
   refine L_nil ?_
   refine St.env (.cons (t := 6) rfl (.cons (t := 7) rfl .nil)) ?_
   refine Q_then ?_
   refine R_ret ?_
   exact R_endV rfl rfl (.tmp rfl (.tmp rfl .nil)) (by unfold spotB; rw [hsp]; first | (rw [decide_eq_false hl2]; rfl) | (rw [decide_eq_true hl2, Bool.true_and, show decide ((accAt l lo).a = a) = decide (cmpI (accAt l lo).a a = 0) from decide_eq_decide.2 (cmpI_zero _ _).symm]; rfl))
theorem spot_ok {gl : Nat → Obj} (base : Option Addr) (c : Nat) (l : List Acc) (hc : l.length ≤ c) (hm : l.length ≤ 3518437208883) (r : Value) (hr : r.oneCell' = true) (bu su a : Int) : SpecV (cx gl) 90 [.agg (ledV (.slice base l.length c) r bu su).toArray, .int .u64 a] (fun w => Row w base (rc l)) (.tuple #[.int .i64 (spotI l a), .bool (spotB l a)]) := by
 refine Spec.enter (C := cx gl) Tryz.func90 rfl 12 rfl rfl fun w0 h0 hsep hsub hpre => ?_
 obtain rfl : h0 = Heap.none := hsep
 show St (cx gl) _ [(0, .agg (ledV (.slice base l.length c) r bu su).toArray), (1, .int .u64 a)] _ _
 refine R_seq ?_
 refine R_region ?_
 refine L_op rfl (W_box (ledV (.slice base l.length c) r bu su) rfl rfl rfl rfl rfl fun b2 => ?_)
 refine L_val rfl rfl rfl (OpP.v (P_assign rfl rfl)) ?_
 refine L_val rfl rfl rfl (OpP.v (P_assign rfl rfl)) ?_
 refine L_nil ?_
 refine St.env (.cons (t := 1) rfl (.cons (t := 2) rfl (.cons (t := 4) rfl (.cons (t := 5) rfl .nil)))) ?_
 refine Q_then ?_
 refine R_seq ?_
 refine R_region ?_
 refine L_val rfl rfl rfl (OpP.v (P_fld0 rfl ty_fl_26_0 rfl)) ?_
 refine L_val rfl rfl rfl (V_load rfl rfl ty_sc_22 (Rd.blk .h0 rfl)) ?_
 refine L_val rfl rfl rfl (OpP.v (P_move rfl rfl)) ?_
 refine L_op rfl (W_callV rfl rfl rfl rfl fn_ca_142 (bsA_ok a base c l hc hm) (fun w nw => (Sn.row hpre rfl).rw_ w nw) ?_)
 refine L_val rfl rfl rfl (OpP.v (P_extract rfl rfl rfl)) ?_
 refine L_val rfl rfl rfl (OpP.v (P_extract rfl rfl rfl)) ?_
 refine L_val rfl rfl rfl (OpP.v (P_assign rfl rfl)) ?_
 refine L_val rfl rfl rfl (OpP.v (P_assign rfl rfl)) ?_
 refine L_nil ?_
 refine St.env (.cons (t := 4) rfl (.cons (t := 5) rfl .nil)) ?_
 refine Q_then ?_
 refine R_ret ?_
 exact R_endV rfl rfl (.tmp rfl (.tmp rfl .nil)) (rfl)
theorem place_ok {gl : Nat → Obj} (base : Option Addr) (c : Nat) (l : List Acc) (hc : l.length ≤ c) (hm : l.length ≤ 3518437208883) (r : Value) (hr : r.oneCell' = true) (bu su a : Int) : SpecV (cx gl) 76 [.agg (ledV (.slice base l.length c) r bu su).toArray, .int .u64 a] (fun w => Row w base (rc l)) (.int .i64 (placeI l a)) := by
 refine Spec.enter (C := cx gl) Tryz.func76 rfl 15 rfl rfl fun w0 h0 hsep hsub hpre => ?_
 obtain rfl : h0 = Heap.none := hsep
 show St (cx gl) _ [(0, .agg (ledV (.slice base l.length c) r bu su).toArray), (1, .int .u64 a)] _ _
 refine R_seq ?_
 refine R_region ?_
 refine L_op rfl (W_box (ledV (.slice base l.length c) r bu su) rfl rfl rfl rfl rfl fun b2 => ?_)
 refine L_val rfl rfl rfl (OpP.v (P_assign rfl rfl)) ?_
 refine L_nil ?_
 refine St.env (.cons (t := 1) rfl (.cons (t := 2) rfl (.cons (t := 4) rfl .nil))) ?_
 refine Q_then ?_
 refine R_seq ?_
 refine R_seq ?_
 refine R_region ?_
 refine L_val rfl rfl rfl (V_loadAgg rfl rfl ty_ag_26 (Rds.blk .h0) (rfl)) ?_
 refine L_val rfl rfl rfl (OpP.v (P_move rfl rfl)) ?_
 refine L_op rfl (W_callV rfl rfl rfl rfl fn_ca_90 (spot_ok base c l hc hm r hr bu su a) (fun w nw => (Sn.row hpre rfl).rw_ w nw) ?_)
 refine L_val rfl rfl rfl (OpP.v (P_move rfl rfl)) ?_
 refine L_val rfl rfl rfl (OpP.v (P_extract rfl rfl rfl)) ?_
 refine L_val rfl rfl rfl (OpP.v (P_extract rfl rfl rfl)) ?_
 refine L_val rfl rfl rfl (OpP.v (P_assign rfl rfl)) ?_
 refine L_val rfl rfl rfl (OpP.v (P_assign rfl rfl)) ?_
 refine L_nil ?_
 refine St.env (.cons (t := 4) rfl (.cons (t := 5) rfl (.cons (t := 6) rfl .nil))) ?_
 refine Q_then ?_
 refine R_seq ?_
 refine R_region ?_
 refine L_val rfl rfl rfl (OpP.v (P_move rfl rfl)) ?_
 refine L_nil ?_
 refine St.env (.cons (t := 4) rfl (.cons (t := 5) rfl (.cons (t := 13) rfl .nil))) ?_
 refine Q_then ?_
 refine R_cond rfl (fun hb => ?_) (fun hb => ?_)
 ·skip
  refine R_seq ?_
  refine R_region ?_
  refine L_val rfl rfl rfl (OpP.v (P_move rfl rfl)) ?_
  refine L_val rfl rfl rfl (OpP.v (P_assign rfl rfl)) ?_
  refine L_nil ?_
  refine St.env (.cons (t := 4) rfl .nil) ?_
  refine Q_then ?_
  refine R_ret ?_
  refine Q_then_ret ?_
  exact R_endV rfl rfl (.tmp rfl .nil) (by unfold placeI; rw [if_pos hb]; rfl)
 ·skip
  refine R_skip ?_
  refine Q_then ?_
  refine R_seq ?_
  refine R_region ?_
  refine L_val rfl rfl rfl (OpP.v (P_assign rfl rfl)) ?_
  refine L_nil ?_
  refine St.env (.cons (t := 4) rfl .nil) ?_
  refine Q_then ?_
  refine R_ret ?_
  exact R_endV rfl rfl (.tmp rfl .nil) (by unfold placeI; rw [if_neg (by rw [hb]; decide)]; rfl)
theorem se_sum : seB Tryz.prog 141 2 = true := by kernel_rfl
theorem lsound_ok {gl : Nat → Obj} (base : Option Addr) (c : Nat) (l : List Acc) (hc : l.length ≤ c)(hok : ∀ x ∈ l, x.ok)(base' : Option Addr) (c' : Nat) (r : List Rel) (hc' : r.length ≤ c') (hok' : ∀ x ∈ r, x.ok) (bu su : Int) (hbu : u64 bu) (hsu : u64 su) : SpecV (cx gl) 45 [.agg (ledV (.slice base l.length c) (.slice base' r.length c') bu su).toArray] (fun w => Row w base (rc l) ∧ Row w base' (rc r)) (.int .i64 (lsoundE ⟨l, r, bu, su⟩)) := by
 refine Spec.enter (C := cx gl) Tryz.func45 rfl 98 rfl rfl fun w0 h0 hsep hsub hpre => ?_
 obtain rfl : h0 = Heap.none := hsep
 show St (cx gl) _ [(0, .agg (ledV (.slice base l.length c) (.slice base' r.length c') bu su).toArray)] _ _
 have hms : MS = 1152921504606846975 := rfl
 refine R_seq ?_
 refine R_region ?_
 refine L_op rfl (W_box (_) rfl rfl rfl rfl rfl fun b1 => ?_)
 refine L_val rfl rfl rfl (OpP.v (P_assign rfl rfl)) ?_
 refine L_nil ?_
 refine St.env (.cons (t := 1) rfl (.cons (t := 2) rfl .nil)) ?_
 refine Q_then ?_
 refine R_seq ?_
 refine R_seq ?_
 refine R_region ?_
 refine L_val rfl rfl rfl (OpP.v (P_fld0 rfl ty_fl_26_0 rfl)) ?_
 refine L_val rfl rfl rfl (V_load rfl rfl ty_sc_22 (by first | exact Rd.blk .h0 rfl | exact Rd.blk .h1 rfl | exact Rd.blk .h2 rfl | exact Rd.blk .h3 rfl | exact Rd.blk .h4 rfl | exact Rd.blk .h5 rfl | exact Rd.blk .h6 rfl | exact Rd.blk .h7 rfl)) ?_
 refine L_val rfl rfl rfl (OpP.v (P_len rfl ty_sl_22 rfl)) ?_
 refine L_val rfl rfl rfl (OpP.v (P_gtr rfl rfl rfl)) ?_
 refine E_bool (t := 10) rfl (fun hA => ?_) (fun hA => ?_)
 ·skip
  have hA := of_decide_eq_true hA
  refine L_val rfl rfl rfl (OpP.v (P_move rfl rfl)) ?_
  refine L_no rfl rfl rfl ?_
  refine L_no rfl rfl rfl ?_
  refine L_no rfl rfl rfl ?_
  refine L_no rfl rfl rfl ?_
  refine L_val rfl rfl rfl (OpP.v (P_pick rfl rfl rfl)) ?_
  refine L_nil ?_
  refine St.env (.cons (t := 1) rfl (.cons (t := 2) rfl (.cons (t := 16) rfl .nil))) ?_
  refine Q_then ?_
  refine R_condT rfl ?_
  refine R_seq ?_
  refine R_region ?_
  refine L_val rfl rfl rfl (OpP.v (P_assign rfl rfl)) ?_
  refine L_nil ?_
  refine St.env (.cons (t := 1) rfl (.cons (t := 2) rfl .nil)) ?_
  refine Q_then ?_
  refine R_ret ?_
  refine Q_then_ret ?_
  exact R_endV rfl rfl (.tmp rfl .nil) (by rw [show lsoundE ⟨l, r, bu, su⟩ = 86 from lsoundE_big (by show 65536 < l.length ∨ 65536 < r.length; omega)]; rfl)
 ·skip
  have hA := of_decide_eq_false hA
  have hA : ¬ 65536 < l.length := by omega
  refine L_val rfl rfl rfl (OpP.v (P_move rfl rfl)) ?_
  refine L_val rfl rfl rfl (OpP.v (P_fld0 rfl ty_fl_26_1 rfl)) ?_
  refine L_val rfl rfl rfl (V_load rfl rfl ty_sc_23 (by first | exact Rd.blk .h0 rfl | exact Rd.blk .h1 rfl | exact Rd.blk .h2 rfl | exact Rd.blk .h3 rfl | exact Rd.blk .h4 rfl | exact Rd.blk .h5 rfl | exact Rd.blk .h6 rfl | exact Rd.blk .h7 rfl)) ?_
  refine L_val rfl rfl rfl (OpP.v (P_len rfl ty_sl_23 rfl)) ?_
  refine L_val rfl rfl rfl (OpP.v (P_gtr rfl rfl rfl)) ?_
  refine L_val rfl rfl rfl (OpP.v (P_pick rfl rfl rfl)) ?_
  refine L_nil ?_
  refine St.env (.cons (t := 1) rfl (.cons (t := 2) rfl (.cons (t := 16) rfl .nil))) ?_
  refine Q_then ?_
  refine R_condP rfl (fun hB => ?_) (fun hB => ?_)
  ·skip
   refine R_seq ?_
   refine R_region ?_
   refine L_val rfl rfl rfl (OpP.v (P_assign rfl rfl)) ?_
   refine L_nil ?_
   refine St.env (.cons (t := 1) rfl (.cons (t := 2) rfl .nil)) ?_
   refine Q_then ?_
   refine R_ret ?_
   refine Q_then_ret ?_
   exact R_endV rfl rfl (.tmp rfl .nil) (by rw [show lsoundE ⟨l, r, bu, su⟩ = 86 from lsoundE_big (by show 65536 < l.length ∨ 65536 < r.length; omega)]; rfl)
  ·skip
   have hB : ¬ 65536 < r.length := by omega
   refine R_skip ?_
   refine Q_then ?_
   refine R_seq ?_
   refine R_region ?_
   refine L_val rfl rfl rfl (OpP.v (P_fld0 rfl ty_fl_26_0 rfl)) ?_
   refine L_val rfl rfl rfl (V_load rfl rfl ty_sc_22 (by first | exact Rd.blk .h0 rfl | exact Rd.blk .h1 rfl | exact Rd.blk .h2 rfl | exact Rd.blk .h3 rfl | exact Rd.blk .h4 rfl | exact Rd.blk .h5 rfl | exact Rd.blk .h6 rfl | exact Rd.blk .h7 rfl)) ?_
   refine L_op rfl (W_callV rfl rfl rfl rfl fn_ca_71 (soundAcc_ok base c l hc (by omega) hok) (fun w nw => (Sn.row hpre.1 rfl).rw_ w nw) ?_)
   rw [show soundV l = .tuple #[.agg (sumC (if accE l = 0 then sumA l else 0)).toArray, .int .i64 (accE l)] from rfl]
   refine L_val rfl rfl rfl (OpP.v (P_move rfl rfl)) ?_
   refine L_val rfl rfl rfl (OpP.v (P_extract rfl rfl rfl)) ?_
   refine L_val rfl rfl rfl (OpP.v (P_extract rfl rfl rfl)) ?_
   refine L_op rfl (W_alloc rfl rfl rfl ty_ze_141 fun b3 => ?_)
   refine L_op rfl (W_storeAll rfl rfl rfl rfl ty_ag_141 (rfl) (sumC_one _) .h0 (rfl) ?_)
   refine L_val rfl rfl rfl (OpP.v (P_assign rfl rfl)) ?_
   refine L_nil ?_
   refine St.env (.cons (t := 1) rfl (.cons (t := 2) rfl (.cons (t := 3) rfl (.cons (t := 4) rfl .nil)))) ?_
   refine Q_then ?_
   refine R_seq ?_
   refine R_seq ?_
   refine R_region ?_
   refine L_val rfl rfl rfl (OpP.v (P_move rfl rfl)) ?_
   refine L_val rfl rfl rfl (OpP.v (P_neq rfl rfl rfl)) ?_
   refine L_nil ?_
   refine St.env (.cons (t := 1) rfl (.cons (t := 2) rfl (.cons (t := 3) rfl (.cons (t := 4) rfl (.cons (t := 24) rfl .nil))))) ?_
   refine Q_then ?_
   refine R_condP rfl (fun he => ?_) (fun he => ?_)
   ·skip
    refine R_seq ?_
    refine R_region ?_
    refine L_val rfl rfl rfl (OpP.v (P_move rfl rfl)) ?_
    refine L_val rfl rfl rfl (OpP.v (P_assign rfl rfl)) ?_
    refine L_nil ?_
    refine St.env (.cons (t := 1) rfl (.cons (t := 2) rfl (.cons (t := 3) rfl .nil))) ?_
    refine Q_then ?_
    refine R_ret ?_
    refine Q_then_ret ?_
    exact R_endV rfl rfl (.tmp rfl .nil) (by rw [show lsoundE ⟨l, r, bu, su⟩ = accE l from lsoundE_acc hA hB he]; rfl)
   ·skip
    have he : accE l = 0 := Classical.not_not.1 he
    have hSn := sumA_nn hok
    have hS := sumA_le l.length (Nat.le_refl _) he
    rw [List.take_length, hms] at hS
    rw [if_pos he]
    refine R_skip ?_
    refine Q_then ?_
    refine R_seq ?_
    refine R_seq ?_
    refine R_region ?_
    refine L_val rfl rfl rfl (OpP.v (P_fld0 rfl ty_fl_26_1 rfl)) ?_
    refine L_val rfl rfl rfl (V_load rfl rfl ty_sc_23 (by first | exact Rd.blk .h0 rfl | exact Rd.blk .h1 rfl | exact Rd.blk .h2 rfl | exact Rd.blk .h3 rfl | exact Rd.blk .h4 rfl | exact Rd.blk .h5 rfl | exact Rd.blk .h6 rfl | exact Rd.blk .h7 rfl)) ?_
    refine L_val rfl rfl rfl (OpP.v (P_len rfl ty_sl_23 rfl)) ?_
    refine L_val rfl rfl rfl (OpP.v (P_move rfl rfl)) ?_
    refine L_nil ?_
    refine St.env (.cons (t := 1) rfl (.cons (t := 2) rfl (.cons (t := 3) rfl (.cons (t := 27) rfl (.cons (t := 28) rfl (.cons (t := 29) rfl .nil)))))) ?_
    refine Q_then ?_
    refine R_block ?_
    refine R_loopE (G := Nat) (.cons (t := 1) rfl (.cons (t := 2) rfl (.cons (t := 3) rfl (.cons (t := 27) rfl (.cons (t := 28) rfl .nil))))) (fun g => [(29, .int .i64 (g : Int))]) (fun g => [blk b3 (sumC (sumA l + sumR (r.take g))) 141, blk b1 (ledV (.slice base l.length c) (.slice base' r.length c') bu su) 26]) (fun g => g ≤ r.length ∧ firstE (relBad l r) g = 0) (fun g => r.length - g) (0) (by show (0) ≤ r.length ∧ firstE (relBad l r) (0) = 0; exact ⟨Nat.zero_le _, rfl⟩) (by repeat (first | exact .nil | refine .cons rfl ?_ | refine .consE rfl (by first | rfl | (congr 1; omega) | (congr 1; push_cast; omega)) ?_)) (by rw [show sumR (r.take 0) = 0 from rfl, Int.add_zero]; exact Weak.refl _) ?_
    intro i hinv
    replace hinv : i ≤ r.length ∧ firstE (relBad l r) i = 0 := hinv
    show St (cx gl) _ ((29, .int .i64 (i : Int)) :: _) [blk b3 (sumC (sumA l + sumR (r.take i))) 141, blk b1 (ledV (.slice base l.length c) (.slice base' r.length c') bu su) 26] _
    obtain ⟨hi, h0⟩ := hinv
    refine R_seq ?_
    refine R_region ?_
    refine L_val rfl rfl rfl (OpP.v (P_lss rfl rfl rfl)) ?_
    refine L_nil ?_
    refine Q_then ?_
    refine R_seq ?_
    refine R_condP rfl (fun hlt => ?_) (fun hlt => ?_)
    ·skip
     have hx0 := relAt_get (l := r) (i := i) (by omega)
     obtain ⟨x, ex⟩ : ∃ x, x = relAt r i := ⟨_, rfl⟩
     have hx : r[i]? = some x := by rw [ex]; exact hx0
     obtain ⟨pb, pj, rfl, hrow⟩ := hpre.2.some_ (by rw [rc_length]; show 0 < _ * 4; omega)
     obtain ⟨hx1, hx2, hx3, hx4⟩ := hok' x (List.mem_of_getElem? hx)
     have hR := sumR_le i hi h0
     rw [hms] at hR
     have hRn : 0 ≤ sumR (r.take i) := sumR_nn fun y hy => hok' y (List.mem_of_mem_take hy)
     refine R_skip ?_
     refine Q_then ?_
     refine R_seq ?_
     refine R_block ?_
     refine R_seq ?_
     refine R_region ?_
     refine L_val rfl rfl rfl (OpP.v (P_move rfl rfl)) ?_
     refine L_val rfl rfl rfl (OpP.v (P_ixs (i) rfl ty_sl_23 rfl rfl (by first | rfl | omega) (by omega))) ?_
     refine L_val rfl rfl rfl (V_loadAgg rfl rfl ty_ag_135 (rds_rc (Rds.row hrow rfl) hx) (rfl)) ?_
     refine L_op rfl (W_alloc rfl rfl rfl ty_ze_135 fun b6 => ?_)
     refine L_val rfl rfl rfl (OpP.v (P_assign rfl rfl)) ?_
     refine L_op rfl (W_storeAll rfl rfl rfl rfl ty_ag_135 (rfl) (Rec.one x) .h0 (rfl) ?_)
     refine L_nil ?_
     refine Q_then ?_
     refine R_seq ?_
     refine R_block ?_
     refine R_seq ?_
     refine R_region ?_
     refine L_val rfl rfl rfl (V_loadAgg rfl rfl ty_ag_26 (Rds.blk .h2) (rfl)) ?_
     refine L_val rfl rfl rfl (OpP.v (P_fld0 rfl ty_fl_135_1 rfl)) ?_
     refine L_val rfl rfl rfl (V_load rfl rfl ty_sc_27 (Rd.blk .h0 rfl)) ?_
     refine L_op rfl (W_callV rfl rfl rfl rfl fn_ca_76 (place_ok base c l hc (by omega) _ rfl bu su x.a) (fun w nw => (Sn.row hpre.1 rfl).rw_ w nw) ?_)
     refine L_val rfl rfl rfl (OpP.v (P_lss rfl rfl rfl)) ?_
     refine L_val rfl rfl rfl (OpP.v (P_assign rfl rfl)) ?_
     refine L_nil ?_
     refine Q_then ?_
     refine R_condP rfl (fun hp => ?_) (fun hp => ?_)
     ·skip
      have hpt := (place_neg _ _).1 hp
      refine R_seq ?_
      refine R_region ?_
      refine L_val rfl rfl rfl (OpP.v (P_assign rfl rfl)) ?_
      refine L_nil ?_
      refine Q_then ?_
      refine R_ret ?_
      refine Q_block_ret ?_
      refine Q_then_ret ?_
      refine Q_block_ret ?_
      refine Q_then_ret ?_
      refine Q_then_ret ?_
      refine Q_block_ret ?_
      refine Q_then_ret ?_
      exact R_endV rfl rfl (.tmp rfl .nil) (by rw [show lsoundE ⟨l, r, bu, su⟩ = 85 from lsoundE_rel hA hB he (firstE_hit h0 (show relBad l r i = 85 by unfold relBad; rw [← ex]; rw [if_pos hpt]) (by decide) (show i < r.length by omega)) (by decide)]; rfl)
     ·skip
      have hpt : spotB l x.a = true := by cases h9 : spotB l x.a with | true => rfl | false => exact absurd ((place_neg _ _).2 h9) hp
      refine R_seq ?_
      refine R_region ?_
      refine L_val rfl rfl rfl (OpP.v (P_fld0 rfl ty_fl_135_2 rfl)) ?_
      refine L_val rfl rfl rfl (V_load rfl rfl ty_sc_24 (Rd.blk .h0 rfl)) ?_
      refine L_val rfl rfl rfl (OpP.v (P_gtr rfl rfl rfl)) ?_
      refine E_bool (t := 43) rfl (fun q1 => ?_) (fun q1 => ?_)
      ·skip
       have q1 := of_decide_eq_true q1
       refine L_val rfl rfl rfl (OpP.v (P_move rfl rfl)) ?_
       refine L_no rfl rfl rfl ?_
       refine L_no rfl rfl rfl ?_
       refine L_no rfl rfl rfl ?_
       refine L_no rfl rfl rfl ?_
       refine L_no rfl rfl rfl ?_
       refine L_val rfl rfl rfl (OpP.v (P_pick rfl rfl rfl)) ?_
       refine L_val rfl rfl rfl (OpP.v (P_move rfl rfl)) ?_
       refine L_no rfl rfl rfl ?_
       refine L_no rfl rfl rfl ?_
       refine L_no rfl rfl rfl ?_
       refine L_val rfl rfl rfl (OpP.v (P_pick rfl rfl rfl)) ?_
       refine L_val rfl rfl rfl (OpP.v (P_assign rfl rfl)) ?_
       refine L_nil ?_
       refine Q_then ?_
       refine R_condT rfl ?_
       refine R_seq ?_
       refine R_region ?_
       refine L_val rfl rfl rfl (OpP.v (P_assign rfl rfl)) ?_
       refine L_nil ?_
       refine Q_then ?_
       refine R_ret ?_
       refine Q_block_ret ?_
       refine Q_then_ret ?_
       refine Q_block_ret ?_
       refine Q_then_ret ?_
       refine Q_then_ret ?_
       refine Q_block_ret ?_
       refine Q_then_ret ?_
       exact R_endV rfl rfl (.tmp rfl .nil) (by rw [show lsoundE ⟨l, r, bu, su⟩ = 2 from lsoundE_rel hA hB he (firstE_hit h0 (show relBad l r i = 2 by unfold relBad; rw [← ex]; rw [if_neg (by rw [hpt]; decide), if_pos (by omega)]) (by decide) (show i < r.length by omega)) (by decide)]; rfl)
      ·skip
       have q1 := of_decide_eq_false q1
       refine L_val rfl rfl rfl (OpP.v (P_move rfl rfl)) ?_
       refine L_val rfl rfl rfl (OpP.v (P_fld0 rfl ty_fl_135_0 rfl)) ?_
       refine L_val rfl rfl rfl (V_load rfl rfl ty_sc_24 (Rd.blk .h0 rfl)) ?_
       refine L_val rfl rfl rfl (OpP.v (P_fld0 rfl ty_fl_135_2 rfl)) ?_
       refine L_val rfl rfl rfl (V_load rfl rfl ty_sc_24 (Rd.blk .h0 rfl)) ?_
       refine L_val rfl rfl rfl (OpP.v (P_lss rfl rfl rfl)) ?_
       refine E_bool (t := 49) rfl (fun q2 => ?_) (fun q2 => ?_)
       ·skip
        have q2 := of_decide_eq_true q2
        refine L_val rfl rfl rfl (OpP.v (P_pick rfl rfl rfl)) ?_
        refine L_val rfl rfl rfl (OpP.v (P_move rfl rfl)) ?_
        refine L_no rfl rfl rfl ?_
        refine L_no rfl rfl rfl ?_
        refine L_no rfl rfl rfl ?_
        refine L_val rfl rfl rfl (OpP.v (P_pick rfl rfl rfl)) ?_
        refine L_val rfl rfl rfl (OpP.v (P_assign rfl rfl)) ?_
        refine L_nil ?_
        refine Q_then ?_
        refine R_condT rfl ?_
        refine R_seq ?_
        refine R_region ?_
        refine L_val rfl rfl rfl (OpP.v (P_assign rfl rfl)) ?_
        refine L_nil ?_
        refine Q_then ?_
        refine R_ret ?_
        refine Q_block_ret ?_
        refine Q_then_ret ?_
        refine Q_block_ret ?_
        refine Q_then_ret ?_
        refine Q_then_ret ?_
        refine Q_block_ret ?_
        refine Q_then_ret ?_
        exact R_endV rfl rfl (.tmp rfl .nil) (by rw [show lsoundE ⟨l, r, bu, su⟩ = 2 from lsoundE_rel hA hB he (firstE_hit h0 (show relBad l r i = 2 by unfold relBad; rw [← ex]; rw [if_neg (by rw [hpt]; decide), if_pos (by omega)]) (by decide) (show i < r.length by omega)) (by decide)]; rfl)
       ·skip
        have q2 := of_decide_eq_false q2
        refine L_val rfl rfl rfl (OpP.v (P_pick rfl rfl rfl)) ?_
        refine L_val rfl rfl rfl (OpP.v (P_move rfl rfl)) ?_
        refine L_val rfl rfl rfl (OpP.v (P_fld0 rfl ty_fl_135_0 rfl)) ?_
        refine L_val rfl rfl rfl (V_load rfl rfl ty_sc_24 (Rd.blk .h0 rfl)) ?_
        refine L_val rfl rfl rfl (OpP.v (P_gtr rfl rfl rfl)) ?_
        refine L_val rfl rfl rfl (OpP.v (P_pick rfl rfl rfl)) ?_
        refine L_val rfl rfl rfl (OpP.v (P_assign rfl rfl)) ?_
        refine L_nil ?_
        refine Q_then ?_
        refine R_condP rfl (fun q3 => ?_) (fun q3 => ?_)
        ·skip
         refine R_seq ?_
         refine R_region ?_
         refine L_val rfl rfl rfl (OpP.v (P_assign rfl rfl)) ?_
         refine L_nil ?_
         refine Q_then ?_
         refine R_ret ?_
         refine Q_block_ret ?_
         refine Q_then_ret ?_
         refine Q_block_ret ?_
         refine Q_then_ret ?_
         refine Q_then_ret ?_
         refine Q_block_ret ?_
         refine Q_then_ret ?_
         exact R_endV rfl rfl (.tmp rfl .nil) (by rw [show lsoundE ⟨l, r, bu, su⟩ = 2 from lsoundE_rel hA hB he (firstE_hit h0 (show relBad l r i = 2 by unfold relBad; rw [← ex]; rw [if_neg (by rw [hpt]; decide), if_pos (by omega)]) (by decide) (show i < r.length by omega)) (by decide)]; rfl)
        ·skip
         refine R_seq ?_
         refine R_open [(0, 0), (1, 0), (2, 0), (3, 1), (4, 0), (5, 1), (6, 0), (7, 0), (8, 0), (9, 1), (10, 2), (11, 0), (12, 0), (13, 0)] mixed (by kernel_rfl) (QOk.then (QOk.block (QOk.then (QOk.block (QOk.then (QOk.then (QOk.block (QOk.then QOk.body)))))))) ?_
         refine O_pure rfl rfl rfl rfl (P_move rfl rfl) ?_
         refine O_pure rfl rfl rfl rfl (P_gtr rfl rfl rfl) ?_
         refine E_bool (t := 58) rfl (fun q4 => ?_) (fun q4 => ?_)
         ·skip
          have q4 : 0 < i := by have := of_decide_eq_true q4; omega
          obtain ⟨y, ey⟩ : ∃ y, y = relAt r (i - 1) := ⟨_, rfl⟩
          have hy : r[i - 1]? = some y := by rw [ey]; exact relAt_get (by omega)
          refine O_pure rfl rfl rfl rfl (P_move rfl rfl) ?_
          refine O_val rfl rfl rfl rfl (V_loadAgg rfl rfl ty_ag_135 (Rds.blk .h0) (rfl)) ?_
          refine O_pure rfl rfl rfl rfl (P_fld0 rfl ty_fl_26_1 rfl) ?_
          refine O_val rfl rfl rfl rfl (V_load rfl rfl ty_sc_23 (Rd.blk .h2 rfl)) ?_
          refine O_pure rfl rfl rfl rfl (P_move rfl rfl) ?_
          first | (refine O_pure rfl rfl rfl rfl (P_subN rfl rfl rfl (by simp only [fits]; omega)) ?_) | (refine O_pure rfl rfl rfl rfl (P_sub rfl rfl rfl) ?_)
          refine O_pure rfl rfl rfl rfl (P_ixs (i - 1) rfl ty_sl_23 rfl rfl (by first | rfl | omega) (by omega)) ?_
          refine O_val rfl rfl rfl rfl (V_loadAgg rfl rfl ty_ag_135 (rds_rc (Rds.row hrow rfl) hy) (rfl)) ?_
          refine O_keep rfl rfl (W_callV rfl rfl rfl rfl fn_ca_107 (later_ok x y) (fun _ _ => trivial) (K_keep (Weak.refl _) ?_))
          refine O_pure rfl rfl rfl rfl (P_leq rfl rfl rfl) ?_
          refine O_pure rfl rfl rfl rfl (P_pick rfl rfl rfl) ?_
          refine O_pure rfl rfl rfl rfl (P_assign rfl rfl) ?_
          refine O_nil ?_
          refine Q_then ?_
          refine R_condP rfl (fun q5 => ?_) (fun q5 => ?_)
          ·skip
           have q5 : laterB x y = false := (laterI_pos x y).1 (by omega)
           refine R_seq ?_
           refine R_region ?_
           refine L_val rfl rfl rfl (OpP.v (P_assign rfl rfl)) ?_
           refine L_nil ?_
           refine Q_then ?_
           refine R_ret ?_
           refine Q_block_ret ?_
           refine Q_then_ret ?_
           refine Q_block_ret ?_
           refine Q_then_ret ?_
           refine Q_then_ret ?_
           refine Q_block_ret ?_
           refine Q_then_ret ?_
           exact R_endV rfl rfl (.tmp rfl .nil) (by rw [show lsoundE ⟨l, r, bu, su⟩ = 42 from lsoundE_rel hA hB he (firstE_hit h0 (show relBad l r i = 42 by unfold relBad; rw [← ex]; rw [if_neg (by rw [hpt]; decide), if_neg (by omega), if_pos ⟨q4, by rw [← ey]; exact q5⟩]) (by decide) (show i < r.length by omega)) (by decide)]; rfl)
          ·skip
           have hno : ¬ (0 < i ∧ laterB x (relAt r (i - 1)) = false) := fun h9 => q5 (by have := (laterI_pos x (relAt r (i - 1))).2 h9.2; rw [← ey] at this; omega)
           refine R_seq ?_
           refine R_region ?_
           refine L_val rfl rfl rfl (OpP.v (P_fld0 rfl ty_fl_135_3 rfl)) ?_
           refine L_val rfl rfl rfl (V_load rfl rfl ty_sc_24 (Rd.blk .h0 rfl)) ?_
           refine L_val rfl rfl rfl (OpP.v (P_eql rfl rfl rfl)) ?_
           refine E_bool (t := 73) rfl (fun q6 => ?_) (fun q6 => ?_)
           ·skip
            have q6 := of_decide_eq_true q6
            refine L_val rfl rfl rfl (OpP.v (P_move rfl rfl)) ?_
            refine L_no rfl rfl rfl ?_
            refine L_no rfl rfl rfl ?_
            refine L_no rfl rfl rfl ?_
            refine L_val rfl rfl rfl (OpP.v (P_pick rfl rfl rfl)) ?_
            refine L_val rfl rfl rfl (OpP.v (P_assign rfl rfl)) ?_
            refine L_nil ?_
            refine Q_then ?_
            refine R_condT rfl ?_
            refine R_seq ?_
            refine R_region ?_
            refine L_val rfl rfl rfl (OpP.v (P_assign rfl rfl)) ?_
            refine L_nil ?_
            refine Q_then ?_
            refine R_ret ?_
            refine Q_block_ret ?_
            refine Q_then_ret ?_
            refine Q_block_ret ?_
            refine Q_then_ret ?_
            refine Q_then_ret ?_
            refine Q_block_ret ?_
            refine Q_then_ret ?_
            exact R_endV rfl rfl (.tmp rfl .nil) (by rw [show lsoundE ⟨l, r, bu, su⟩ = 87 from lsoundE_rel hA hB he (firstE_hit h0 (show relBad l r i = 87 by unfold relBad; rw [← ex]; rw [if_neg (by rw [hpt]; decide), if_neg (by omega), if_neg hno, if_pos (by omega)]) (by decide) (show i < r.length by omega)) (by decide)]; rfl)
           ·skip
            have q6 := of_decide_eq_false q6
            refine L_val rfl rfl rfl (OpP.v (P_move rfl rfl)) ?_
            refine L_val rfl rfl rfl (OpP.v (P_fld0 rfl ty_fl_135_3 rfl)) ?_
            refine L_val rfl rfl rfl (V_load rfl rfl ty_sc_24 (Rd.blk .h0 rfl)) ?_
            refine L_val rfl rfl rfl (OpP.v (P_gtr rfl rfl rfl)) ?_
            refine L_val rfl rfl rfl (OpP.v (P_pick rfl rfl rfl)) ?_
            refine L_val rfl rfl rfl (OpP.v (P_assign rfl rfl)) ?_
            refine L_nil ?_
            refine Q_then ?_
            refine R_condP rfl (fun q7 => ?_) (fun q7 => ?_)
            ·skip
             refine R_seq ?_
             refine R_region ?_
             refine L_val rfl rfl rfl (OpP.v (P_assign rfl rfl)) ?_
             refine L_nil ?_
             refine Q_then ?_
             refine R_ret ?_
             refine Q_block_ret ?_
             refine Q_then_ret ?_
             refine Q_block_ret ?_
             refine Q_then_ret ?_
             refine Q_then_ret ?_
             refine Q_block_ret ?_
             refine Q_then_ret ?_
             exact R_endV rfl rfl (.tmp rfl .nil) (by rw [show lsoundE ⟨l, r, bu, su⟩ = 87 from lsoundE_rel hA hB he (firstE_hit h0 (show relBad l r i = 87 by unfold relBad; rw [← ex]; rw [if_neg (by rw [hpt]; decide), if_neg (by omega), if_neg hno, if_pos (by omega)]) (by decide) (show i < r.length by omega)) (by decide)]; rfl)
            ·skip
             refine R_skip ?_
             refine Q_block ?_
             refine Q_then ?_
             refine R_region ?_
             refine L_val rfl rfl rfl (V_loadAgg rfl rfl ty_ag_141 (Rds.blk .h1) (rfl)) ?_
             refine L_val rfl rfl rfl (OpP.v (P_fld0 rfl ty_fl_135_3 rfl)) ?_
             refine L_val rfl rfl rfl (V_load rfl rfl ty_sc_24 (Rd.blk .h0 rfl)) ?_
             refine L_op rfl (W_callV rfl rfl rfl rfl fn_ca_108 (plus_ok (sumA l + sumR (r.take i)) x.amt (by omega) (by omega) hx4) (fun _ _ => trivial) ?_)
             refine L_op rfl (W_storeAll rfl rfl rfl rfl ty_ag_141 (rfl) (sumC_one _) .h1 (rfl) ?_)
             refine L_nil ?_
             refine Q_block ?_
             refine Q_then ?_
             refine R_region ?_
             first | (refine L_val rfl rfl rfl (OpP.v (P_addN rfl rfl rfl (by simp only [fits]; omega))) ?_) | (refine L_val rfl rfl rfl (OpP.v (P_add rfl rfl rfl)) ?_)
             refine L_val rfl rfl rfl (OpP.v (P_move rfl rfl)) ?_
             refine L_nil ?_
             exact Q_round (i + 1) (by show (i + 1) ≤ r.length ∧ firstE (relBad l r) (i + 1) = 0; exact ⟨by omega, firstE_next h0 (by unfold relBad; rw [← ex, if_neg (by rw [hpt]; decide), if_neg (by omega), if_neg hno, if_neg (by omega)])⟩) (by show r.length - (i + 1) < r.length - i; omega) (by repeat (first | exact .nil | refine .cons rfl ?_ | refine .consE rfl (by first | rfl | (congr 1; omega) | (congr 1; push_cast; omega)) ?_)) (by rw [sumR_snoc hx, ← Int.add_assoc]; exact Weak.drop (Weak.refl _))
         ·skip
          have q4 : ¬ 0 < i := by have := of_decide_eq_false q4; omega
          have hno : ¬ (0 < i ∧ laterB x (relAt r (i - 1)) = false) := fun h9 => q4 h9.1
          refine O_pure rfl rfl rfl rfl (P_move rfl rfl) ?_
          refine O_noX rfl rfl rfl rfl ?_
          refine O_no rfl rfl rfl rfl ?_
          refine O_noX rfl rfl rfl rfl ?_
          refine O_no rfl rfl rfl rfl ?_
          refine O_no rfl rfl rfl rfl ?_
          refine O_no rfl rfl rfl rfl ?_
          refine O_noX rfl rfl rfl rfl ?_
          refine O_no2 rfl rfl rfl rfl ?_
          refine O_no rfl rfl rfl rfl ?_
          refine O_pure rfl rfl rfl rfl (P_pick rfl rfl rfl) ?_
          refine O_pure rfl rfl rfl rfl (P_assign rfl rfl) ?_
          refine O_nil ?_
          refine Q_then ?_
          refine R_condF rfl ?_
          refine R_seq ?_
          refine R_region ?_
          refine L_val rfl rfl rfl (OpP.v (P_fld0 rfl ty_fl_135_3 rfl)) ?_
          refine L_val rfl rfl rfl (V_load rfl rfl ty_sc_24 (Rd.blk .h0 rfl)) ?_
          refine L_val rfl rfl rfl (OpP.v (P_eql rfl rfl rfl)) ?_
          refine E_bool (t := 73) rfl (fun q6 => ?_) (fun q6 => ?_)
          ·skip
           have q6 := of_decide_eq_true q6
           refine L_val rfl rfl rfl (OpP.v (P_move rfl rfl)) ?_
           refine L_no rfl rfl rfl ?_
           refine L_no rfl rfl rfl ?_
           refine L_no rfl rfl rfl ?_
           refine L_val rfl rfl rfl (OpP.v (P_pick rfl rfl rfl)) ?_
           refine L_val rfl rfl rfl (OpP.v (P_assign rfl rfl)) ?_
           refine L_nil ?_
           refine Q_then ?_
           refine R_condT rfl ?_
           refine R_seq ?_
           refine R_region ?_
           refine L_val rfl rfl rfl (OpP.v (P_assign rfl rfl)) ?_
           refine L_nil ?_
           refine Q_then ?_
           refine R_ret ?_
           refine Q_block_ret ?_
           refine Q_then_ret ?_
           refine Q_block_ret ?_
           refine Q_then_ret ?_
           refine Q_then_ret ?_
           refine Q_block_ret ?_
           refine Q_then_ret ?_
           exact R_endV rfl rfl (.tmp rfl .nil) (by rw [show lsoundE ⟨l, r, bu, su⟩ = 87 from lsoundE_rel hA hB he (firstE_hit h0 (show relBad l r i = 87 by unfold relBad; rw [← ex]; rw [if_neg (by rw [hpt]; decide), if_neg (by omega), if_neg hno, if_pos (by omega)]) (by decide) (show i < r.length by omega)) (by decide)]; rfl)
          ·skip
           have q6 := of_decide_eq_false q6
           refine L_val rfl rfl rfl (OpP.v (P_move rfl rfl)) ?_
           refine L_val rfl rfl rfl (OpP.v (P_fld0 rfl ty_fl_135_3 rfl)) ?_
           refine L_val rfl rfl rfl (V_load rfl rfl ty_sc_24 (Rd.blk .h0 rfl)) ?_
           refine L_val rfl rfl rfl (OpP.v (P_gtr rfl rfl rfl)) ?_
           refine L_val rfl rfl rfl (OpP.v (P_pick rfl rfl rfl)) ?_
           refine L_val rfl rfl rfl (OpP.v (P_assign rfl rfl)) ?_
           refine L_nil ?_
           refine Q_then ?_
           refine R_condP rfl (fun q7 => ?_) (fun q7 => ?_)
           ·skip
            refine R_seq ?_
            refine R_region ?_
            refine L_val rfl rfl rfl (OpP.v (P_assign rfl rfl)) ?_
            refine L_nil ?_
            refine Q_then ?_
            refine R_ret ?_
            refine Q_block_ret ?_
            refine Q_then_ret ?_
            refine Q_block_ret ?_
            refine Q_then_ret ?_
            refine Q_then_ret ?_
            refine Q_block_ret ?_
            refine Q_then_ret ?_
            exact R_endV rfl rfl (.tmp rfl .nil) (by rw [show lsoundE ⟨l, r, bu, su⟩ = 87 from lsoundE_rel hA hB he (firstE_hit h0 (show relBad l r i = 87 by unfold relBad; rw [← ex]; rw [if_neg (by rw [hpt]; decide), if_neg (by omega), if_neg hno, if_pos (by omega)]) (by decide) (show i < r.length by omega)) (by decide)]; rfl)
           ·skip
            refine R_skip ?_
            refine Q_block ?_
            refine Q_then ?_
            refine R_region ?_
            refine L_val rfl rfl rfl (V_loadAgg rfl rfl ty_ag_141 (Rds.blk .h1) (rfl)) ?_
            refine L_val rfl rfl rfl (OpP.v (P_fld0 rfl ty_fl_135_3 rfl)) ?_
            refine L_val rfl rfl rfl (V_load rfl rfl ty_sc_24 (Rd.blk .h0 rfl)) ?_
            refine L_op rfl (W_callV rfl rfl rfl rfl fn_ca_108 (plus_ok (sumA l + sumR (r.take i)) x.amt (by omega) (by omega) hx4) (fun _ _ => trivial) ?_)
            refine L_op rfl (W_storeAll rfl rfl rfl rfl ty_ag_141 (rfl) (sumC_one _) .h1 (rfl) ?_)
            refine L_nil ?_
            refine Q_block ?_
            refine Q_then ?_
            refine R_region ?_
            first | (refine L_val rfl rfl rfl (OpP.v (P_addN rfl rfl rfl (by simp only [fits]; omega))) ?_) | (refine L_val rfl rfl rfl (OpP.v (P_add rfl rfl rfl)) ?_)
            refine L_val rfl rfl rfl (OpP.v (P_move rfl rfl)) ?_
            refine L_nil ?_
            exact Q_round (i + 1) (by show (i + 1) ≤ r.length ∧ firstE (relBad l r) (i + 1) = 0; exact ⟨by omega, firstE_next h0 (by unfold relBad; rw [← ex, if_neg (by rw [hpt]; decide), if_neg (by omega), if_neg hno, if_neg (by omega)])⟩) (by show r.length - (i + 1) < r.length - i; omega) (by repeat (first | exact .nil | refine .cons rfl ?_ | refine .consE rfl (by first | rfl | (congr 1; omega) | (congr 1; push_cast; omega)) ?_)) (by rw [sumR_snoc hx, ← Int.add_assoc]; exact Weak.drop (Weak.refl _))
    ·skip
     have hin : i = r.length := by omega
     subst hin
     rw [List.take_length]
     have hR := sumR_le r.length (Nat.le_refl _) h0
     rw [hms, List.take_length] at hR
     have hRn : 0 ≤ sumR r := sumR_nn hok'
     refine R_exit ?_
     refine Q_then_exit ?_
     refine Q_then_exit ?_
     refine Q_block_eq ?_
     refine St.env (.cons (t := 1) rfl (.cons (t := 2) rfl (.cons (t := 3) rfl .nil))) ?_
     refine Q_then ?_
     refine R_seq ?_
     refine R_seq ?_
     refine R_region ?_
     refine L_val rfl rfl rfl (V_loadAgg rfl rfl ty_ag_141 (Rds.blk .h0) (rfl)) ?_
     refine L_val rfl rfl rfl (OpP.v (P_fld0 rfl ty_fl_26_2 rfl)) ?_
     refine L_val rfl rfl rfl (V_load rfl rfl ty_sc_24 (Rd.blk .h1 rfl)) ?_
     refine L_op rfl (W_callV rfl rfl rfl rfl fn_ca_108 (plus_ok (sumA l + sumR r) bu (by omega) (by omega) hbu) (fun _ _ => trivial) ?_)
     refine L_op rfl (W_storeAll rfl rfl rfl rfl ty_ag_141 (rfl) (sumC_one _) .h0 (rfl) ?_)
     refine L_nil ?_
     refine St.env (.cons (t := 1) rfl (.cons (t := 2) rfl (.cons (t := 3) rfl .nil))) ?_
     refine Q_then ?_
     refine R_seq ?_
     refine R_region ?_
     refine L_val rfl rfl rfl (OpP.v (P_fld0 rfl ty_fl_26_3 rfl)) ?_
     refine L_val rfl rfl rfl (V_load rfl rfl ty_sc_24 (Rd.blk .h1 rfl)) ?_
     refine L_val rfl rfl rfl (OpP.v (P_gtr rfl rfl rfl)) ?_
     refine E_bool (t := 90) rfl (fun q8 => ?_) (fun q8 => ?_)
     ·skip
      have q8 := of_decide_eq_true q8
      refine L_val rfl rfl rfl (OpP.v (P_move rfl rfl)) ?_
      refine L_no rfl rfl rfl ?_
      refine L_no rfl rfl rfl ?_
      refine L_no rfl rfl rfl ?_
      refine L_no rfl rfl rfl ?_
      refine L_no rfl rfl rfl ?_
      refine L_val rfl rfl rfl (OpP.v (P_pick rfl rfl rfl)) ?_
      refine L_nil ?_
      refine St.env (.cons (t := 2) rfl (.cons (t := 97) rfl .nil)) ?_
      refine Q_then ?_
      refine R_condT rfl ?_
      refine R_seq ?_
      refine R_region ?_
      refine L_val rfl rfl rfl (OpP.v (P_assign rfl rfl)) ?_
      refine L_nil ?_
      refine St.env (.cons (t := 2) rfl .nil) ?_
      refine Q_then ?_
      refine R_ret ?_
      refine Q_then_ret ?_
      exact R_endV rfl rfl (.tmp rfl .nil) (by rw [show lsoundE ⟨l, r, bu, su⟩ = 87 from lsoundE_sum hA hB he h0 (by show MS < su ∨ bu + sumA l + sumR r ≠ su; rw [hms]; omega)]; rfl)
     ·skip
      have q8 := of_decide_eq_false q8
      refine L_val rfl rfl rfl (OpP.v (P_move rfl rfl)) ?_
      refine L_val rfl rfl rfl (V_loadAgg rfl rfl ty_ag_141 (Rds.blk .h0) (rfl)) ?_
      refine L_val rfl rfl rfl (OpP.v (P_fld0 rfl ty_fl_26_3 rfl)) ?_
      refine L_val rfl rfl rfl (V_load rfl rfl ty_sc_24 (Rd.blk .h1 rfl)) ?_
      refine L_val rfl rfl rfl (OpP.v (P_buildStruct rfl ty_pl_141 ty_ze_141 rfl rfl (rfl))) ?_
      refine L_val rfl rfl rfl (OpP.v (P_neq_struct (b := decide (sumA l + sumR r + bu ≠ su)) rfl se_sum rfl rfl rfl rfl (sumC_kind _ _) (sumC_eq (by have := hbu.1; omega) hsu))) ?_
      refine L_val rfl rfl rfl (OpP.v (P_pick rfl rfl rfl)) ?_
      refine L_nil ?_
      refine St.env (.cons (t := 2) rfl (.cons (t := 97) rfl .nil)) ?_
      refine Q_then ?_
      refine R_condP rfl (fun q9 => ?_) (fun q9 => ?_)
      ·skip
       refine R_seq ?_
       refine R_region ?_
       refine L_val rfl rfl rfl (OpP.v (P_assign rfl rfl)) ?_
       refine L_nil ?_
       refine St.env (.cons (t := 2) rfl .nil) ?_
       refine Q_then ?_
       refine R_ret ?_
       refine Q_then_ret ?_
       exact R_endV rfl rfl (.tmp rfl .nil) (by rw [show lsoundE ⟨l, r, bu, su⟩ = 87 from lsoundE_sum hA hB he h0 (by show MS < su ∨ bu + sumA l + sumR r ≠ su; rw [hms]; omega)]; rfl)
      ·skip
       refine R_skip ?_
       refine Q_then ?_
       refine R_seq ?_
       refine R_region ?_
       refine L_val rfl rfl rfl (OpP.v (P_assign rfl rfl)) ?_
       refine L_nil ?_
       refine St.env (.cons (t := 2) rfl .nil) ?_
       refine Q_then ?_
       refine R_ret ?_
       exact R_endV rfl rfl (.tmp rfl .nil) (by rw [show lsoundE ⟨l, r, bu, su⟩ = 0 from lsoundE_fine hA hB he h0 (by show ¬ MS < su; rw [hms]; omega) (by show bu + sumA l + sumR r = su; have := Classical.not_not.1 q9; omega)]; rfl)
end Go.Proofs.YtfhjhaogmdaepaaGreatDoor

/- Seats. Printed by gen.py. -/
set_option linter.unusedVariables false
set_option linter.unusedSimpArgs false
set_option maxRecDepth 100000
namespace Go.Proofs.YtfhjhaogmdaepaaGreatDoor
open Go Go.RowKit Go.Proofs Go.Sort
/-- The settings. -/
structure Par where
 mb : Int
 seats : Int
 p2 : Int
 p3 : Int
 p4 : Int
 p5 : Int
 p6 : Int
 p7 : Int
 p8 : Int
 p9 : Int
 p10 : Int
 p11 : Int
def Par.cells (p : Par) : List Value := [.int .u64 p.mb, .int .i64 p.seats, .int .u64 p.p2, .int .u64 p.p3, .int .u64 p.p4, .int .i64 p.p5, .int .u64 p.p6, .int .u64 p.p7, .int .u64 p.p8, .int .u64 p.p9, .int .u64 p.p10, .int .u64 p.p11]
theorem Par.one (p : Par) : ∀ v ∈ p.cells, v.oneCell' = true := by
 intro v hv; simp only [Par.cells, List.mem_cons, List.not_mem_nil, or_false] at hv
 rcases hv with rfl | rfl | rfl | rfl | rfl | rfl | rfl | rfl | rfl | rfl | rfl | rfl <;> rfl
theorem perm_all {d d' : Array Mem} (h : PermIn 0 d.size d d') : d'.toList.Perm d.toList := by
 have h2 := h.2.2
 rw [Array.extract_size, ← h.1, Array.extract_size] at h2
 exact h2
theorem sorted_list {lt : Mem → Mem → Bool} {d : Array Mem} {n : Nat} (h : SortedIn lt 0 n d) (hn : n = d.size) : ∀ (i j : Nat) (hij : i < j) (hj : j < d.toList.length), lt d.toList[j] (d.toList[i]'(by omega)) = false := fun i j hij hj => by
 have hj' : j < d.size := hj
 have h2 := h i j (Nat.zero_le _) hij (by omega)
 rw [getElem!_pos d j hj', getElem!_pos d i (by omega)] at h2
 exact h2
theorem ownS_cut {T sz n cap n' : Nat} {b : Option Addr} {cs : List Value} {rs : List HP} (h : n' ≤ n) : Weak (ownS T sz (.slice b n cap) n cs :: rs) (ownS T sz (.slice b n' n') n' (cs.take (n' * sz)) :: rs) := Weak.turn .h0 fun a ⟨hl, hx⟩ => by
 have hm : n' * sz ≤ n * sz := Nat.mul_le_mul_right _ h
 refine ⟨by rw [List.length_take, hl]; omega, ?_⟩
 rcases hx with ⟨⟨b0, e⟩, h0, ha⟩ | ⟨b', cap', junk, e, h1, h2, h3, h4⟩
 ·obtain rfl : n' = 0 := by omega
  exact .inl ⟨⟨b, rfl⟩, rfl, ha⟩
 ·simp only [Value.slice.injEq, true_and] at e
  obtain ⟨rfl, rfl⟩ := e
  refine .inr ⟨b', n', cs.drop (n' * sz) ++ junk, rfl, Nat.le_refl _, by omega, ?_, ?_⟩
  ·rw [← List.append_assoc, List.take_append_drop, List.length_append, hl]; omega
  ·rw [← List.append_assoc, List.take_append_drop]; exact h4
theorem sliced_0 (b : Option Addr) (q : Nat) (sz : Nat) : sliced b 0 q q sz = .slice b q q := by
 unfold sliced
 rw [Nat.zero_mul, Nat.sub_zero]
 split
 ·rfl
 ·cases b with
  | none => rfl
  | some a => simp [Addr.add]
theorem mostN_eq (s : Int) (n : Nat) : (if (n : Int) < (if (64 : Int) < (if 0 > s then 0 else s) then 64 else (if 0 > s then 0 else s)) then (n : Int) else (if (64 : Int) < (if 0 > s then 0 else s) then 64 else (if 0 > s then 0 else s))) = ((mostN s n : Nat) : Int) := by
 unfold mostN
 split <;> split <;> split <;> omega
theorem cand_snoc {mb : Int} {l : List Acc} {i : Nat} {x : Acc} (h : l[i]? = some x) : candM mb (l.take (i + 1)) = candM mb (l.take i) ++ (if sits mb x = true then [memA x] else []) := by
 unfold candM
 rw [List.take_add_one, h, List.filter_append, List.map_append]
 congr 1
 show List.map memA (List.filter (sits mb) [x]) = _
 rw [List.filter_cons, List.filter_nil]
 split <;> rfl
theorem cand_yes {mb : Int} {l : List Acc} {i : Nat} {x : Acc} (h : l[i]? = some x) (hs : sits mb x = true) : candM mb (l.take (i + 1)) = candM mb (l.take i) ++ [memA x] := by rw [cand_snoc h, if_pos hs]
theorem cand_no {mb : Int} {l : List Acc} {i : Nat} {x : Acc} (h : l[i]? = some x) (hs : sits mb x = false) : candM mb (l.take (i + 1)) = candM mb (l.take i) := by rw [cand_snoc h, if_neg (by rw [hs]; decide), List.append_nil]
theorem cand_len (mb : Int) (l : List Acc) : (candM mb l).length ≤ l.length := by unfold candM; rw [List.length_map]; exact List.length_filter_le _ _
theorem seats_done {mb seats : Int} {l : List Acc} {d1 e d2 : Array Mem} (hf : AccFine l) (hp1 : PermIn 0 (candM mb l).length (candM mb l).toArray d1) (hs1 : SortedIn bt 0 (candM mb l).length d1) (he : e.toList = d1.toList.take (mostN seats (candM mb l).length)) (hp2 : PermIn 0 e.size e d2) (hs2 : SortedIn ltA 0 e.size d2) : SeatsOf mb seats l d2.toList := by
 have hlen : d1.toList.length = (candM mb l).length := hp1.1
 refine seats_of hf (perm_all (d := (candM mb l).toArray) hp1) (sorted_list hs1 hlen.symm) ?_ (sorted_list hs2 hp2.1.symm)
 rw [hlen, ← he]
 exact perm_all hp2
theorem seats_ok {gl : Nat → Obj} (base : Option Addr) (c : Nat) (l : List Acc) (hc : l.length ≤ c) (hm : l.length ≤ 65536) (hf : AccFine l) (r : Value) (hr : r.oneCell' = true) (bu su : Int) (p : Par) : Spec (cx gl) 31 [.agg (ledV (.slice base l.length c) r bu su).toArray, .agg p.cells.toArray] (fun w _ => Row w base (rc l)) [] (fun v rs => ∃ (R : List Mem) (b : Option Addr) (c : Nat), v = .slice b R.length c ∧ SeatsOf p.mb p.seats l R ∧ rs = [ownS 76 3 (.slice b R.length c) (R.length) (rc R)]) := by
 refine Spec.enter (C := cx gl) Tryz.func31 rfl 55 rfl rfl fun w0 h0 hsep hsub hpre => ?_
 obtain rfl : h0 = Heap.none := hsep
 show St (cx gl) _ [(0, .agg (ledV (.slice base l.length c) r bu su).toArray), (1, .agg p.cells.toArray)] _ _
 refine R_seq ?_
 refine R_region ?_
 refine L_op rfl (W_box (ledV (.slice base l.length c) r bu su) rfl rfl rfl rfl rfl fun b2 => ?_)
 refine L_op rfl (W_box (p.cells) rfl rfl rfl rfl rfl fun b3 => ?_)
 refine L_val rfl rfl rfl (OpP.v (P_assign rfl rfl)) ?_
 refine L_nil ?_
 refine St.env (.cons (t := 2) rfl (.cons (t := 3) rfl (.cons (t := 4) rfl .nil))) ?_
 refine Q_then ?_
 refine R_seq ?_
 refine R_region ?_
 refine L_val rfl rfl rfl (OpP.v (P_assign rfl rfl)) ?_
 refine L_nil ?_
 refine Q_then ?_
 refine R_seq ?_
 refine R_seq ?_
 refine R_region ?_
 refine L_val rfl rfl rfl (OpP.v (P_fld0 rfl ty_fl_26_0 rfl)) ?_
 refine L_val rfl rfl rfl (V_load rfl rfl ty_sc_22 (Rd.blk .h1 rfl)) ?_
 refine L_val rfl rfl rfl (OpP.v (P_len rfl ty_sl_22 rfl)) ?_
 refine L_val rfl rfl rfl (OpP.v (P_move rfl rfl)) ?_
 refine L_nil ?_
 refine St.env (.cons (t := 3) rfl (.cons (t := 4) rfl (.cons (t := 5) rfl (.cons (t := 10) rfl (.cons (t := 11) rfl (.cons (t := 12) rfl .nil)))))) ?_
 refine Q_then ?_
 refine R_block ?_
 refine R_loopE (G := Nat × Value) (.cons (t := 3) rfl (.cons (t := 4) rfl (.cons (t := 10) rfl (.cons (t := 11) rfl .nil)))) (fun g => [(5, g.2), (12, .int .i64 (g.1 : Int))]) (fun g => [ownS 76 3 (g.2) ((candM p.mb (l.take g.1)).length) (rc (candM p.mb (l.take g.1))), blk b3 p.cells 62, blk b2 (ledV (.slice base l.length c) r bu su) 26]) (fun g => g.1 ≤ l.length) (fun g => l.length - g.1) (0, .slice none 0 0) (Nat.zero_le _) (by repeat (first | exact .nil | refine .cons rfl ?_ | refine .consE rfl (by first | rfl | (congr 1; omega) | (congr 1; push_cast; omega)) ?_)) (Weak.newNil) ?_
 rintro ⟨i, v⟩ hinv
 replace hinv : i ≤ l.length := hinv
 show St (cx gl) _ ((5, v) :: (12, .int .i64 (i : Int)) :: _) [ownS 76 3 (v) ((candM p.mb (l.take i)).length) (rc (candM p.mb (l.take i))), blk b3 p.cells 62, blk b2 (ledV (.slice base l.length c) r bu su) 26] _
 refine R_seq ?_
 refine R_region ?_
 refine L_val rfl rfl rfl (OpP.v (P_lss rfl rfl rfl)) ?_
 refine L_nil ?_
 refine Q_then ?_
 refine R_seq ?_
 refine R_condP rfl (fun hlt => ?_) (fun hlt => ?_)
 ·skip
  have hi : i ≤ l.length := hinv
  have hx0 := accAt_get (l := l) (i := i) (by omega)
  obtain ⟨x, ex⟩ : ∃ x, x = accAt l i := ⟨_, rfl⟩
  have hx : l[i]? = some x := by rw [ex]; exact hx0
  obtain ⟨pb, pj, rfl, hrow⟩ := hpre.some_ (by rw [rc_length]; show 0 < _ * 5; omega)
  have hcl := cand_len p.mb (l.take i)
  rw [List.length_take] at hcl
  refine R_skip ?_
  refine Q_then ?_
  refine R_seq ?_
  refine R_block ?_
  refine R_seq ?_
  refine R_region ?_
  refine L_val rfl rfl rfl (OpP.v (P_ixs (i) rfl ty_sl_22 rfl rfl (by first | rfl | omega) (by omega))) ?_
  refine L_val rfl rfl rfl (V_loadAgg rfl rfl ty_ag_38 (rds_rc (Rds.row hrow rfl) hx) (rfl)) ?_
  refine L_op rfl (W_alloc rfl rfl rfl ty_ze_38 fun b7 => ?_)
  refine L_op rfl (W_storeAll rfl rfl rfl rfl ty_ag_38 (rfl) (Rec.one x) .h0 (rfl) ?_)
  refine L_nil ?_
  refine Q_then ?_
  refine R_seq ?_
  refine R_region ?_
  refine L_val rfl rfl rfl (OpP.v (P_fld0 rfl ty_fl_38_4 rfl)) ?_
  refine L_val rfl rfl rfl (V_load rfl rfl ty_sc_4 (Rd.blk .h0 rfl)) ?_
  refine L_val rfl rfl rfl (OpP.v (P_not rfl rfl)) ?_
  refine L_val rfl rfl rfl (OpP.v (P_move rfl rfl)) ?_
  refine E_bool (t := 19) rfl (fun hj => ?_) (fun hj => ?_)
  ·skip
   refine L_val rfl rfl rfl (OpP.v (P_fld0 rfl ty_fl_38_2 rfl)) ?_
   refine L_val rfl rfl rfl (V_load rfl rfl ty_sc_24 (Rd.blk .h0 rfl)) ?_
   refine L_val rfl rfl rfl (OpP.v (P_fld0 rfl ty_fl_62_0 rfl)) ?_
   refine L_val rfl rfl rfl (V_load rfl rfl ty_sc_24 (Rd.blk .h2 rfl)) ?_
   refine L_val rfl rfl rfl (OpP.v (P_geq rfl rfl rfl)) ?_
   refine E_bool (t := 24) rfl (fun hb => ?_) (fun hb => ?_)
   ·skip
    have hb := of_decide_eq_true hb
    refine L_val rfl rfl rfl (OpP.v (P_pick rfl rfl rfl)) ?_
    refine L_val rfl rfl rfl (OpP.v (P_move rfl rfl)) ?_
    refine L_val rfl rfl rfl (OpP.v (P_fld0 rfl ty_fl_38_2 rfl)) ?_
    refine L_val rfl rfl rfl (V_load rfl rfl ty_sc_24 (Rd.blk .h0 rfl)) ?_
    refine L_val rfl rfl rfl (OpP.v (P_geq rfl rfl rfl)) ?_
    refine L_val rfl rfl rfl (OpP.v (P_pick rfl rfl rfl)) ?_
    refine L_nil ?_
    refine Q_then ?_
    refine R_condP rfl (fun hs => ?_) (fun hs => ?_)
    ·skip
     refine R_region ?_
     refine L_val rfl rfl rfl (OpP.v (P_move rfl rfl)) ?_
     refine L_val rfl rfl rfl (OpP.v (P_fld0 rfl ty_fl_38_0 rfl)) ?_
     refine L_val rfl rfl rfl (V_load rfl rfl ty_sc_27 (Rd.blk .h0 rfl)) ?_
     refine L_val rfl rfl rfl (OpP.v (P_fld0 rfl ty_fl_38_2 rfl)) ?_
     refine L_val rfl rfl rfl (V_load rfl rfl ty_sc_24 (Rd.blk .h0 rfl)) ?_
     refine L_val rfl rfl rfl (OpP.v (P_buildStruct rfl ty_pl_76 ty_ze_76 rfl rfl (rfl))) ?_
     refine L_op rfl (W_lit (z := .nilIface) ((memA x).cells) rfl rfl rfl ty_sl_68 ty_lz_68 rfl rfl rfl (by decide) (by decide) (by intro v hv; simp only [List.mem_singleton] at hv; subst hv; rfl) (rfl) fun b37 => ?_)
     refine L_op rfl (W_append (p := [_, _]) rfl rfl rfl ty_sl_68 ty_ap_68 ty_src_68 rfl rfl rfl (Src.slice (sz := 3) (m := 1) (news := (memA x).cells) (Rds.blk .h0) rfl (Mem.cells_one _)) (by omega) (by simp only [maxLen]; omega) fun v38 => ?_)
     refine L_val rfl rfl rfl (OpP.v (P_assign rfl rfl)) ?_
     refine L_nil ?_
     refine Q_block ?_
     refine Q_then ?_
     refine R_region ?_
     first | (refine L_val rfl rfl rfl (OpP.v (P_addN rfl rfl rfl (by simp only [fits]; omega))) ?_) | (refine L_val rfl rfl rfl (OpP.v (P_add rfl rfl rfl)) ?_)
     refine L_val rfl rfl rfl (OpP.v (P_move rfl rfl)) ?_
     refine L_nil ?_
     exact Q_round (i + 1, v38) (by show i + 1 ≤ l.length; omega) (by show l.length - (i + 1) < l.length - i; omega) (by repeat (first | exact .nil | refine .cons rfl ?_ | refine .consE rfl (by first | rfl | (congr 1; omega) | (congr 1; push_cast; omega)) ?_)) (Weak.drop (Weak.drop (by rw [cand_yes hx (by unfold sits; rw [hj, decide_eq_true hb, decide_eq_true (by omega)]; rfl), List.length_append, rc_append]; exact Weak.refl _)))
    ·skip
     refine R_skip ?_
     refine Q_block ?_
     refine Q_then ?_
     refine R_region ?_
     first | (refine L_val rfl rfl rfl (OpP.v (P_addN rfl rfl rfl (by simp only [fits]; omega))) ?_) | (refine L_val rfl rfl rfl (OpP.v (P_add rfl rfl rfl)) ?_)
     refine L_val rfl rfl rfl (OpP.v (P_move rfl rfl)) ?_
     refine L_nil ?_
     exact Q_round (i + 1, v) (by show i + 1 ≤ l.length; omega) (by show l.length - (i + 1) < l.length - i; omega) (by repeat (first | exact .nil | refine .cons rfl ?_ | refine .consE rfl (by first | rfl | (congr 1; omega) | (congr 1; push_cast; omega)) ?_)) (Weak.drop (by rw [cand_no hx (by unfold sits; rw [decide_eq_false (p := 1 ≤ x.bond) (by omega), Bool.and_false, Bool.and_false])]; exact Weak.refl _))
   ·skip
    have hb := of_decide_eq_false hb
    refine L_val rfl rfl rfl (OpP.v (P_pick rfl rfl rfl)) ?_
    refine L_val rfl rfl rfl (OpP.v (P_move rfl rfl)) ?_
    refine L_no rfl rfl rfl ?_
    refine L_no rfl rfl rfl ?_
    refine L_no rfl rfl rfl ?_
    refine L_val rfl rfl rfl (OpP.v (P_pick rfl rfl rfl)) ?_
    refine L_nil ?_
    refine Q_then ?_
    refine R_condF rfl ?_
    refine R_skip ?_
    refine Q_block ?_
    refine Q_then ?_
    refine R_region ?_
    first | (refine L_val rfl rfl rfl (OpP.v (P_addN rfl rfl rfl (by simp only [fits]; omega))) ?_) | (refine L_val rfl rfl rfl (OpP.v (P_add rfl rfl rfl)) ?_)
    refine L_val rfl rfl rfl (OpP.v (P_move rfl rfl)) ?_
    refine L_nil ?_
    exact Q_round (i + 1, v) (by show i + 1 ≤ l.length; omega) (by show l.length - (i + 1) < l.length - i; omega) (by repeat (first | exact .nil | refine .cons rfl ?_ | refine .consE rfl (by first | rfl | (congr 1; omega) | (congr 1; push_cast; omega)) ?_)) (Weak.drop (by rw [cand_no hx (by unfold sits; rw [decide_eq_false (p := p.mb ≤ x.bond) (by omega), Bool.false_and, Bool.and_false])]; exact Weak.refl _))
  ·skip
   refine L_no rfl rfl rfl ?_
   refine L_no rfl rfl rfl ?_
   refine L_no rfl rfl rfl ?_
   refine L_no rfl rfl rfl ?_
   refine L_no rfl rfl rfl ?_
   refine L_val rfl rfl rfl (OpP.v (P_pick rfl rfl rfl)) ?_
   refine L_val rfl rfl rfl (OpP.v (P_move rfl rfl)) ?_
   refine L_no rfl rfl rfl ?_
   refine L_no rfl rfl rfl ?_
   refine L_no rfl rfl rfl ?_
   refine L_val rfl rfl rfl (OpP.v (P_pick rfl rfl rfl)) ?_
   refine L_nil ?_
   refine Q_then ?_
   refine R_condF rfl ?_
   refine R_skip ?_
   refine Q_block ?_
   refine Q_then ?_
   refine R_region ?_
   first | (refine L_val rfl rfl rfl (OpP.v (P_addN rfl rfl rfl (by simp only [fits]; omega))) ?_) | (refine L_val rfl rfl rfl (OpP.v (P_add rfl rfl rfl)) ?_)
   refine L_val rfl rfl rfl (OpP.v (P_move rfl rfl)) ?_
   refine L_nil ?_
   exact Q_round (i + 1, v) (by show i + 1 ≤ l.length; omega) (by show l.length - (i + 1) < l.length - i; omega) (by repeat (first | exact .nil | refine .cons rfl ?_ | refine .consE rfl (by first | rfl | (congr 1; omega) | (congr 1; push_cast; omega)) ?_)) (Weak.drop (by rw [cand_no hx (by unfold sits; rw [hj, Bool.false_and])]; exact Weak.refl _))
 ·skip
  have hi : i ≤ l.length := hinv
  have hin : i = l.length := by omega
  rw [hin, List.take_length]
  have hcl := cand_len p.mb l
  refine St.ownForm (p := []) fun ub uc huv huc => ?_
  subst huv
  refine St.res (rs' := [ownS 76 3 (.slice ub (candM p.mb l).toArray.size uc) ((candM p.mb l).toArray.size) (rc (candM p.mb l).toArray.toList), blk b3 p.cells 62, blk b2 (ledV (.slice base l.length c) r bu su) 26]) (Weak.refl _) ?_
  refine R_exit ?_
  refine Q_then_exit ?_
  refine Q_then_exit ?_
  refine Q_block_eq ?_
  refine St.env (.cons (t := 3) rfl (.cons (t := 4) rfl (.cons (t := 5) rfl .nil))) ?_
  refine Q_then ?_
  refine R_seq ?_
  refine R_region ?_
  refine L_val rfl rfl rfl (OpP.v (P_move rfl rfl)) ?_
  refine L_op rfl (W_call rfl rfl rfl rfl fn_ca_83 (ssM_ok ub uc (candM p.mb l).toArray (by show (candM p.mb l).length ≤ _; omega)) (Split.one (p := [])) (fun _ _ _ _ _ _ _ => trivial) fun vv rs1 ⟨z1, d1, ⟨hp1, hs1⟩, z2⟩ => ?_)
  subst z1; subst z2
  refine St.res (rs' := [ownS 76 3 (.slice ub (candM p.mb l).length uc) ((candM p.mb l).length) (rc d1.toList), blk b3 p.cells 62, blk b2 (ledV (.slice base l.length c) r bu su) 26]) (Weak.refl _) ?_
  refine L_nil ?_
  refine St.env (.cons (t := 3) rfl (.cons (t := 4) rfl (.cons (t := 5) rfl .nil))) ?_
  refine Q_then ?_
  refine R_seq ?_
  refine R_region ?_
  refine L_val rfl rfl rfl (OpP.v (P_fld0 rfl ty_fl_62_1 rfl)) ?_
  refine L_val rfl rfl rfl (V_load rfl rfl ty_sc_3 (Rd.blk .h1 rfl)) ?_
  refine L_val rfl rfl rfl (OpP.v (P_max2 rfl rfl rfl)) ?_
  refine L_val rfl rfl rfl (OpP.v (P_move rfl rfl)) ?_
  refine L_val rfl rfl rfl (OpP.v (P_len rfl ty_sl_68 rfl)) ?_
  refine L_val rfl rfl rfl (OpP.v (P_min3 rfl rfl rfl rfl)) ?_
  refine E_as (t := 47) (v' := .int .i64 ((mostN p.seats (candM p.mb l).length : Nat) : Int)) rfl (congrArg (Value.int .i64) (mostN_eq _ _)) ?_
  refine L_val rfl rfl rfl (OpP.v (P_assign rfl rfl)) ?_
  refine L_nil ?_
  refine St.env (.cons (t := 4) rfl (.cons (t := 5) rfl (.cons (t := 8) rfl .nil))) ?_
  refine Q_then ?_
  refine R_seq ?_
  refine R_region ?_
  refine L_val rfl rfl rfl (OpP.v (P_move rfl rfl)) ?_
  refine L_val rfl rfl rfl (OpP.v (P_move rfl rfl)) ?_
  refine L_val rfl rfl rfl (OpP.v (P_move rfl rfl)) ?_
  refine L_val rfl rfl rfl (OpP.v (P_slice3 0 (mostN p.seats (candM p.mb l).length) (mostN p.seats (candM p.mb l).length) rfl ty_sl_68 rfl rfl rfl rfl (Nat.zero_le _) (Nat.le_refl _) (by unfold mostN; omega))) ?_
  have hmo : mostN p.seats (candM p.mb l).length ≤ (candM p.mb l).length := by unfold mostN; omega
  obtain ⟨e, he⟩ : ∃ e : Array Mem, e.toList = d1.toList.take (mostN p.seats (candM p.mb l).length) := ⟨(d1.toList.take (mostN p.seats (candM p.mb l).length)).toArray, rfl⟩
  have hes : mostN p.seats (candM p.mb l).length = e.size := by rw [← Array.length_toList, he, List.length_take]; have : d1.toList.length = (candM p.mb l).length := hp1.1; omega
  refine E_as (t := 51) (v' := .slice ub e.size e.size) rfl (by rw [sliced_0, hes]) ?_
  refine St.res (rs' := [ownS 76 3 (.slice ub e.size e.size) (e.size) (rc e.toList), blk b3 p.cells 62, blk b2 (ledV (.slice base l.length c) r bu su) 26]) (Weak.trans (ownS_cut hmo) (by rw [show (3 : Nat) = Rec.n Mem from rfl, rc_take, ← he, hes]; exact Weak.refl _)) ?_
  refine L_val rfl rfl rfl (OpP.v (P_assign rfl rfl)) ?_
  refine L_nil ?_
  refine St.env (.cons (t := 4) rfl (.cons (t := 5) rfl .nil)) ?_
  refine Q_then ?_
  refine R_seq ?_
  refine R_region ?_
  refine L_val rfl rfl rfl (OpP.v (P_move rfl rfl)) ?_
  refine L_op rfl (W_call rfl rfl rfl rfl fn_ca_88 (sortM_ok ub e.size e (by omega)) (Split.one (p := [])) (fun _ _ _ _ _ _ _ => trivial) fun vv rs1 ⟨z1, d2, hp2, hs2, z2⟩ => ?_)
  subst z1; subst z2
  refine St.res (rs' := [ownS 76 3 (.slice ub e.size e.size) (e.size) (rc d2.toList), blk b3 p.cells 62, blk b2 (ledV (.slice base l.length c) r bu su) 26]) (Weak.refl _) ?_
  refine L_nil ?_
  refine St.env (.cons (t := 4) rfl (.cons (t := 5) rfl .nil)) ?_
  refine Q_then ?_
  refine R_seq ?_
  refine R_region ?_
  refine L_val rfl rfl rfl (OpP.v (P_move rfl rfl)) ?_
  refine L_val rfl rfl rfl (OpP.v (P_assign rfl rfl)) ?_
  refine L_nil ?_
  refine St.env (.cons (t := 4) rfl .nil) ?_
  refine Q_then ?_
  refine R_ret ?_
  exact R_end (rs2 := [ownS 76 3 (.slice ub d2.toList.length e.size) (d2.toList.length) (rc d2.toList)]) rfl rfl (.tmp rfl .nil) (⟨d2.toList, ub, e.size, by rw [show d2.toList.length = e.size from hp2.1]; rfl, seats_done hf hp1 hs1 he hp2 hs2, rfl⟩) (by rw [show d2.toList.length = e.size from hp2.1]; exact Weak.keep (Weak.nil _))
end Go.Proofs.YtfhjhaogmdaepaaGreatDoor

/- Walks: the codec's writer. Printed by gen.py. -/
set_option linter.unusedVariables false
set_option linter.unusedSimpArgs false
set_option maxRecDepth 100000
namespace Go.Proofs.YtfhjhaogmdaepaaGreatDoor
open Go Go.RowKit Go.Proofs
def w8 (x : Int) (i : Nat) : Int := IntKind.u8.wrap (shrI .u64 x (8 * (i : Int)))
def word8 (x : Int) (n : Nat) : List Int := (List.range n).map (w8 x)
theorem word8_succ (x : Int) (n : Nat) : word8 x (n + 1) = word8 x n ++ [w8 x n] := by simp [word8, List.range_succ]
theorem word8_length (x : Int) (n : Nat) : (word8 x n).length = n := by simp [word8]
theorem word8_b (x : Int) (n : Nat) : IsB (word8 x n) := by
 intro y hy
 obtain ⟨i, _, rfl⟩ := List.mem_map.1 hy
 unfold w8; simp only [IntKind.wrap, IntKind.signed, IntKind.bits, Bool.false_and, Bool.false_eq_true, if_false]; omega
/-- Words, one behind the other. -/
def wordsB (ws : List Int) : List Int := ws.flatMap fun x => word8 x 8
theorem wordsB_length (ws : List Int) : (wordsB ws).length = 8 * ws.length := by
 induction ws with
 | nil => rfl
 | cons x ws ih => show (word8 x 8 ++ wordsB ws).length = _; rw [List.length_append, word8_length, ih, List.length_cons]; omega
theorem wordsB_next {ws : List Int} {i : Nat} {x : Int} (h : ws[i]? = some x) : wordsB (ws.take (i + 1)) = wordsB (ws.take i) ++ word8 x 8 := by
 unfold wordsB; rw [List.take_add_one, h, List.flatMap_append]; simp
theorem wordsB_b (ws : List Int) : IsB (wordsB ws) := by
 intro y hy
 obtain ⟨x, _, hy⟩ := List.mem_flatMap.1 hy
 exact word8_b x 8 y hy
def boolB (b : Bool) : Int := if b = true then 1 else 0
def accW (x : Acc) : List Int := [x.a, x.bal, x.bond, x.non]
def formB (x : Acc) : List Int := wordsB (accW x) ++ [boolB x.jail]
theorem formB_length (x : Acc) : (formB x).length = 33 := by unfold formB; rw [List.length_append, wordsB_length]; rfl
theorem formB_b (x : Acc) : IsB (formB x) := by
 intro y hy
 rcases List.mem_append.1 hy with hy | hy
 ·exact wordsB_b _ y hy
 ·rw [List.mem_singleton] at hy; subst hy; unfold boolB; split <;> omega
def relW (y : Rel) : List Int := [y.h, y.a, y.born, y.amt]
def relsB (r : List Rel) : List Int := r.flatMap fun y => wordsB (relW y)
theorem relsB_length (r : List Rel) : (relsB r).length = 32 * r.length := by
 induction r with
 | nil => rfl
 | cons x ws ih => show (wordsB (relW x) ++ relsB ws).length = _; rw [List.length_append, wordsB_length, ih, List.length_cons]; show 8 * 4 + _ = _; omega
theorem relsB_next {r : List Rel} {i : Nat} {x : Rel} (h : r[i]? = some x) : relsB (r.take (i + 1)) = relsB (r.take i) ++ wordsB (relW x) := by
 unfold relsB; rw [List.take_add_one, h, List.flatMap_append]; simp
/-- The rest of a ledger: rows, what was burnt, the supply. -/
def restB (r : List Rel) (bu su : Int) : List Int := word8 (r.length : Int) 8 ++ relsB r ++ word8 bu 8 ++ word8 su 8
theorem restB_length (r : List Rel) (bu su : Int) : (restB r bu su).length = 8 + 32 * r.length + 8 + 8 := by unfold restB; rw [List.length_append, List.length_append, List.length_append, word8_length, word8_length, word8_length, relsB_length]
/-- Bytes of the call's own. -/
structure Ob where
 b : Option Addr
 c : Nat
 xs : List Int
def Ob.val (u : Ob) : Value := .slice u.b u.xs.length u.c
def Ob.own (u : Ob) : HP := ownS 5 1 u.val u.xs.length (ints .u8 u.xs)
def formsOk (qs : List Ob) (l : List Acc) : Prop := qs.map Ob.xs = l.map formB ∧ ∀ u ∈ qs, u.xs.length ≤ u.c
theorem formsOk.len {qs : List Ob} {l : List Acc} (h : formsOk qs l) : qs.length = l.length := by have := congrArg List.length h.1; simpa using this
theorem formsOk.snoc {qs : List Ob} {l : List Acc} {i : Nat} {m : Acc} {u : Ob} (h : formsOk qs (l.take i)) (hm : l[i]? = some m) (hu : u.xs = formB m) (hc : u.xs.length ≤ u.c) : formsOk (qs ++ [u]) (l.take (i + 1)) := by
 refine ⟨?_, fun x hx => ?_⟩
 ·rw [List.map_append, h.1, List.take_add_one, hm, List.map_append]; simp [hu]
 ·rcases List.mem_append.1 hx with hx | hx
  ·exact h.2 x hx
  ·obtain rfl := List.mem_singleton.1 hx; exact hc
theorem fam_items {C : Cx} {F : Fx} {rs : List HP} {b : Option Addr} {c n : Nat} {qs : List Ob} (hq : ∀ u ∈ qs, u.xs.length ≤ u.c) (m1 : Has rs (fam Ob.own qs) (fam Ob.own qs) rs) (m2 : Has rs (ownS 48 1 (.slice b n c) n (qs.map Ob.val)) (ownS 48 1 (.slice b n c) n (qs.map Ob.val)) rs) : ∀ w, Now C F rs w → Items w b (qs.map Ob.val) (qs.map Ob.xs) := fun w nw => by
 refine ⟨(Sn.own m2 rfl).rw_ w nw, by simp, fun i v xs hv hx => ?_⟩
 rw [List.getElem?_map] at hv hx
 obtain ⟨u, hu, rfl⟩ := Option.map_eq_some_iff.1 hv
 rw [hu] at hx
 obtain rfl := Option.some.inj hx
 exact ⟨u.b, u.c, rfl, hq u (List.mem_of_getElem? hu), (Sn.fam m1 hu fun rs m => Sn.own m rfl).rw_ w nw⟩
theorem newW_ok {gl : Nat → Obj} : Spec (cx gl) 120 [] (fun _ _ => True) [] (fun v rs => ∃ wb, v = .pointer (some ⟨wb, 0, none⟩) ∧ rs = [blk wb [.bool true, .slice none 0 0, .int .i64 0] 263]) := by
 refine Spec.enter (C := cx gl) Tryz.func120 rfl 3 rfl rfl fun w0 h0 hsep hsub hpre => ?_
 obtain rfl : h0 = Heap.none := hsep
 show St (cx gl) _ [] _ _
 refine R_seq ?_
 refine R_region ?_
 refine L_val rfl rfl rfl (OpP.v (P_assign rfl rfl)) ?_
 refine L_nil ?_
 refine Q_then ?_
 refine R_seq ?_
 refine R_region ?_
 refine L_val rfl rfl rfl (OpP.v (P_buildStruct rfl ty_pl_263 ty_ze_263 rfl rfl (rfl))) ?_
 refine E_as (t := 1) (v' := .agg [.bool true, .slice none 0 0, .int .i64 0].toArray) rfl rfl ?_
 refine L_op rfl (W_box ([.bool true, .slice none 0 0, .int .i64 0]) rfl rfl rfl rfl rfl fun b2 => ?_)
 refine L_val rfl rfl rfl (OpP.v (P_assign rfl rfl)) ?_
 refine L_nil ?_
 refine St.env (.cons (t := 0) rfl .nil) ?_
 refine Q_then ?_
 refine R_ret ?_
 exact R_end (rs2 := _) rfl rfl (.tmp rfl .nil) (⟨_, rfl, rfl⟩) (Weak.refl _)
theorem live_ok {gl : Nat → Obj} (wb : Nat) (bv : Value) : SpecR (cx gl) 230 [.pointer (some ⟨wb, 0, none⟩)] (fun _ _ => True) [blk wb [.bool true, bv, .int .i64 0] 263] (.bool true) [blk wb [.bool true, bv, .int .i64 0] 263] := by
 refine Spec.enter (C := cx gl) Tryz.func230 rfl 18 rfl rfl fun w0 h0 hsep hsub hpre => ?_
 show St (cx gl) _ [(0, .pointer (some ⟨wb, 0, none⟩))] _ _
 refine R_seq ?_
 refine R_region ?_
 refine L_val rfl rfl rfl (OpP.v (P_assign rfl rfl)) ?_
 refine L_nil ?_
 refine Q_then ?_
 refine R_seq ?_
 refine R_region ?_
 refine L_val rfl rfl rfl (OpP.v (P_move rfl rfl)) ?_
 refine L_val rfl rfl rfl (OpP.v (P_neNil rfl ty_ptr_199 rfl rfl)) ?_
 refine L_val rfl rfl rfl (OpP.v (P_move rfl rfl)) ?_
 refine L_val rfl rfl rfl (OpP.v (P_move rfl rfl)) ?_
 refine L_val rfl rfl rfl (OpP.v (P_nil rfl rfl)) ?_
 refine L_val rfl rfl rfl (OpP.v (P_fld0 rfl ty_fl_263_0 rfl)) ?_
 refine L_val rfl rfl rfl (V_load rfl rfl ty_sc_4 (Rd.blk .h0 rfl)) ?_
 refine E_true (t := 9) rfl (rfl) ?_
 refine L_val rfl rfl rfl (OpP.v (P_pick rfl rfl rfl)) ?_
 refine L_val rfl rfl rfl (OpP.v (P_move rfl rfl)) ?_
 refine L_val rfl rfl rfl (OpP.v (P_move rfl rfl)) ?_
 refine L_val rfl rfl rfl (OpP.v (P_nil rfl rfl)) ?_
 refine L_val rfl rfl rfl (OpP.v (P_fld0 rfl ty_fl_263_2 rfl)) ?_
 refine L_val rfl rfl rfl (V_load rfl rfl ty_sc_34 (Rd.blk .h0 rfl)) ?_
 refine L_val rfl rfl rfl (OpP.v (P_eql rfl rfl rfl)) ?_
 refine E_true (t := 16) rfl (rfl) ?_
 refine L_val rfl rfl rfl (OpP.v (P_pick rfl rfl rfl)) ?_
 refine L_val rfl rfl rfl (OpP.v (P_assign rfl rfl)) ?_
 refine L_nil ?_
 refine St.env (.cons (t := 2) rfl .nil) ?_
 refine Q_then ?_
 refine R_ret ?_
 exact R_end (rs2 := _) rfl rfl (.tmp rfl .nil) (⟨rfl, rfl⟩) (Weak.refl _)
theorem put_ok {gl : Nat → Obj} (wb : Nat) (bv : Value) (n : Nat) (xs : List Int) (hn : n ≤ 100000000) (y : Int) (bb : Option Addr) (bc : Nat) (hbc : 1 ≤ bc) : Spec (cx gl) 210 [.pointer (some ⟨wb, 0, none⟩), .slice bb 1 bc] (fun w h => Seen w h bb (ints .u8 [y])) [blk wb [.bool true, bv, .int .i64 0] 263, ownS 5 1 (bv) (n) (ints .u8 (xs))] (fun v rs => v = .tuple #[] ∧ ∃ bv', rs = [blk wb [.bool true, bv', .int .i64 0] 263, ownS 5 1 (bv') (n + 1) (ints .u8 (xs ++ [y]))]) := by
 refine Spec.enter (C := cx gl) Tryz.func210 rfl 15 rfl rfl fun w0 h0 hsep hsub hpre => ?_
 show St (cx gl) _ [(0, .pointer (some ⟨wb, 0, none⟩)), (1, .slice bb 1 bc)] _ _
 refine R_seq ?_
 refine R_region ?_
 refine L_val rfl rfl rfl (OpP.v (P_move rfl rfl)) ?_
 refine L_op rfl (W_callR rfl rfl rfl rfl fn_ca_230 (live_ok wb bv) (Weak.refl _) (fun _ _ _ _ _ _ _ => trivial) ?_)
 refine E_true (t := 5) rfl (rfl) ?_
 refine L_nil ?_
 refine St.env (.cons (t := 0) rfl (.cons (t := 1) rfl (.cons (t := 5) rfl .nil))) ?_
 refine Q_then ?_
 refine R_condT rfl ?_
 refine R_region ?_
 refine L_val rfl rfl rfl (OpP.v (P_move rfl rfl)) ?_
 refine L_val rfl rfl rfl (OpP.v (P_move rfl rfl)) ?_
 refine L_val rfl rfl rfl (OpP.v (P_nil rfl rfl)) ?_
 refine L_val rfl rfl rfl (OpP.v (P_fld0 rfl ty_fl_263_1 rfl)) ?_
 refine L_val rfl rfl rfl (V_load rfl rfl ty_sc_48 (Rd.blk .h0 rfl)) ?_
 refine L_val rfl rfl rfl (OpP.v (P_move rfl rfl)) ?_
 refine L_op rfl (W_append (p := [_]) rfl rfl rfl ty_sl_48 ty_ap_48 ty_src_48 rfl rfl rfl (Src.row (news := ints .u8 [y]) (Sn.old hpre).rw_ (by rw [ints_length]; rfl) ints_one) (by omega) (by simp only [maxLen]; omega) fun v12 => ?_)
 refine St.ownForm (p := [_]) fun nb nc hnv hnc => ?_
 subst hnv
 refine L_val rfl rfl rfl (OpP.v (P_nil rfl rfl)) ?_
 refine L_val rfl rfl rfl (OpP.v (P_fld0 rfl ty_fl_263_1 rfl)) ?_
 refine L_op rfl (W_store rfl rfl rfl rfl ty_sc_48 rfl .h0 (by first | decide | (simp [ints]; done) | (simp [ints]; omega)) ?_)
 refine L_nil ?_
 refine St.env (.nil) ?_
 exact R_end0 (rs2 := _) rfl rfl (.nil) (⟨rfl, _, rfl⟩) (Weak.keep (ownS.to2 rfl (by rw [ints_append])))
theorem fixed_ok {gl : Nat → Obj} (wb : Nat) (bv : Value) (n : Nat) (xs : List Int) (hn : n ≤ 90000000) (x : Int) : Spec (cx gl) 176 [.pointer (some ⟨wb, 0, none⟩), .int .u64 x, .int .i64 8] (fun _ _ => True) [blk wb [.bool true, bv, .int .i64 0] 263, ownS 5 1 (bv) (n) (ints .u8 (xs))] (fun v rs => v = .tuple #[] ∧ ∃ bv', rs = [blk wb [.bool true, bv', .int .i64 0] 263, ownS 5 1 (bv') (n + 8) (ints .u8 (xs ++ word8 x 8))]) := by
 refine Spec.enter (C := cx gl) Tryz.func176 rfl 20 rfl rfl fun w0 h0 hsep hsub hpre => ?_
 show St (cx gl) _ [(0, .pointer (some ⟨wb, 0, none⟩)), (1, .int .u64 x), (2, .int .i64 8)] _ _
 refine R_seq ?_
 refine R_region ?_
 refine L_val rfl rfl rfl (OpP.v (P_move rfl rfl)) ?_
 refine L_val rfl rfl rfl (OpP.v (P_move rfl rfl)) ?_
 refine L_nil ?_
 refine St.env (.cons (t := 0) rfl (.cons (t := 1) rfl (.cons (t := 7) rfl (.cons (t := 8) rfl .nil)))) ?_
 refine Q_then ?_
 refine R_block ?_
 refine R_loopE (G := Nat × Value) (.cons (t := 0) rfl (.cons (t := 1) rfl (.cons (t := 7) rfl .nil))) (fun g => [(8, .int .i64 (g.1 : Int))]) (fun g => [blk wb [.bool true, g.2, .int .i64 0] 263, ownS 5 1 (g.2) (n + g.1) (ints .u8 (xs ++ word8 x g.1))]) (fun g => g.1 ≤ 8) (fun g => 8 - g.1) (0, bv) (Nat.zero_le _) (by repeat (first | exact .nil | refine .cons rfl ?_ | refine .consE rfl (by first | rfl | (congr 1; omega) | (congr 1; push_cast; omega)) ?_)) (Weak.keep (ownS.to1 rfl (by simp [word8]))) ?_
 rintro ⟨i, bv⟩ hinv
 replace hinv : i ≤ 8 := hinv
 show St (cx gl) _ ((8, .int .i64 (i : Int)) :: _) [blk wb [.bool true, bv, .int .i64 0] 263, ownS 5 1 (bv) (n + i) (ints .u8 (xs ++ word8 x i))] _
 refine R_seq ?_
 refine R_region ?_
 refine L_val rfl rfl rfl (OpP.v (P_lss rfl rfl rfl)) ?_
 refine L_nil ?_
 refine Q_then ?_
 refine R_seq ?_
 refine R_condP rfl (fun hlt => ?_) (fun hlt => ?_)
 ·skip
  refine R_skip ?_
  refine Q_then ?_
  refine R_seq ?_
  refine R_block ?_
  refine R_seq ?_
  refine R_region ?_
  refine L_val rfl rfl rfl (OpP.v (P_move rfl rfl)) ?_
  refine L_val rfl rfl rfl (OpP.v (P_assign rfl rfl)) ?_
  refine L_nil ?_
  refine Q_then ?_
  refine R_region ?_
  refine L_val rfl rfl rfl (OpP.v (P_move rfl rfl)) ?_
  refine L_val rfl rfl rfl (OpP.v (P_move rfl rfl)) ?_
  refine L_val rfl rfl rfl (OpP.v (P_move rfl rfl)) ?_
  refine L_val rfl rfl rfl (OpP.v (P_mulN rfl rfl rfl (by simp only [fits]; omega))) ?_
  refine L_val rfl rfl rfl (OpP.v (P_shr rfl rfl rfl (by omega))) ?_
  refine L_val rfl rfl rfl (OpP.v (P_conv rfl ty_int_24 ty_int_5 rfl)) ?_
  refine E_as (t := 16) (v' := .int .u8 (w8 x i)) rfl (rfl) ?_
  refine L_op rfl (W_lit (z := .nilIface) ([.int .u8 (w8 x i)]) rfl rfl rfl ty_sl_48 ty_lz_48 rfl rfl rfl (by decide) (by decide) (by simp [Value.cells]) (rfl) fun b17 => ?_)
  refine L_op rfl (W_call rfl rfl rfl rfl fn_ca_210 (put_ok wb bv (n + i) (xs ++ word8 x i) (by omega) (w8 x i) (some ⟨b17, 0, none⟩) 1 (by omega)) (Weak.pick (p := [_]) (Weak.pick (p := [_]) (Weak.keep (Weak.nil _)))) (Sn.pre (Sn.ofBlk .h0)) fun v9 rs9 ⟨e9, bv2, e8⟩ => ?_)
  subst e9; subst e8
  refine L_nil ?_
  refine St.env (.cons (t := 0) rfl (.cons (t := 1) rfl (.cons (t := 6) rfl (.cons (t := 7) rfl (.cons (t := 8) rfl (.cons (t := 9) rfl (.cons (t := 10) rfl (.cons (t := 11) rfl (.cons (t := 12) rfl (.cons (t := 13) rfl (.cons (t := 14) rfl (.cons (t := 15) rfl (.cons (t := 16) rfl (.cons (t := 17) rfl .nil)))))))))))))) ?_
  refine Q_block ?_
  refine Q_then ?_
  refine R_region ?_
  first | (refine L_val rfl rfl rfl (OpP.v (P_addN rfl rfl rfl (by simp only [fits]; omega))) ?_) | (refine L_val rfl rfl rfl (OpP.v (P_add rfl rfl rfl)) ?_)
  refine L_val rfl rfl rfl (OpP.v (P_move rfl rfl)) ?_
  refine L_nil ?_
  exact Q_round (i + 1, bv2) (by omega) (by show 8 - (i + 1) < 8 - i; omega) (by repeat (first | exact .nil | refine .cons rfl ?_ | refine .consE rfl (by first | rfl | (congr 1; omega) | (congr 1; push_cast; omega)) ?_)) (Weak.keep (Weak.trans (ownS.to1 rfl (by rw [word8_succ, ← List.append_assoc])) (Weak.keep (Weak.nil _))))
 ·skip
  obtain rfl : i = 8 := by omega
  refine R_exit ?_
  refine Q_then_exit ?_
  refine Q_then_exit ?_
  refine Q_block_eq ?_
  refine St.env (.nil) ?_
  exact R_end0 (rs2 := _) rfl rfl (.nil) (⟨rfl, _, rfl⟩) (Weak.refl _)
theorem U64_ok {gl : Nat → Obj} (wb : Nat) (bv : Value) (n : Nat) (xs : List Int) (hn : n ≤ 90000000) (x : Int) : Spec (cx gl) 121 [.pointer (some ⟨wb, 0, none⟩), .int .u64 x] (fun _ _ => True) [blk wb [.bool true, bv, .int .i64 0] 263, ownS 5 1 (bv) (n) (ints .u8 (xs))] (fun v rs => v = .tuple #[] ∧ ∃ bv', rs = [blk wb [.bool true, bv', .int .i64 0] 263, ownS 5 1 (bv') (n + 8) (ints .u8 (xs ++ word8 x 8))]) := by
 refine Spec.enter (C := cx gl) Tryz.func121 rfl 7 rfl rfl fun w0 h0 hsep hsub hpre => ?_
 show St (cx gl) _ [(0, .pointer (some ⟨wb, 0, none⟩)), (1, .int .u64 x)] _ _
 refine R_region ?_
 refine L_val rfl rfl rfl (OpP.v (P_move rfl rfl)) ?_
 refine L_val rfl rfl rfl (OpP.v (P_move rfl rfl)) ?_
 refine L_op rfl (W_call rfl rfl rfl rfl fn_ca_176 (fixed_ok wb bv n xs hn x) (Weak.refl _) (fun _ _ _ _ _ _ _ => trivial) fun v9 rs9 ⟨e9, bv2, e8⟩ => ?_)
 subst e9; subst e8
 refine L_nil ?_
 refine St.env (.nil) ?_
 exact R_end0 (rs2 := _) rfl rfl (.nil) (⟨rfl, _, rfl⟩) (Weak.refl _)
theorem wBool_ok {gl : Nat → Obj} (wb : Nat) (bv : Value) (n : Nat) (xs : List Int) (hn : n ≤ 90000000) (q : Bool) : Spec (cx gl) 172 [.pointer (some ⟨wb, 0, none⟩), .bool q] (fun _ _ => True) [blk wb [.bool true, bv, .int .i64 0] 263, ownS 5 1 (bv) (n) (ints .u8 (xs))] (fun v rs => v = .tuple #[] ∧ ∃ bv', rs = [blk wb [.bool true, bv', .int .i64 0] 263, ownS 5 1 (bv') (n + 1) (ints .u8 (xs ++ [boolB q]))]) := by
 refine Spec.enter (C := cx gl) Tryz.func172 rfl 11 rfl rfl fun w0 h0 hsep hsub hpre => ?_
 show St (cx gl) _ [(0, .pointer (some ⟨wb, 0, none⟩)), (1, .bool q)] _ _
 refine R_seq ?_
 refine R_region ?_
 refine L_val rfl rfl rfl (OpP.v (P_move rfl rfl)) ?_
 refine L_nil ?_
 refine St.env (.cons (t := 0) rfl (.cons (t := 4) rfl .nil)) ?_
 refine Q_then ?_
 refine R_cond rfl (fun hq => ?_) (fun hq => ?_)
 ·skip
  refine R_region ?_
  refine L_val rfl rfl rfl (OpP.v (P_move rfl rfl)) ?_
  refine L_op rfl (W_lit (z := .nilIface) ([.int .u8 1]) rfl rfl rfl ty_sl_48 ty_lz_48 rfl rfl rfl (by decide) (by decide) (by simp [Value.cells]) (rfl) fun b6 => ?_)
  refine L_op rfl (W_call rfl rfl rfl rfl fn_ca_210 (put_ok wb bv n xs (by omega) 1 (some ⟨b6, 0, none⟩) 1 (by omega)) (Weak.pick (p := [_]) (Weak.pick (p := [_]) (Weak.keep (Weak.nil _)))) (Sn.pre (Sn.ofBlk .h0)) fun v9 rs9 ⟨e9, bv2, e8⟩ => ?_)
  subst e9; subst e8
  refine L_nil ?_
  refine St.env (.nil) ?_
  exact R_end0 (rs2 := _) rfl rfl (.nil) (⟨rfl, _, by rw [hq]; rfl⟩) (Weak.keep (Weak.keep (Weak.nil _)))
 ·skip
  refine R_region ?_
  refine L_val rfl rfl rfl (OpP.v (P_move rfl rfl)) ?_
  refine L_op rfl (W_lit (z := .nilIface) ([.int .u8 0]) rfl rfl rfl ty_sl_48 ty_lz_48 rfl rfl rfl (by decide) (by decide) (by simp [Value.cells]) (rfl) fun b9 => ?_)
  refine L_op rfl (W_call rfl rfl rfl rfl fn_ca_210 (put_ok wb bv n xs (by omega) 0 (some ⟨b9, 0, none⟩) 1 (by omega)) (Weak.pick (p := [_]) (Weak.pick (p := [_]) (Weak.keep (Weak.nil _)))) (Sn.pre (Sn.ofBlk .h0)) fun v9 rs9 ⟨e9, bv2, e8⟩ => ?_)
  subst e9; subst e8
  refine L_nil ?_
  refine St.env (.nil) ?_
  exact R_end0 (rs2 := _) rfl rfl (.nil) (⟨rfl, _, by rw [hq]; rfl⟩) (Weak.keep (Weak.keep (Weak.nil _)))
theorem cloneB_ok {gl : Nat → Obj} (base : Option Addr) (c : Nat) (xs : List Int) (hc : xs.length ≤ c) (hx : 0 < xs.length) (hmax : xs.length ≤ 100000000) : Spec (cx gl) 177 [.slice base xs.length c] (fun w _ => Row w base (ints .u8 xs)) [] (fun v rs => rs = [ownS 5 1 (v) (xs.length) (ints .u8 (xs))]) := by
 refine Spec.enter (C := cx gl) Tryz.func177 rfl 8 rfl rfl fun w0 h0 hsep hsub hpre => ?_
 obtain rfl : h0 = Heap.none := hsep
 show St (cx gl) _ [(0, .slice base xs.length c)] _ _
 obtain ⟨pb, pj, rfl, hrow⟩ := hpre.some_ (by rw [ints_length]; exact hx)
 refine R_seq ?_
 refine R_region ?_
 refine L_val rfl rfl rfl (OpP.v (P_assign rfl rfl)) ?_
 refine L_nil ?_
 refine Q_then ?_
 refine R_seq ?_
 refine R_seq ?_
 refine R_region ?_
 refine L_val rfl rfl rfl (OpP.v (P_move rfl rfl)) ?_
 refine L_val rfl rfl rfl (OpP.v (P_eql_slice rfl ty_sl_48 rfl rfl)) ?_
 refine E_false (t := 4) rfl (rfl) ?_
 refine L_nil ?_
 refine St.env (.cons (t := 0) rfl (.cons (t := 2) rfl (.cons (t := 4) rfl .nil))) ?_
 refine Q_then ?_
 refine R_condF rfl ?_
 refine R_skip ?_
 refine Q_then ?_
 refine R_seq ?_
 refine R_region ?_
 refine L_op rfl (W_lit0 rfl rfl rfl ty_sl_48 fun b5 => ?_)
 refine St.res (rs' := [ownS 5 1 (.slice (some ⟨b5, 0, none⟩) 0 0) (0) (ints .u8 ([]))]) (Weak.turn .h0 (ownS.of_blk rfl (by decide))) ?_
 refine L_val rfl rfl rfl (OpP.v (P_move rfl rfl)) ?_
 refine L_op rfl (W_append (p := []) rfl rfl rfl ty_sl_48 ty_ap_48 ty_src_48 rfl rfl rfl (Src.row (Sn.row hpre rfl).rw_ (by rw [ints_length]; omega) ints_one) (by omega) (by simp only [maxLen]; omega) fun v7 => ?_)
 refine L_val rfl rfl rfl (OpP.v (P_assign rfl rfl)) ?_
 refine L_nil ?_
 refine St.env (.cons (t := 2) rfl .nil) ?_
 refine Q_then ?_
 refine R_ret ?_
 exact R_end (rs2 := _) rfl rfl (.tmp rfl .nil) (rfl) (ownS.to2 (by omega) (List.nil_append _))
theorem Out_ok {gl : Nat → Obj} (wb : Nat) (ub : Option Addr) (uc : Nat) (xs : List Int) (hc : xs.length ≤ uc) (hx : 0 < xs.length) (hmax : xs.length ≤ 100000000) : Spec (cx gl) 122 [.pointer (some ⟨wb, 0, none⟩)] (fun _ _ => True) [blk wb [.bool true, .slice ub xs.length uc, .int .i64 0] 263, ownS 5 1 (.slice ub xs.length uc) (xs.length) (ints .u8 (xs))] (fun v rs => ∃ u, v = .tuple #[u, .int .i64 0] ∧ rs = [ownS 5 1 (u) (xs.length) (ints .u8 (xs))]) := by
 refine Spec.enter (C := cx gl) Tryz.func122 rfl 27 rfl rfl fun w0 h0 hsep hsub hpre => ?_
 show St (cx gl) _ [(0, .pointer (some ⟨wb, 0, none⟩))] _ _
 refine R_seq ?_
 refine R_region ?_
 refine L_val rfl rfl rfl (OpP.v (P_assign rfl rfl)) ?_
 refine L_val rfl rfl rfl (OpP.v (P_assign rfl rfl)) ?_
 refine L_nil ?_
 refine Q_then ?_
 refine R_seq ?_
 refine R_seq ?_
 refine R_region ?_
 refine L_val rfl rfl rfl (OpP.v (P_move rfl rfl)) ?_
 refine L_val rfl rfl rfl (OpP.v (P_eqNil rfl ty_ptr_199 rfl rfl)) ?_
 refine L_val rfl rfl rfl (OpP.v (P_move rfl rfl)) ?_
 refine L_val rfl rfl rfl (OpP.v (P_move rfl rfl)) ?_
 refine L_val rfl rfl rfl (OpP.v (P_nil rfl rfl)) ?_
 refine L_val rfl rfl rfl (OpP.v (P_fld0 rfl ty_fl_263_0 rfl)) ?_
 refine L_val rfl rfl rfl (V_load rfl rfl ty_sc_4 (Rd.blk .h0 rfl)) ?_
 refine L_val rfl rfl rfl (OpP.v (P_not rfl rfl)) ?_
 refine E_false (t := 11) rfl (rfl) ?_
 refine L_val rfl rfl rfl (OpP.v (P_pick rfl rfl rfl)) ?_
 refine L_nil ?_
 refine St.env (.cons (t := 0) rfl (.cons (t := 2) rfl (.cons (t := 3) rfl (.cons (t := 12) rfl .nil)))) ?_
 refine Q_then ?_
 refine R_condF rfl ?_
 refine R_skip ?_
 refine Q_then ?_
 refine R_seq ?_
 refine R_seq ?_
 refine R_region ?_
 refine L_val rfl rfl rfl (OpP.v (P_move rfl rfl)) ?_
 refine L_val rfl rfl rfl (OpP.v (P_nil rfl rfl)) ?_
 refine L_val rfl rfl rfl (OpP.v (P_fld0 rfl ty_fl_263_2 rfl)) ?_
 refine L_val rfl rfl rfl (V_load rfl rfl ty_sc_34 (Rd.blk .h0 rfl)) ?_
 refine L_val rfl rfl rfl (OpP.v (P_neq rfl rfl rfl)) ?_
 refine E_false (t := 17) rfl (rfl) ?_
 refine L_nil ?_
 refine St.env (.cons (t := 0) rfl (.cons (t := 2) rfl (.cons (t := 3) rfl (.cons (t := 17) rfl .nil)))) ?_
 refine Q_then ?_
 refine R_condF rfl ?_
 refine R_skip ?_
 refine Q_then ?_
 refine R_seq ?_
 refine R_region ?_
 refine L_val rfl rfl rfl (OpP.v (P_move rfl rfl)) ?_
 refine L_val rfl rfl rfl (OpP.v (P_nil rfl rfl)) ?_
 refine L_val rfl rfl rfl (OpP.v (P_fld0 rfl ty_fl_263_1 rfl)) ?_
 refine L_val rfl rfl rfl (V_load rfl rfl ty_sc_48 (Rd.blk .h0 rfl)) ?_
 refine L_op rfl (W_call rfl rfl rfl rfl fn_ca_177 (cloneB_ok ub uc xs hc hx hmax) (Split.nil _) (fun w a b _ hb dj m => (Sn.own .h1 rfl).rw_ w ⟨_, hb, m.le (Heap.le_join_right dj)⟩) fun v1 rs1 (e1 : rs1 = _) => ?_)
 subst e1
 refine L_val rfl rfl rfl (OpP.v (P_assign rfl rfl)) ?_
 refine L_val rfl rfl rfl (OpP.v (P_assign rfl rfl)) ?_
 refine L_nil ?_
 refine St.env (.cons (t := 2) rfl (.cons (t := 3) rfl .nil)) ?_
 refine Q_then ?_
 refine R_ret ?_
 exact R_end (rs2 := _) rfl rfl (.tmp rfl (.tmp rfl .nil)) (⟨_, rfl, rfl⟩) (Weak.keep (Weak.nil _))
end Go.Proofs.YtfhjhaogmdaepaaGreatDoor

/- Walks: forms and the rest. Printed by gen.py. -/
set_option linter.unusedVariables false
set_option linter.unusedSimpArgs false
set_option maxRecDepth 100000
namespace Go.Proofs.YtfhjhaogmdaepaaGreatDoor
open Go Go.RowKit Go.Proofs
theorem form_ok {gl : Nat → Obj} (x : Acc) : Spec (cx gl) 118 [.agg x.cells.toArray] (fun _ _ => True) [] (fun v rs => rs = [ownS 5 1 (v) (33) (ints .u8 (formB x))]) := by
 refine Spec.enter (C := cx gl) Tryz.func118 rfl 35 rfl rfl fun w0 h0 hsep hsub hpre => ?_
 obtain rfl : h0 = Heap.none := hsep
 show St (cx gl) _ [(0, .agg x.cells.toArray)] _ _
 refine R_seq ?_
 refine R_region ?_
 refine L_op rfl (W_box (x.cells) rfl rfl rfl rfl rfl fun b1 => ?_)
 refine L_val rfl rfl rfl (OpP.v (P_assign rfl rfl)) ?_
 refine L_nil ?_
 refine St.env (.cons (t := 1) rfl (.cons (t := 2) rfl .nil)) ?_
 refine Q_then ?_
 refine R_seq ?_
 refine R_region ?_
 refine L_op rfl (W_call rfl rfl rfl rfl fn_ca_120 (newW_ok) (Split.nil _) (fun _ _ _ _ _ _ _ => trivial) fun v1 rs1 ⟨wb, e1, e2⟩ => ?_)
 subst e1; subst e2
 refine L_val rfl rfl rfl (OpP.v (P_assign rfl rfl)) ?_
 refine L_nil ?_
 refine St.env (.cons (t := 1) rfl (.cons (t := 2) rfl (.cons (t := 3) rfl .nil))) ?_
 refine Q_then ?_
 refine R_seq ?_
 refine R_seq ?_
 refine R_region ?_
 refine L_val rfl rfl rfl (OpP.v (P_fld0 rfl ty_fl_38_0 rfl)) ?_
 refine L_val rfl rfl rfl (V_load rfl rfl ty_sc_27 (Rd.blk .h1 rfl)) ?_
 refine L_val rfl rfl rfl (OpP.v (P_fld0 rfl ty_fl_38_1 rfl)) ?_
 refine L_val rfl rfl rfl (V_load rfl rfl ty_sc_24 (Rd.blk .h1 rfl)) ?_
 refine L_val rfl rfl rfl (OpP.v (P_fld0 rfl ty_fl_38_2 rfl)) ?_
 refine L_val rfl rfl rfl (V_load rfl rfl ty_sc_24 (Rd.blk .h1 rfl)) ?_
 refine L_val rfl rfl rfl (OpP.v (P_fld0 rfl ty_fl_38_3 rfl)) ?_
 refine L_val rfl rfl rfl (V_load rfl rfl ty_sc_24 (Rd.blk .h1 rfl)) ?_
 refine L_val rfl rfl rfl (OpP.v (P_buildArr rfl ty_ar_202 ty_ze_202 rfl rfl rfl rfl (by simp [Value.oneCell']))) ?_
 refine E_as (t := 17) (v' := .agg (ints .u64 (accW x)).toArray) rfl (rfl) ?_
 refine L_val rfl rfl rfl (OpP.v (P_move rfl rfl)) ?_
 refine L_nil ?_
 refine St.env (.cons (t := 1) rfl (.cons (t := 2) rfl (.cons (t := 3) rfl (.cons (t := 17) rfl (.cons (t := 18) rfl .nil))))) ?_
 refine Q_then ?_
 refine R_block ?_
 refine St.res (rs' := [blk wb [.bool true, .slice none 0 0, .int .i64 0] 263, ownS 5 1 (.slice none 0 0) (0) (ints .u8 ([])), blk b1 (x.cells) 38]) (Weak.keep (Weak.newNil (T := 5) (sz := 1))) ?_
 refine R_loopE (G := Nat × Value) (.cons (t := 1) rfl (.cons (t := 2) rfl (.cons (t := 3) rfl (.cons (t := 17) rfl .nil)))) (fun g => [(18, .int .i64 (g.1 : Int))]) (fun g => [blk wb [.bool true, g.2, .int .i64 0] 263, ownS 5 1 (g.2) (0 + 8 * g.1) (ints .u8 ([] ++ wordsB ((accW x).take g.1))), blk b1 (x.cells) 38]) (fun g => g.1 ≤ 4) (fun g => 4 - g.1) (0, .slice none 0 0) (Nat.zero_le _) (by repeat (first | exact .nil | refine .cons rfl ?_ | refine .consE rfl (by first | rfl | (congr 1; omega) | (congr 1; push_cast; omega)) ?_)) (Weak.refl _) ?_
 rintro ⟨j, bv⟩ hinv
 replace hinv : j ≤ 4 := hinv
 show St (cx gl) _ ((18, .int .i64 (j : Int)) :: _) [blk wb [.bool true, bv, .int .i64 0] 263, ownS 5 1 (bv) (0 + 8 * j) (ints .u8 ([] ++ wordsB ((accW x).take j))), blk b1 (x.cells) 38] _
 refine R_seq ?_
 refine R_region ?_
 refine L_val rfl rfl rfl (OpP.v (P_lss rfl rfl rfl)) ?_
 refine L_nil ?_
 refine Q_then ?_
 refine R_seq ?_
 refine R_condP rfl (fun hlt => ?_) (fun hlt => ?_)
 ·skip
  have hj : j < (accW x).length := by show j < 4; omega
  obtain ⟨y, hw⟩ : ∃ y, (accW x)[j]? = some y := ⟨_, List.getElem?_eq_getElem hj⟩
  refine R_skip ?_
  refine Q_then ?_
  refine R_seq ?_
  refine R_block ?_
  refine R_seq ?_
  refine R_region ?_
  refine L_val rfl rfl rfl (OpP.v (P_index (j) rfl ty_ar_202 ty_sc_24 rfl rfl (by first | rfl | omega) (by omega) (show (ints .u64 (accW x))[j]? = some (.int .u64 y) by simp [ints, hw]))) ?_
  refine L_val rfl rfl rfl (OpP.v (P_assign rfl rfl)) ?_
  refine L_nil ?_
  refine Q_then ?_
  refine R_region ?_
  refine L_val rfl rfl rfl (OpP.v (P_move rfl rfl)) ?_
  refine L_val rfl rfl rfl (OpP.v (P_move rfl rfl)) ?_
  refine L_op rfl (W_call rfl rfl rfl rfl fn_ca_121 (U64_ok wb (bv) (0 + 8 * j) ([] ++ wordsB ((accW x).take j)) (by omega) (y)) (Weak.refl _) (fun _ _ _ _ _ _ _ => trivial) fun v2 rs2 ⟨ea2, bv2, eb2⟩ => ?_)
  subst ea2; subst eb2
  refine L_nil ?_
  refine St.env (.cons (t := 1) rfl (.cons (t := 2) rfl (.cons (t := 3) rfl (.cons (t := 5) rfl (.cons (t := 17) rfl (.cons (t := 18) rfl (.cons (t := 19) rfl (.cons (t := 20) rfl (.cons (t := 21) rfl (.cons (t := 22) rfl .nil)))))))))) ?_
  refine Q_block ?_
  refine Q_then ?_
  refine R_region ?_
  first | (refine L_val rfl rfl rfl (OpP.v (P_addN rfl rfl rfl (by simp only [fits]; omega))) ?_) | (refine L_val rfl rfl rfl (OpP.v (P_add rfl rfl rfl)) ?_)
  refine L_val rfl rfl rfl (OpP.v (P_move rfl rfl)) ?_
  refine L_nil ?_
  exact Q_round (j + 1, bv2) (by omega) (by show 4 - (j + 1) < 4 - j; omega) (by repeat (first | exact .nil | refine .cons rfl ?_ | refine .consE rfl (by first | rfl | (congr 1; omega) | (congr 1; push_cast; omega)) ?_)) (Weak.keep (ownS.to1 (by omega) (by rw [wordsB_next hw, ← List.append_assoc])))
 ·skip
  obtain rfl : j = 4 := by omega
  refine R_exit ?_
  refine Q_then_exit ?_
  refine Q_then_exit ?_
  refine Q_block_eq ?_
  refine St.env (.cons (t := 1) rfl (.cons (t := 2) rfl (.cons (t := 3) rfl .nil))) ?_
  refine Q_then ?_
  refine R_seq ?_
  refine R_region ?_
  refine L_val rfl rfl rfl (OpP.v (P_move rfl rfl)) ?_
  refine L_val rfl rfl rfl (OpP.v (P_fld0 rfl ty_fl_38_4 rfl)) ?_
  refine L_val rfl rfl rfl (V_load rfl rfl ty_sc_4 (Rd.blk .h2 rfl)) ?_
  refine L_op rfl (W_call rfl rfl rfl rfl fn_ca_172 (wBool_ok wb bv (0 + 8 * 4) ([] ++ wordsB ((accW x).take 4)) (by omega) x.jail) (Weak.refl _) (fun _ _ _ _ _ _ _ => trivial) fun v3 rs3 ⟨e5, bv3, e6⟩ => ?_)
  subst e5; subst e6
  refine St.ownForm (p := [_]) fun ob oc hov hoc => ?_
  subst hov
  have hfl := formB_length x
  refine St.res (rs' := [blk wb [.bool true, .slice ob (formB x).length oc, .int .i64 0] 263, ownS 5 1 (.slice ob (formB x).length oc) ((formB x).length) (ints .u8 (formB x)), blk b1 (x.cells) 38]) (by rw [hfl]; exact Weak.refl _) ?_
  refine L_nil ?_
  refine St.env (.cons (t := 2) rfl (.cons (t := 3) rfl .nil)) ?_
  refine Q_then ?_
  refine R_seq ?_
  refine R_region ?_
  refine L_val rfl rfl rfl (OpP.v (P_move rfl rfl)) ?_
  refine L_op rfl (W_call rfl rfl rfl rfl fn_ca_122 (Out_ok wb ob oc (formB x) (by omega) (by omega) (by omega)) (Weak.refl _) (fun _ _ _ _ _ _ _ => trivial) fun v4 rs4 ⟨u, e7, e8⟩ => ?_)
  subst e7; subst e8
  refine L_val rfl rfl rfl (OpP.v (P_move rfl rfl)) ?_
  refine L_val rfl rfl rfl (OpP.v (P_extract rfl rfl rfl)) ?_
  refine L_val rfl rfl rfl (OpP.v (P_extract rfl rfl rfl)) ?_
  refine L_val rfl rfl rfl (OpP.v (P_assign rfl rfl)) ?_
  refine L_val rfl rfl rfl (OpP.v (P_assign rfl rfl)) ?_
  refine L_nil ?_
  refine St.env (.cons (t := 2) rfl (.cons (t := 6) rfl .nil)) ?_
  refine Q_then ?_
  refine R_seq ?_
  refine R_region ?_
  refine L_val rfl rfl rfl (OpP.v (P_move rfl rfl)) ?_
  refine L_val rfl rfl rfl (OpP.v (P_assign rfl rfl)) ?_
  refine L_nil ?_
  refine St.env (.cons (t := 2) rfl .nil) ?_
  refine Q_then ?_
  refine R_ret ?_
  exact R_end (rs2 := _) rfl rfl (.tmp rfl .nil) (by rw [hfl]; rfl) (Weak.keep (Weak.nil _))
theorem forms_ok {gl : Nat → Obj} (base : Option Addr) (c : Nat) (l : List Acc) (hc : l.length ≤ c) (hm : l.length ≤ 65536) (r : Value) (hr : r.oneCell' = true) (bu su : Int) : Spec (cx gl) 52 [.agg (ledV (.slice base l.length c) r bu su).toArray] (fun w _ => Row w base (rc l)) [] (fun v rs => ∃ qs : List Ob, formsOk qs l ∧ rs = [fam Ob.own qs, ownS 48 1 (v) (l.length) (qs.map Ob.val)]) := by
 refine Spec.enter (C := cx gl) Tryz.func52 rfl 20 rfl rfl fun w0 h0 hsep hsub hpre => ?_
 obtain rfl : h0 = Heap.none := hsep
 show St (cx gl) _ [(0, .agg (ledV (.slice base l.length c) r bu su).toArray)] _ _
 refine R_seq ?_
 refine R_region ?_
 refine L_op rfl (W_box (ledV (.slice base l.length c) r bu su) rfl rfl rfl rfl rfl fun b1 => ?_)
 refine L_val rfl rfl rfl (OpP.v (P_assign rfl rfl)) ?_
 refine L_nil ?_
 refine St.env (.cons (t := 1) rfl (.cons (t := 2) rfl .nil)) ?_
 refine Q_then ?_
 refine R_seq ?_
 refine R_region ?_
 refine L_val rfl rfl rfl (OpP.v (P_assign rfl rfl)) ?_
 refine L_nil ?_
 refine Q_then ?_
 refine R_seq ?_
 refine R_seq ?_
 refine R_region ?_
 refine L_val rfl rfl rfl (OpP.v (P_fld0 rfl ty_fl_26_0 rfl)) ?_
 refine L_val rfl rfl rfl (V_load rfl rfl ty_sc_22 (Rd.blk .h0 rfl)) ?_
 refine L_val rfl rfl rfl (OpP.v (P_len rfl ty_sl_22 rfl)) ?_
 refine L_val rfl rfl rfl (OpP.v (P_move rfl rfl)) ?_
 refine L_nil ?_
 refine St.env (.cons (t := 2) rfl (.cons (t := 3) rfl (.cons (t := 7) rfl (.cons (t := 8) rfl (.cons (t := 9) rfl .nil))))) ?_
 refine Q_then ?_
 refine R_block ?_
 refine R_loopE (G := Nat × List Ob × Value) (.cons (t := 2) rfl (.cons (t := 7) rfl (.cons (t := 8) rfl .nil))) (fun g => [(3, g.2.2), (9, .int .i64 (g.1 : Int))]) (fun g => [fam Ob.own g.2.1, ownS 48 1 (g.2.2) (g.1) (g.2.1.map Ob.val), blk b1 (ledV (.slice base l.length c) r bu su) 26]) (fun g => g.1 ≤ l.length ∧ formsOk g.2.1 (l.take g.1)) (fun g => l.length - g.1) (0, [], .slice none 0 0) (by show (0) ≤ l.length ∧ formsOk ([]) (l.take (0)); exact ⟨Nat.zero_le _, rfl, fun u hu => by cases hu⟩) (by repeat (first | exact .nil | refine .cons rfl ?_ | refine .consE rfl (by first | rfl | (congr 1; omega) | (congr 1; push_cast; omega)) ?_)) (Weak.trans (Weak.newNil (T := 48) (sz := 1)) (Weak.famNil (f := Ob.own))) ?_
 rintro ⟨i, qs, v⟩ hinv
 replace hinv : i ≤ l.length ∧ formsOk qs (l.take i) := hinv
 show St (cx gl) _ ((3, v) :: (9, .int .i64 (i : Int)) :: _) [fam Ob.own qs, ownS 48 1 (v) (i) (qs.map Ob.val), blk b1 (ledV (.slice base l.length c) r bu su) 26] _
 obtain ⟨hi, hq⟩ := hinv
 refine R_seq ?_
 refine R_region ?_
 refine L_val rfl rfl rfl (OpP.v (P_lss rfl rfl rfl)) ?_
 refine L_nil ?_
 refine Q_then ?_
 refine R_seq ?_
 refine R_condP rfl (fun hlt => ?_) (fun hlt => ?_)
 ·skip
  have hx0 := accAt_get (l := l) (i := i) (by omega)
  obtain ⟨x, ex⟩ : ∃ x, x = accAt l i := ⟨_, rfl⟩
  have hx : l[i]? = some x := by rw [ex]; exact hx0
  obtain ⟨pb, pj, rfl, hrow⟩ := hpre.some_ (by rw [rc_length]; show 0 < _ * 5; omega)
  refine R_skip ?_
  refine Q_then ?_
  refine R_seq ?_
  refine R_block ?_
  refine R_seq ?_
  refine R_region ?_
  refine L_val rfl rfl rfl (OpP.v (P_ixs (i) rfl ty_sl_22 rfl rfl (by first | rfl | omega) (by omega))) ?_
  refine L_val rfl rfl rfl (V_loadAgg rfl rfl ty_ag_38 (rds_rc (Rds.row hrow rfl) hx) (rfl)) ?_
  refine L_op rfl (W_alloc rfl rfl rfl ty_ze_38 fun b5 => ?_)
  refine L_op rfl (W_storeAll rfl rfl rfl rfl ty_ag_38 (rfl) (Rec.one x) .h0 (rfl) ?_)
  refine L_nil ?_
  refine Q_then ?_
  refine R_region ?_
  refine L_val rfl rfl rfl (OpP.v (P_move rfl rfl)) ?_
  refine L_val rfl rfl rfl (V_loadAgg rfl rfl ty_ag_38 (Rds.blk .h0) (rfl)) ?_
  refine L_op rfl (W_call rfl rfl rfl rfl fn_ca_118 (form_ok x) (Split.nil _) (fun _ _ _ _ _ _ _ => trivial) fun v1 rs1 (e1 : rs1 = _) => ?_)
  subst e1
  have hfl := formB_length x
  refine St.ownForm (p := []) fun ub uc huv huc => ?_
  subst huv
  have huc : (formB x).length ≤ uc := by rw [hfl]; exact huc
  rw [← hfl]
  refine L_op rfl (W_lit (z := .nilIface) ([.slice ub (formB x).length uc]) rfl rfl rfl ty_sl_42 ty_lz_42 rfl rfl rfl (by decide) (by decide) (by simp [Value.cells]) (rfl) fun b16 => ?_)
  refine L_op rfl (W_append (p := [_, _, _, _]) rfl rfl rfl ty_sl_42 ty_ap_42 ty_src_42 rfl rfl rfl (Src.slice (sz := 1) (m := 1) (news := [.slice ub (formB x).length uc]) (Rds.blk .h0) rfl (by intro v hv; simp only [List.mem_singleton] at hv; subst hv; rfl)) (by omega) (by simp only [maxLen]; omega) fun v17 => ?_)
  refine L_val rfl rfl rfl (OpP.v (P_assign rfl rfl)) ?_
  refine L_nil ?_
  refine Q_block ?_
  refine Q_then ?_
  refine R_region ?_
  first | (refine L_val rfl rfl rfl (OpP.v (P_addN rfl rfl rfl (by simp only [fits]; omega))) ?_) | (refine L_val rfl rfl rfl (OpP.v (P_add rfl rfl rfl)) ?_)
  refine L_val rfl rfl rfl (OpP.v (P_move rfl rfl)) ?_
  refine L_nil ?_
  exact Q_round (i + 1, qs ++ [Ob.mk ub uc (formB x)], v17) (by show (i + 1) ≤ l.length ∧ formsOk (qs ++ [Ob.mk ub uc (formB x)]) (l.take (i + 1)); exact ⟨by omega, hq.snoc hx rfl huc⟩) (by show l.length - (i + 1) < l.length - i; omega) (by repeat (first | exact .nil | refine .cons rfl ?_ | refine .consE rfl (by first | rfl | (congr 1; omega) | (congr 1; push_cast; omega)) ?_)) (Weak.drop (Weak.trans (Weak.keep (Weak.pick (p := [_]) (Weak.pick (p := [_]) (Weak.pick (p := [_]) (Weak.nil _))))) (Weak.trans (Weak.famAdd (f := Ob.own) (x := Ob.mk ub uc (formB x))) (Weak.keep (ownS.to1 rfl (by rw [List.map_append]; rfl))))))
 ·skip
  have hin : i = l.length := by omega
  refine R_exit ?_
  refine Q_then_exit ?_
  refine Q_then_exit ?_
  refine Q_block_eq ?_
  refine St.env (.cons (t := 2) rfl (.cons (t := 3) rfl .nil)) ?_
  refine Q_then ?_
  refine R_seq ?_
  refine R_region ?_
  refine L_val rfl rfl rfl (OpP.v (P_move rfl rfl)) ?_
  refine L_val rfl rfl rfl (OpP.v (P_assign rfl rfl)) ?_
  refine L_nil ?_
  refine St.env (.cons (t := 2) rfl .nil) ?_
  refine Q_then ?_
  refine R_ret ?_
  exact R_end (rs2 := _) rfl rfl (.tmp rfl .nil) (⟨qs, by rw [hin, List.take_length] at hq; exact hq, rfl⟩) (Weak.keep (ownS.to2 hin rfl))
theorem rest_ok {gl : Nat → Obj} (hG : Globs gl) (a : Value) (ha : a.oneCell' = true) (base' : Option Addr) (c' : Nat) (r : List Rel) (hc' : r.length ≤ c') (hm' : r.length ≤ 65536) (bu su : Int) : SpecV (cx gl) 54 [.agg (ledV a (.slice base' r.length c') bu su).toArray] (fun w => Row w base' (rc r)) (.agg (ints .u8 (sha (restB r bu su))).toArray) := by
 refine Spec.enter (C := cx gl) Tryz.func54 rfl 56 rfl rfl fun w0 h0 hsep hsub hpre => ?_
 obtain rfl : h0 = Heap.none := hsep
 show St (cx gl) _ [(0, .agg (ledV a (.slice base' r.length c') bu su).toArray)] _ _
 refine R_seq ?_
 refine R_region ?_
 refine L_op rfl (W_box (ledV a (.slice base' r.length c') bu su) rfl rfl rfl rfl rfl fun b1 => ?_)
 refine L_op rfl (W_alloc rfl rfl rfl ty_ze_29 fun b2 => ?_)
 refine L_nil ?_
 refine St.env (.cons (t := 1) rfl (.cons (t := 2) rfl .nil)) ?_
 refine Q_then ?_
 refine R_seq ?_
 refine R_region ?_
 refine L_op rfl (W_call rfl rfl rfl rfl fn_ca_120 (newW_ok) (Split.nil _) (fun _ _ _ _ _ _ _ => trivial) fun v1 rs1 ⟨wb, e1, e2⟩ => ?_)
 subst e1; subst e2
 refine L_val rfl rfl rfl (OpP.v (P_assign rfl rfl)) ?_
 refine L_nil ?_
 refine St.env (.cons (t := 1) rfl (.cons (t := 2) rfl (.cons (t := 3) rfl .nil))) ?_
 refine Q_then ?_
 refine R_seq ?_
 refine St.res (rs' := [blk wb [.bool true, .slice none 0 0, .int .i64 0] 263, ownS 5 1 (.slice none 0 0) (0) (ints .u8 ([])), blk b2 (List.replicate 32 (.int .u8 0)) 29, blk b1 (ledV a (.slice base' r.length c') bu su) 26]) (Weak.keep (Weak.newNil (T := 5) (sz := 1))) ?_
 refine R_region ?_
 refine L_val rfl rfl rfl (OpP.v (P_move rfl rfl)) ?_
 refine L_val rfl rfl rfl (OpP.v (P_fld0 rfl ty_fl_26_1 rfl)) ?_
 refine L_val rfl rfl rfl (V_load rfl rfl ty_sc_23 (Rd.blk .h3 rfl)) ?_
 refine L_val rfl rfl rfl (OpP.v (P_len rfl ty_sl_23 rfl)) ?_
 refine L_val rfl rfl rfl (OpP.v (P_convN rfl ty_int_3 ty_int_24 rfl (by simp only [fits]; omega))) ?_
 refine L_op rfl (W_call rfl rfl rfl rfl fn_ca_121 (U64_ok wb (.slice none 0 0) (0) ([]) (by omega) ((r.length : Int))) (Weak.refl _) (fun _ _ _ _ _ _ _ => trivial) fun v2 rs2 ⟨ea2, bv2, eb2⟩ => ?_)
 subst ea2; subst eb2
 refine L_nil ?_
 refine St.env (.cons (t := 1) rfl (.cons (t := 2) rfl (.cons (t := 3) rfl .nil))) ?_
 refine Q_then ?_
 refine R_seq ?_
 refine R_seq ?_
 refine R_region ?_
 refine L_val rfl rfl rfl (OpP.v (P_fld0 rfl ty_fl_26_1 rfl)) ?_
 refine L_val rfl rfl rfl (V_load rfl rfl ty_sc_23 (Rd.blk .h3 rfl)) ?_
 refine L_val rfl rfl rfl (OpP.v (P_len rfl ty_sl_23 rfl)) ?_
 refine L_val rfl rfl rfl (OpP.v (P_move rfl rfl)) ?_
 refine L_nil ?_
 refine St.env (.cons (t := 1) rfl (.cons (t := 2) rfl (.cons (t := 3) rfl (.cons (t := 18) rfl (.cons (t := 19) rfl (.cons (t := 20) rfl .nil)))))) ?_
 refine Q_then ?_
 refine R_block ?_
 refine R_loopE (G := Nat × Value) (.cons (t := 1) rfl (.cons (t := 2) rfl (.cons (t := 3) rfl (.cons (t := 18) rfl (.cons (t := 19) rfl .nil))))) (fun g => [(20, .int .i64 (g.1 : Int))]) (fun g => [blk wb [.bool true, g.2, .int .i64 0] 263, ownS 5 1 (g.2) (8 + 32 * g.1) (ints .u8 (word8 (r.length : Int) 8 ++ relsB (r.take (g.1)))), blk b2 (List.replicate 32 (.int .u8 0)) 29, blk b1 (ledV a (.slice base' r.length c') bu su) 26]) (fun g => g.1 ≤ r.length) (fun g => r.length - g.1) (0, bv2) (Nat.zero_le _) (by repeat (first | exact .nil | refine .cons rfl ?_ | refine .consE rfl (by first | rfl | (congr 1; omega) | (congr 1; push_cast; omega)) ?_)) (Weak.keep (ownS.to1 rfl (by simp [relsB]))) ?_
 rintro ⟨i, bv⟩ hinv
 replace hinv : i ≤ r.length := hinv
 show St (cx gl) _ ((20, .int .i64 (i : Int)) :: _) [blk wb [.bool true, bv, .int .i64 0] 263, ownS 5 1 (bv) (8 + 32 * i) (ints .u8 (word8 (r.length : Int) 8 ++ relsB (r.take (i)))), blk b2 (List.replicate 32 (.int .u8 0)) 29, blk b1 (ledV a (.slice base' r.length c') bu su) 26] _
 refine R_seq ?_
 refine R_region ?_
 refine L_val rfl rfl rfl (OpP.v (P_lss rfl rfl rfl)) ?_
 refine L_nil ?_
 refine Q_then ?_
 refine R_seq ?_
 refine R_condP rfl (fun hlt => ?_) (fun hlt => ?_)
 ·skip
  have hi : i ≤ r.length := hinv
  have hx0 := relAt_get (l := r) (i := i) (by omega)
  obtain ⟨x, ex⟩ : ∃ x, x = relAt r i := ⟨_, rfl⟩
  have hx : r[i]? = some x := by rw [ex]; exact hx0
  obtain ⟨pb, pj, rfl, hrow⟩ := hpre.some_ (by rw [rc_length]; show 0 < _ * 4; omega)
  refine R_skip ?_
  refine Q_then ?_
  refine R_seq ?_
  refine R_block ?_
  refine R_seq ?_
  refine R_region ?_
  refine L_val rfl rfl rfl (OpP.v (P_ixs (i) rfl ty_sl_23 rfl rfl (by first | rfl | omega) (by omega))) ?_
  refine L_val rfl rfl rfl (V_loadAgg rfl rfl ty_ag_135 (rds_rc (Rds.row hrow rfl) hx) (rfl)) ?_
  refine L_op rfl (W_alloc rfl rfl rfl ty_ze_135 fun b5 => ?_)
  refine L_op rfl (W_storeAll rfl rfl rfl rfl ty_ag_135 (rfl) (Rec.one x) .h0 (rfl) ?_)
  refine St.res (rs' := [blk wb [.bool true, bv, .int .i64 0] 263, ownS 5 1 (bv) (8 + 32 * i) (ints .u8 (word8 (r.length : Int) 8 ++ relsB (r.take (i)))), blk b5 (x.cells) 135, blk b2 (List.replicate 32 (.int .u8 0)) 29, blk b1 (ledV a (.slice (some ⟨pb, pj, none⟩) r.length c') bu su) 26]) (Weak.pick (p := [_]) (Weak.pick (p := [_]) (Weak.keep (Weak.keep (Weak.keep (Weak.nil _)))))) ?_
  refine L_nil ?_
  refine Q_then ?_
  refine R_seq ?_
  refine R_region ?_
  refine L_val rfl rfl rfl (OpP.v (P_fld0 rfl ty_fl_135_0 rfl)) ?_
  refine L_val rfl rfl rfl (V_load rfl rfl ty_sc_24 (Rd.blk .h2 rfl)) ?_
  refine L_val rfl rfl rfl (OpP.v (P_fld0 rfl ty_fl_135_1 rfl)) ?_
  refine L_val rfl rfl rfl (V_load rfl rfl ty_sc_27 (Rd.blk .h2 rfl)) ?_
  refine L_val rfl rfl rfl (OpP.v (P_fld0 rfl ty_fl_135_2 rfl)) ?_
  refine L_val rfl rfl rfl (V_load rfl rfl ty_sc_24 (Rd.blk .h2 rfl)) ?_
  refine L_val rfl rfl rfl (OpP.v (P_fld0 rfl ty_fl_135_3 rfl)) ?_
  refine L_val rfl rfl rfl (V_load rfl rfl ty_sc_24 (Rd.blk .h2 rfl)) ?_
  refine L_val rfl rfl rfl (OpP.v (P_buildArr rfl ty_ar_202 ty_ze_202 rfl rfl rfl rfl (by simp [Value.oneCell']))) ?_
  refine E_as (t := 32) (v' := .agg (ints .u64 (relW x)).toArray) rfl (rfl) ?_
  refine L_val rfl rfl rfl (OpP.v (P_move rfl rfl)) ?_
  refine L_nil ?_
  refine Q_then ?_
  refine R_block ?_
  refine R_loopE (G := Nat × Value) (.cons (t := 1) rfl (.cons (t := 2) rfl (.cons (t := 3) rfl (.cons (t := 5) rfl (.cons (t := 18) rfl (.cons (t := 19) rfl (.cons (t := 20) rfl (.cons (t := 21) rfl (.cons (t := 22) rfl (.cons (t := 23) rfl (.cons (t := 24) rfl (.cons (t := 25) rfl (.cons (t := 26) rfl (.cons (t := 27) rfl (.cons (t := 28) rfl (.cons (t := 29) rfl (.cons (t := 30) rfl (.cons (t := 31) rfl (.cons (t := 32) rfl .nil))))))))))))))))))) (fun g => [(33, .int .i64 (g.1 : Int))]) (fun g => [blk wb [.bool true, g.2, .int .i64 0] 263, ownS 5 1 (g.2) (8 + 32 * i + 8 * g.1) (ints .u8 (word8 (r.length : Int) 8 ++ relsB (r.take (i)) ++ wordsB ((relW x).take g.1))), blk b5 (x.cells) 135, blk b2 (List.replicate 32 (.int .u8 0)) 29, blk b1 (ledV a (.slice (some ⟨pb, pj, none⟩) r.length c') bu su) 26]) (fun g => g.1 ≤ 4) (fun g => 4 - g.1) (0, bv) (Nat.zero_le _) (by repeat (first | exact .nil | refine .cons rfl ?_ | refine .consE rfl (by first | rfl | (congr 1; omega) | (congr 1; push_cast; omega)) ?_)) (Weak.keep (ownS.to1 rfl (by simp [wordsB]))) ?_
  rintro ⟨j, bv⟩ hinv
  replace hinv : j ≤ 4 := hinv
  show St (cx gl) _ ((33, .int .i64 (j : Int)) :: _) [blk wb [.bool true, bv, .int .i64 0] 263, ownS 5 1 (bv) (8 + 32 * i + 8 * j) (ints .u8 (word8 (r.length : Int) 8 ++ relsB (r.take (i)) ++ wordsB ((relW x).take j))), blk b5 (x.cells) 135, blk b2 (List.replicate 32 (.int .u8 0)) 29, blk b1 (ledV a (.slice (some ⟨pb, pj, none⟩) r.length c') bu su) 26] _
  refine R_seq ?_
  refine R_region ?_
  refine L_val rfl rfl rfl (OpP.v (P_lss rfl rfl rfl)) ?_
  refine L_nil ?_
  refine Q_then ?_
  refine R_seq ?_
  refine R_condP rfl (fun hlt2 => ?_) (fun hlt2 => ?_)
  ·skip
   have hj : j < (relW x).length := by show j < 4; omega
   obtain ⟨y, hw⟩ : ∃ y, (relW x)[j]? = some y := ⟨_, List.getElem?_eq_getElem hj⟩
   refine R_skip ?_
   refine Q_then ?_
   refine R_seq ?_
   refine R_block ?_
   refine R_seq ?_
   refine R_region ?_
   refine L_val rfl rfl rfl (OpP.v (P_index (j) rfl ty_ar_202 ty_sc_24 rfl rfl (by first | rfl | omega) (by omega) (show (ints .u64 (relW x))[j]? = some (.int .u64 y) by simp [ints, hw]))) ?_
   refine L_val rfl rfl rfl (OpP.v (P_assign rfl rfl)) ?_
   refine L_nil ?_
   refine Q_then ?_
   refine R_region ?_
   refine L_val rfl rfl rfl (OpP.v (P_move rfl rfl)) ?_
   refine L_val rfl rfl rfl (OpP.v (P_move rfl rfl)) ?_
   refine L_op rfl (W_call rfl rfl rfl rfl fn_ca_121 (U64_ok wb (bv) (8 + 32 * i + 8 * j) (word8 (r.length : Int) 8 ++ relsB (r.take (i)) ++ wordsB ((relW x).take j)) (by omega) (y)) (Weak.refl _) (fun _ _ _ _ _ _ _ => trivial) fun v2 rs2 ⟨ea2, bv2, eb2⟩ => ?_)
   subst ea2; subst eb2
   refine L_nil ?_
   refine St.env (.cons (t := 1) rfl (.cons (t := 2) rfl (.cons (t := 3) rfl (.cons (t := 5) rfl (.cons (t := 7) rfl (.cons (t := 18) rfl (.cons (t := 19) rfl (.cons (t := 20) rfl (.cons (t := 21) rfl (.cons (t := 22) rfl (.cons (t := 23) rfl (.cons (t := 24) rfl (.cons (t := 25) rfl (.cons (t := 26) rfl (.cons (t := 27) rfl (.cons (t := 28) rfl (.cons (t := 29) rfl (.cons (t := 30) rfl (.cons (t := 31) rfl (.cons (t := 32) rfl (.cons (t := 33) rfl (.cons (t := 34) rfl (.cons (t := 35) rfl (.cons (t := 36) rfl (.cons (t := 37) rfl .nil))))))))))))))))))))))))) ?_
   refine Q_block ?_
   refine Q_then ?_
   refine R_region ?_
   first | (refine L_val rfl rfl rfl (OpP.v (P_addN rfl rfl rfl (by simp only [fits]; omega))) ?_) | (refine L_val rfl rfl rfl (OpP.v (P_add rfl rfl rfl)) ?_)
   refine L_val rfl rfl rfl (OpP.v (P_move rfl rfl)) ?_
   refine L_nil ?_
   exact Q_round (j + 1, bv2) (by omega) (by show 4 - (j + 1) < 4 - j; omega) (by repeat (first | exact .nil | refine .cons rfl ?_ | refine .consE rfl (by first | rfl | (congr 1; omega) | (congr 1; push_cast; omega)) ?_)) (Weak.keep (ownS.to1 (by omega) (by rw [wordsB_next hw, ← List.append_assoc])))
  ·skip
   obtain rfl : j = 4 := by omega
   refine R_exit ?_
   refine Q_then_exit ?_
   refine Q_then_exit ?_
   refine Q_block_eq ?_
   refine Q_block ?_
   refine Q_then ?_
   refine R_region ?_
   first | (refine L_val rfl rfl rfl (OpP.v (P_addN rfl rfl rfl (by simp only [fits]; omega))) ?_) | (refine L_val rfl rfl rfl (OpP.v (P_add rfl rfl rfl)) ?_)
   refine L_val rfl rfl rfl (OpP.v (P_move rfl rfl)) ?_
   refine L_nil ?_
   exact Q_round (i + 1, bv) (by omega) (by show r.length - (i + 1) < r.length - i; omega) (by repeat (first | exact .nil | refine .cons rfl ?_ | refine .consE rfl (by first | rfl | (congr 1; omega) | (congr 1; push_cast; omega)) ?_)) (Weak.keep (Weak.trans (ownS.to1 (by omega) (by rw [relsB_next hx, ← List.append_assoc]; rfl)) (Weak.keep (Weak.drop (Weak.refl _)))))
 ·skip
  have hi : i ≤ r.length := hinv
  have hin : i = r.length := by omega
  subst hin
  rw [List.take_length]
  refine R_exit ?_
  refine Q_then_exit ?_
  refine Q_then_exit ?_
  refine Q_block_eq ?_
  refine St.env (.cons (t := 1) rfl (.cons (t := 2) rfl (.cons (t := 3) rfl .nil))) ?_
  refine Q_then ?_
  refine R_seq ?_
  refine R_region ?_
  refine L_val rfl rfl rfl (OpP.v (P_move rfl rfl)) ?_
  refine L_val rfl rfl rfl (OpP.v (P_fld0 rfl ty_fl_26_2 rfl)) ?_
  refine L_val rfl rfl rfl (V_load rfl rfl ty_sc_24 (Rd.blk .h3 rfl)) ?_
  refine L_op rfl (W_call rfl rfl rfl rfl fn_ca_121 (U64_ok wb (bv) (8 + 32 * r.length) (word8 (r.length : Int) 8 ++ relsB r) (by omega) (bu)) (Weak.refl _) (fun _ _ _ _ _ _ _ => trivial) fun v5 rs5 ⟨ea5, bv5, eb5⟩ => ?_)
  subst ea5; subst eb5
  refine L_nil ?_
  refine St.env (.cons (t := 1) rfl (.cons (t := 2) rfl (.cons (t := 3) rfl .nil))) ?_
  refine Q_then ?_
  refine R_seq ?_
  refine R_region ?_
  refine L_val rfl rfl rfl (OpP.v (P_move rfl rfl)) ?_
  refine L_val rfl rfl rfl (OpP.v (P_fld0 rfl ty_fl_26_3 rfl)) ?_
  refine L_val rfl rfl rfl (V_load rfl rfl ty_sc_24 (Rd.blk .h3 rfl)) ?_
  refine L_op rfl (W_call rfl rfl rfl rfl fn_ca_121 (U64_ok wb (bv5) (8 + 32 * r.length + 8) (word8 (r.length : Int) 8 ++ relsB r ++ word8 bu 8) (by omega) (su)) (Weak.refl _) (fun _ _ _ _ _ _ _ => trivial) fun v6 rs6 ⟨ea6, bv6, eb6⟩ => ?_)
  subst ea6; subst eb6
  refine St.ownForm (p := [_]) fun ob oc hov hoc => ?_
  subst hov
  have hrl := restB_length r bu su
  refine St.res (rs' := [blk wb [.bool true, .slice ob (restB r bu su).length oc, .int .i64 0] 263, ownS 5 1 (.slice ob (restB r bu su).length oc) ((restB r bu su).length) (ints .u8 (restB r bu su)), blk b2 (List.replicate 32 (.int .u8 0)) 29, blk b1 (ledV a (.slice base' r.length c') bu su) 26]) (by rw [hrl]; exact Weak.refl _) ?_
  refine L_nil ?_
  refine St.env (.cons (t := 2) rfl (.cons (t := 3) rfl .nil)) ?_
  refine Q_then ?_
  refine R_seq ?_
  refine R_region ?_
  refine L_val rfl rfl rfl (OpP.v (P_move rfl rfl)) ?_
  refine L_op rfl (W_call rfl rfl rfl rfl fn_ca_122 (Out_ok wb ob oc (restB r bu su) (by omega) (by omega) (by omega)) (Weak.refl _) (fun _ _ _ _ _ _ _ => trivial) fun v4 rs4 ⟨u, e7, e8⟩ => ?_)
  subst e7; subst e8
  refine St.ownForm (p := []) fun ub uc huv huc => ?_
  subst huv
  refine L_val rfl rfl rfl (OpP.v (P_move rfl rfl)) ?_
  refine L_val rfl rfl rfl (OpP.v (P_extract rfl rfl rfl)) ?_
  refine L_val rfl rfl rfl (OpP.v (P_extract rfl rfl rfl)) ?_
  refine L_val rfl rfl rfl (OpP.v (P_assign rfl rfl)) ?_
  refine L_val rfl rfl rfl (OpP.v (P_assign rfl rfl)) ?_
  refine L_nil ?_
  refine St.env (.cons (t := 2) rfl (.cons (t := 8) rfl .nil)) ?_
  refine Q_then ?_
  refine R_seq ?_
  refine R_region ?_
  refine L_val rfl rfl rfl (OpP.v (P_move rfl rfl)) ?_
  refine L_op rfl (W_callV rfl rfl rfl rfl fn_ca_123 (sum_ok hG ub uc (restB r bu su) huc) ((Sn.own .h0 rfl).rw_) ?_)
  refine L_op rfl (W_storeAll rfl rfl rfl rfl ty_ag_29 (by rw [ints_length, sha_length]) (ints_one) .h1 (by rw [ints_length, sha_length]; rfl) ?_)
  refine L_nil ?_
  refine St.env (.cons (t := 2) rfl .nil) ?_
  refine Q_then ?_
  refine R_ret ?_
  exact R_endV rfl rfl (.cell rfl (Rds.loadVar ty_ag_29 (Rds.blk .h1) (by rw [ints_length, sha_length])) .nil) (rfl)
end Go.Proofs.YtfhjhaogmdaepaaGreatDoor

/- Walks: the reference's words, forms, rest. Printed by gen.py. -/
set_option linter.unusedVariables false
set_option linter.unusedSimpArgs false
set_option maxRecDepth 100000
namespace Go.Proofs.YtfhjhaogmdaepaaGreatDoor
open Go Go.RowKit Go.Proofs
theorem w8_eq {x : Int} {i : Nat} (hx : 0 ≤ x) (hi : i < 8) : IntKind.u8.wrap ((x / 256 ^ i).tmod 256) = w8 x i := by
 have h1 : 0 ≤ x / 256 ^ i := Int.ediv_nonneg hx (Int.le_of_lt (Int.pow_pos (by decide)))
 have h2 : shrI .u64 x (8 * (i : Int)) = x / 256 ^ i := by
  unfold shrI
  rw [show min (8 * (i : Int)).toNat IntKind.u64.bits = 8 * i by show min (8 * (i : Int)).toNat 64 = _; omega, Int.pow_mul, Int.fdiv_eq_ediv_of_nonneg _ (Int.le_of_lt (Int.pow_pos (by decide)))]
  rfl
 unfold w8
 rw [h2, Int.tmod_eq_emod_of_nonneg h1]
 simp only [IntKind.wrap, IntKind.signed, IntKind.bits, Bool.false_and, Bool.false_eq_true, if_false]
 omega
theorem down_next {x : Int} {i : Nat} (hx : u64 x) : IntKind.u64.wrap ((x / 256 ^ i).tdiv 256) = x / 256 ^ (i + 1) := by
 have h1 : 0 ≤ x / 256 ^ i := Int.ediv_nonneg hx.1 (Int.le_of_lt (Int.pow_pos (by decide)))
 have h2 : x / 256 ^ i ≤ x := Int.ediv_le_self _ hx.1
 rw [Int.tdiv_eq_ediv_of_nonneg h1, Int.ediv_ediv_of_nonneg (Int.le_of_lt (Int.pow_pos (by decide))), ← Int.pow_succ]
 show IntKind.u64.wrap (x / 256 ^ (i + 1)) = _
 have h3 : 0 ≤ x / 256 ^ (i + 1) := Int.ediv_nonneg hx.1 (Int.le_of_lt (Int.pow_pos (by decide)))
 have h4 : x / 256 ^ (i + 1) ≤ x := Int.ediv_le_self _ hx.1
 obtain ⟨_, h5⟩ := hx
 simp only [IntKind.wrap, IntKind.signed, IntKind.bits, Bool.false_and, Bool.false_eq_true, if_false]
 omega
theorem rfixed_ok {gl : Nat → Obj} (x : Int) (hx : u64 x) : Spec (cx gl) 129 [.int .u64 x, .int .i64 8] (fun _ _ => True) [] (fun v rs => rs = [ownS 5 1 (v) (8) (ints .u8 (word8 x 8))]) := by
 refine Spec.enter (C := cx gl) Tryz.func129 rfl 21 rfl rfl fun w0 h0 hsep hsub hpre => ?_
 obtain rfl : h0 = Heap.none := hsep
 show St (cx gl) _ [(0, .int .u64 x), (1, .int .i64 8)] _ _
 refine R_seq ?_
 refine R_region ?_
 refine L_val rfl rfl rfl (OpP.v (P_assign rfl rfl)) ?_
 refine L_nil ?_
 refine Q_then ?_
 refine R_seq ?_
 refine R_region ?_
 refine L_val rfl rfl rfl (OpP.v (P_assign rfl rfl)) ?_
 refine L_nil ?_
 refine Q_then ?_
 refine R_seq ?_
 refine R_seq ?_
 refine E_as (t := 0) (v' := .int .u64 (x / 256 ^ 0)) rfl (by rw [Int.pow_zero, Int.ediv_one]) ?_
 refine R_region ?_
 refine L_val rfl rfl rfl (OpP.v (P_assign rfl rfl)) ?_
 refine L_nil ?_
 refine Q_then ?_
 refine R_block ?_
 refine R_loopE (G := Nat × Value) (.cons (t := 1) rfl (.cons (t := 4) rfl .nil)) (fun g => [(0, .int .u64 (x / 256 ^ g.1)), (5, g.2), (6, .int .i64 (g.1 : Int))]) (fun g => [ownS 5 1 (g.2) (g.1) (ints .u8 (word8 x g.1))]) (fun g => g.1 ≤ 8) (fun g => 8 - g.1) (0, .slice none 0 0) (Nat.zero_le _) (by repeat (first | exact .nil | refine .cons rfl ?_ | refine .consE rfl (by first | rfl | (congr 1; omega) | (congr 1; push_cast; omega)) ?_)) (Weak.newNil) ?_
 rintro ⟨i, v⟩ hinv
 replace hinv : i ≤ 8 := hinv
 show St (cx gl) _ ((0, .int .u64 (x / 256 ^ i)) :: (5, v) :: (6, .int .i64 (i : Int)) :: _) [ownS 5 1 (v) (i) (ints .u8 (word8 x i))] _
 refine R_seq ?_
 refine R_seq ?_
 refine R_region ?_
 refine L_val rfl rfl rfl (OpP.v (P_move rfl rfl)) ?_
 refine L_val rfl rfl rfl (OpP.v (P_move rfl rfl)) ?_
 refine L_val rfl rfl rfl (OpP.v (P_lss rfl rfl rfl)) ?_
 refine L_nil ?_
 refine Q_then ?_
 refine R_condP rfl (fun hlt => ?_) (fun hlt => ?_)
 ·skip
  refine R_skip ?_
  refine Q_then ?_
  refine R_seq ?_
  refine R_block ?_
  refine R_seq ?_
  refine R_region ?_
  refine L_val rfl rfl rfl (OpP.v (P_move rfl rfl)) ?_
  refine L_val rfl rfl rfl (OpP.v (P_move rfl rfl)) ?_
  refine L_val rfl rfl rfl (OpP.v (P_rem rfl rfl rfl (by omega))) ?_
  refine L_val rfl rfl rfl (OpP.v (P_conv rfl ty_int_24 ty_int_5 rfl)) ?_
  refine E_as (t := 15) (v' := .int .u8 (w8 x i)) rfl (by rw [w8_eq hx.1 (by omega)]) ?_
  refine L_op rfl (W_lit (z := .nilIface) ([.int .u8 (w8 x i)]) rfl rfl rfl ty_sl_48 ty_lz_48 rfl rfl rfl (by decide) (by decide) (by simp [Value.cells]) (rfl) fun b16 => ?_)
  refine L_op rfl (W_append (p := [_]) rfl rfl rfl ty_sl_48 ty_ap_48 ty_src_48 rfl rfl rfl (Src.slice (sz := 1) (m := 1) (news := [.int .u8 (w8 x i)]) (Rds.blk .h0) rfl (by intro v hv; simp only [List.mem_singleton] at hv; subst hv; rfl)) (by omega) (by simp only [maxLen]; omega) fun v17 => ?_)
  refine L_val rfl rfl rfl (OpP.v (P_assign rfl rfl)) ?_
  refine L_nil ?_
  refine Q_then ?_
  refine R_region ?_
  refine L_val rfl rfl rfl (OpP.v (P_move rfl rfl)) ?_
  refine L_val rfl rfl rfl (OpP.v (P_quo rfl rfl rfl (by omega))) ?_
  refine E_as (t := 19) (v' := .int .u64 (x / 256 ^ (i + 1))) rfl (by rw [down_next hx]) ?_
  refine L_val rfl rfl rfl (OpP.v (P_assign rfl rfl)) ?_
  refine L_nil ?_
  refine Q_block ?_
  refine Q_then ?_
  refine R_region ?_
  refine L_val rfl rfl rfl (OpP.v (P_move rfl rfl)) ?_
  first | (refine L_val rfl rfl rfl (OpP.v (P_addN rfl rfl rfl (by simp only [fits]; omega))) ?_) | (refine L_val rfl rfl rfl (OpP.v (P_add rfl rfl rfl)) ?_)
  refine L_val rfl rfl rfl (OpP.v (P_assign rfl rfl)) ?_
  refine L_nil ?_
  exact Q_round (i + 1, v17) (by omega) (by show 8 - (i + 1) < 8 - i; omega) (by repeat (first | exact .nil | refine .cons rfl ?_ | refine .consE rfl (by first | rfl | (congr 1; omega) | (congr 1; push_cast; omega)) ?_)) (Weak.drop (ownS.to1 rfl (by rw [word8_succ]; simp [ints])))
 ·skip
  have hi8 : i ≤ 8 := hinv
  obtain rfl : i = 8 := by omega
  refine R_exit ?_
  refine Q_then_exit ?_
  refine Q_then_exit ?_
  refine Q_block_eq ?_
  refine St.env (.cons (t := 4) rfl (.cons (t := 5) rfl .nil)) ?_
  refine Q_then ?_
  refine R_seq ?_
  refine R_region ?_
  refine L_val rfl rfl rfl (OpP.v (P_move rfl rfl)) ?_
  refine L_val rfl rfl rfl (OpP.v (P_assign rfl rfl)) ?_
  refine L_nil ?_
  refine St.env (.cons (t := 4) rfl .nil) ?_
  refine Q_then ?_
  refine R_ret ?_
  exact R_end (rs2 := _) rfl rfl (.tmp rfl .nil) (rfl) (Weak.refl _)
theorem rU64_ok {gl : Nat → Obj} (x : Int) (hx : u64 x) : Spec (cx gl) 63 [.int .u64 x] (fun _ _ => True) [] (fun v rs => rs = [ownS 5 1 (v) (8) (ints .u8 (word8 x 8))]) := by
 refine Spec.enter (C := cx gl) Tryz.func63 rfl 5 rfl rfl fun w0 h0 hsep hsub hpre => ?_
 obtain rfl : h0 = Heap.none := hsep
 show St (cx gl) _ [(0, .int .u64 x)] _ _
 refine R_seq ?_
 refine R_region ?_
 refine L_val rfl rfl rfl (OpP.v (P_assign rfl rfl)) ?_
 refine L_nil ?_
 refine Q_then ?_
 refine R_seq ?_
 refine R_region ?_
 refine L_val rfl rfl rfl (OpP.v (P_move rfl rfl)) ?_
 refine L_op rfl (W_call rfl rfl rfl rfl fn_ca_129 (rfixed_ok x hx) (Split.nil _) (fun _ _ _ _ _ _ _ => trivial) fun v1 rs1 (e1 : rs1 = _) => ?_)
 subst e1
 refine L_val rfl rfl rfl (OpP.v (P_assign rfl rfl)) ?_
 refine L_nil ?_
 refine St.env (.cons (t := 2) rfl .nil) ?_
 refine Q_then ?_
 refine R_ret ?_
 exact R_end (rs2 := _) rfl rfl (.tmp rfl .nil) (rfl) (Weak.refl _)
theorem rBool_ok {gl : Nat → Obj} (q : Bool) : Spec (cx gl) 64 [.bool q] (fun _ _ => True) [] (fun v rs => rs = [ownS 5 1 (v) (1) (ints .u8 ([boolB q]))]) := by
 refine Spec.enter (C := cx gl) Tryz.func64 rfl 6 rfl rfl fun w0 h0 hsep hsub hpre => ?_
 obtain rfl : h0 = Heap.none := hsep
 show St (cx gl) _ [(0, .bool q)] _ _
 refine R_seq ?_
 refine R_region ?_
 refine L_val rfl rfl rfl (OpP.v (P_assign rfl rfl)) ?_
 refine L_nil ?_
 refine Q_then ?_
 refine R_seq ?_
 refine R_seq ?_
 refine R_region ?_
 refine L_val rfl rfl rfl (OpP.v (P_move rfl rfl)) ?_
 refine L_nil ?_
 refine St.env (.cons (t := 2) rfl (.cons (t := 3) rfl .nil)) ?_
 refine Q_then ?_
 refine R_cond rfl (fun hq => ?_) (fun hq => ?_)
 ·skip
  refine R_seq ?_
  refine R_region ?_
  refine L_op rfl (W_lit (z := .nilIface) ([.int .u8 1]) rfl rfl rfl ty_sl_48 ty_lz_48 rfl rfl rfl (by decide) (by decide) (by simp [Value.cells]) (rfl) fun b4 => ?_)
  refine L_val rfl rfl rfl (OpP.v (P_assign rfl rfl)) ?_
  refine L_nil ?_
  refine St.env (.cons (t := 2) rfl .nil) ?_
  refine Q_then ?_
  refine R_ret ?_
  refine Q_then_ret ?_
  exact R_end (rs2 := _) rfl rfl (.tmp rfl .nil) (rfl) (by rw [hq]; exact Weak.turn .h0 (ownS.of_blk rfl (by decide)))
 ·skip
  refine R_skip ?_
  refine Q_then ?_
  refine R_seq ?_
  refine R_region ?_
  refine L_op rfl (W_lit (z := .nilIface) ([.int .u8 0]) rfl rfl rfl ty_sl_48 ty_lz_48 rfl rfl rfl (by decide) (by decide) (by simp [Value.cells]) (rfl) fun b5 => ?_)
  refine L_val rfl rfl rfl (OpP.v (P_assign rfl rfl)) ?_
  refine L_nil ?_
  refine St.env (.cons (t := 2) rfl .nil) ?_
  refine Q_then ?_
  refine R_ret ?_
  exact R_end (rs2 := _) rfl rfl (.tmp rfl .nil) (rfl) (by rw [hq]; exact Weak.turn .h0 (ownS.of_blk rfl (by decide)))
theorem rform_ok {gl : Nat → Obj} (x : Acc) (hx : x.ok) : Spec (cx gl) 16 [.agg x.cells.toArray] (fun _ _ => True) [] (fun v rs => rs = [ownS 5 1 (v) (33) (ints .u8 (formB x))]) := by
 refine Spec.enter (C := cx gl) Tryz.func16 rfl 27 rfl rfl fun w0 h0 hsep hsub hpre => ?_
 obtain rfl : h0 = Heap.none := hsep
 show St (cx gl) _ [(0, .agg x.cells.toArray)] _ _
 obtain ⟨ha, hb1, hb2, hb3⟩ := hx
 refine R_seq ?_
 refine R_region ?_
 refine L_op rfl (W_box (x.cells) rfl rfl rfl rfl rfl fun b1 => ?_)
 refine L_val rfl rfl rfl (OpP.v (P_assign rfl rfl)) ?_
 refine L_nil ?_
 refine St.env (.cons (t := 1) rfl (.cons (t := 2) rfl .nil)) ?_
 refine Q_then ?_
 refine R_seq ?_
 refine R_region ?_
 refine L_val rfl rfl rfl (OpP.v (P_fld0 rfl ty_fl_38_0 rfl)) ?_
 refine L_val rfl rfl rfl (V_load rfl rfl ty_sc_27 (Rd.blk .h0 rfl)) ?_
 refine L_op rfl (W_call rfl rfl rfl rfl fn_ca_63 (rU64_ok x.a ha) (Split.nil _) (fun _ _ _ _ _ _ _ => trivial) fun v1 rs1 (e1 : rs1 = _) => ?_)
 subst e1
 refine L_val rfl rfl rfl (OpP.v (P_assign rfl rfl)) ?_
 refine L_nil ?_
 refine St.env (.cons (t := 1) rfl (.cons (t := 2) rfl (.cons (t := 3) rfl .nil))) ?_
 refine Q_then ?_
 refine R_seq ?_
 refine R_region ?_
 refine L_val rfl rfl rfl (OpP.v (P_move rfl rfl)) ?_
 refine L_val rfl rfl rfl (OpP.v (P_fld0 rfl ty_fl_38_1 rfl)) ?_
 refine L_val rfl rfl rfl (V_load rfl rfl ty_sc_24 (Rd.blk .h1 rfl)) ?_
 refine L_op rfl (W_call rfl rfl rfl rfl fn_ca_63 (rU64_ok (x.bal) (hb1)) (Split.nil _) (fun _ _ _ _ _ _ _ => trivial) fun v2 rs2 (e2 : rs2 = _) => ?_)
 subst e2
 refine St.ownForm (p := []) fun ub2 uc2 huv2 huc2 => ?_
 subst huv2
 refine L_op rfl (W_append (p := [_]) rfl rfl rfl ty_sl_48 ty_ap_48 ty_src_48 rfl rfl rfl (Src.row (sz := 1) (Sn.own .h0 rfl).rw_ (by rw [ints_length]; first | exact word8_length _ _ | rfl) ints_one) (by omega) (by simp only [maxLen]; omega) fun v11 => ?_)
 refine St.res (rs' := [ownS 5 1 (v11) (16) (ints .u8 (word8 x.a 8 ++ word8 x.bal 8)), blk b1 (x.cells) 38]) (Weak.drop (ownS.to1 rfl (by rw [ints_append]))) ?_
 refine L_val rfl rfl rfl (OpP.v (P_assign rfl rfl)) ?_
 refine L_nil ?_
 refine St.env (.cons (t := 1) rfl (.cons (t := 2) rfl (.cons (t := 3) rfl .nil))) ?_
 refine Q_then ?_
 refine R_seq ?_
 refine R_region ?_
 refine L_val rfl rfl rfl (OpP.v (P_move rfl rfl)) ?_
 refine L_val rfl rfl rfl (OpP.v (P_fld0 rfl ty_fl_38_2 rfl)) ?_
 refine L_val rfl rfl rfl (V_load rfl rfl ty_sc_24 (Rd.blk .h1 rfl)) ?_
 refine L_op rfl (W_call rfl rfl rfl rfl fn_ca_63 (rU64_ok (x.bond) (hb2)) (Split.nil _) (fun _ _ _ _ _ _ _ => trivial) fun v3 rs3 (e3 : rs3 = _) => ?_)
 subst e3
 refine St.ownForm (p := []) fun ub3 uc3 huv3 huc3 => ?_
 subst huv3
 refine L_op rfl (W_append (p := [_]) rfl rfl rfl ty_sl_48 ty_ap_48 ty_src_48 rfl rfl rfl (Src.row (sz := 1) (Sn.own .h0 rfl).rw_ (by rw [ints_length]; first | exact word8_length _ _ | rfl) ints_one) (by omega) (by simp only [maxLen]; omega) fun v16 => ?_)
 refine St.res (rs' := [ownS 5 1 (v16) (24) (ints .u8 (word8 x.a 8 ++ word8 x.bal 8 ++ word8 x.bond 8)), blk b1 (x.cells) 38]) (Weak.drop (ownS.to1 rfl (by rw [ints_append]))) ?_
 refine L_val rfl rfl rfl (OpP.v (P_assign rfl rfl)) ?_
 refine L_nil ?_
 refine St.env (.cons (t := 1) rfl (.cons (t := 2) rfl (.cons (t := 3) rfl .nil))) ?_
 refine Q_then ?_
 refine R_seq ?_
 refine R_region ?_
 refine L_val rfl rfl rfl (OpP.v (P_move rfl rfl)) ?_
 refine L_val rfl rfl rfl (OpP.v (P_fld0 rfl ty_fl_38_3 rfl)) ?_
 refine L_val rfl rfl rfl (V_load rfl rfl ty_sc_24 (Rd.blk .h1 rfl)) ?_
 refine L_op rfl (W_call rfl rfl rfl rfl fn_ca_63 (rU64_ok (x.non) (hb3)) (Split.nil _) (fun _ _ _ _ _ _ _ => trivial) fun v4 rs4 (e4 : rs4 = _) => ?_)
 subst e4
 refine St.ownForm (p := []) fun ub4 uc4 huv4 huc4 => ?_
 subst huv4
 refine L_op rfl (W_append (p := [_]) rfl rfl rfl ty_sl_48 ty_ap_48 ty_src_48 rfl rfl rfl (Src.row (sz := 1) (Sn.own .h0 rfl).rw_ (by rw [ints_length]; first | exact word8_length _ _ | rfl) ints_one) (by omega) (by simp only [maxLen]; omega) fun v21 => ?_)
 refine St.res (rs' := [ownS 5 1 (v21) (32) (ints .u8 (word8 x.a 8 ++ word8 x.bal 8 ++ word8 x.bond 8 ++ word8 x.non 8)), blk b1 (x.cells) 38]) (Weak.drop (ownS.to1 rfl (by rw [ints_append]))) ?_
 refine L_val rfl rfl rfl (OpP.v (P_assign rfl rfl)) ?_
 refine L_nil ?_
 refine St.env (.cons (t := 1) rfl (.cons (t := 2) rfl (.cons (t := 3) rfl .nil))) ?_
 refine Q_then ?_
 refine R_seq ?_
 refine R_region ?_
 refine L_val rfl rfl rfl (OpP.v (P_move rfl rfl)) ?_
 refine L_val rfl rfl rfl (OpP.v (P_fld0 rfl ty_fl_38_4 rfl)) ?_
 refine L_val rfl rfl rfl (V_load rfl rfl ty_sc_4 (Rd.blk .h1 rfl)) ?_
 refine L_op rfl (W_call rfl rfl rfl rfl fn_ca_64 (rBool_ok x.jail) (Split.nil _) (fun _ _ _ _ _ _ _ => trivial) fun v5 rs5 (e5 : rs5 = _) => ?_)
 subst e5
 refine St.ownForm (p := []) fun ub5 uc5 huv5 huc5 => ?_
 subst huv5
 refine L_op rfl (W_append (p := [_]) rfl rfl rfl ty_sl_48 ty_ap_48 ty_src_48 rfl rfl rfl (Src.row (sz := 1) (Sn.own .h0 rfl).rw_ (by rw [ints_length]; first | exact word8_length _ _ | rfl) ints_one) (by omega) (by simp only [maxLen]; omega) fun v26 => ?_)
 refine St.res (rs' := [ownS 5 1 (v26) (33) (ints .u8 (word8 x.a 8 ++ word8 x.bal 8 ++ word8 x.bond 8 ++ word8 x.non 8 ++ [boolB x.jail])), blk b1 (x.cells) 38]) (Weak.drop (ownS.to1 rfl (by rw [ints_append]))) ?_
 refine L_val rfl rfl rfl (OpP.v (P_assign rfl rfl)) ?_
 refine L_nil ?_
 refine St.env (.cons (t := 2) rfl .nil) ?_
 refine Q_then ?_
 refine R_ret ?_
 exact R_end (rs2 := _) rfl rfl (.tmp rfl .nil) (rfl) (ownS.to2 rfl (by simp [formB, accW, wordsB]))
theorem rforms_ok {gl : Nat → Obj} (base : Option Addr) (c : Nat) (l : List Acc) (hc : l.length ≤ c) (hm : l.length ≤ 65536)(hok : ∀ x ∈ l, x.ok) (r : Value) (hr : r.oneCell' = true) (bu su : Int) : Spec (cx gl) 14 [.agg (ledV (.slice base l.length c) r bu su).toArray] (fun w _ => Row w base (rc l)) [] (fun v rs => ∃ qs : List Ob, formsOk qs l ∧ rs = [fam Ob.own qs, ownS 48 1 (v) (l.length) (qs.map Ob.val)]) := by
 refine Spec.enter (C := cx gl) Tryz.func14 rfl 22 rfl rfl fun w0 h0 hsep hsub hpre => ?_
 obtain rfl : h0 = Heap.none := hsep
 show St (cx gl) _ [(0, .agg (ledV (.slice base l.length c) r bu su).toArray)] _ _
 refine R_seq ?_
 refine R_region ?_
 refine L_op rfl (W_box (ledV (.slice base l.length c) r bu su) rfl rfl rfl rfl rfl fun b1 => ?_)
 refine L_val rfl rfl rfl (OpP.v (P_assign rfl rfl)) ?_
 refine L_nil ?_
 refine St.env (.cons (t := 1) rfl (.cons (t := 2) rfl .nil)) ?_
 refine Q_then ?_
 refine R_seq ?_
 refine R_region ?_
 refine L_val rfl rfl rfl (OpP.v (P_assign rfl rfl)) ?_
 refine L_nil ?_
 refine Q_then ?_
 refine R_seq ?_
 refine R_seq ?_
 refine R_region ?_
 refine L_val rfl rfl rfl (OpP.v (P_assign rfl rfl)) ?_
 refine L_nil ?_
 refine Q_then ?_
 refine R_block ?_
 refine R_loopE (G := Nat × List Ob × Value) (.cons (t := 1) rfl (.cons (t := 2) rfl .nil)) (fun g => [(3, g.2.2), (4, .int .i64 (g.1 : Int))]) (fun g => [fam Ob.own g.2.1, ownS 48 1 (g.2.2) (g.1) (g.2.1.map Ob.val), blk b1 (ledV (.slice base l.length c) r bu su) 26]) (fun g => g.1 ≤ l.length ∧ formsOk g.2.1 (l.take g.1)) (fun g => l.length - g.1) (0, [], .slice none 0 0) (by show (0) ≤ l.length ∧ formsOk ([]) (l.take (0)); exact ⟨Nat.zero_le _, rfl, fun u hu => by cases hu⟩) (by repeat (first | exact .nil | refine .cons rfl ?_ | refine .consE rfl (by first | rfl | (congr 1; omega) | (congr 1; push_cast; omega)) ?_)) (Weak.trans (Weak.newNil (T := 48) (sz := 1)) (Weak.famNil (f := Ob.own))) ?_
 rintro ⟨i, qs, v⟩ hinv
 replace hinv : i ≤ l.length ∧ formsOk qs (l.take i) := hinv
 show St (cx gl) _ ((3, v) :: (4, .int .i64 (i : Int)) :: _) [fam Ob.own qs, ownS 48 1 (v) (i) (qs.map Ob.val), blk b1 (ledV (.slice base l.length c) r bu su) 26] _
 obtain ⟨hi, hq⟩ := hinv
 refine R_seq ?_
 refine R_seq ?_
 refine R_region ?_
 refine L_val rfl rfl rfl (OpP.v (P_move rfl rfl)) ?_
 refine L_val rfl rfl rfl (OpP.v (P_fld0 rfl ty_fl_26_0 rfl)) ?_
 refine L_val rfl rfl rfl (V_load rfl rfl ty_sc_22 (Rd.blk .h2 rfl)) ?_
 refine L_val rfl rfl rfl (OpP.v (P_len rfl ty_sl_22 rfl)) ?_
 refine L_val rfl rfl rfl (OpP.v (P_lss rfl rfl rfl)) ?_
 refine L_nil ?_
 refine Q_then ?_
 refine R_condP rfl (fun hlt => ?_) (fun hlt => ?_)
 ·skip
  have hx0 := accAt_get (l := l) (i := i) (by omega)
  obtain ⟨x, ex⟩ : ∃ x, x = accAt l i := ⟨_, rfl⟩
  have hx : l[i]? = some x := by rw [ex]; exact hx0
  obtain ⟨pb, pj, rfl, hrow⟩ := hpre.some_ (by rw [rc_length]; show 0 < _ * 5; omega)
  refine R_skip ?_
  refine Q_then ?_
  refine R_seq ?_
  refine R_block ?_
  refine R_region ?_
  refine L_val rfl rfl rfl (OpP.v (P_move rfl rfl)) ?_
  refine L_val rfl rfl rfl (OpP.v (P_fld0 rfl ty_fl_26_0 rfl)) ?_
  refine L_val rfl rfl rfl (V_load rfl rfl ty_sc_22 (Rd.blk .h2 rfl)) ?_
  refine L_val rfl rfl rfl (OpP.v (P_move rfl rfl)) ?_
  refine L_val rfl rfl rfl (OpP.v (P_ixs (i) rfl ty_sl_22 rfl rfl (by first | rfl | omega) (by omega))) ?_
  refine L_val rfl rfl rfl (V_loadAgg rfl rfl ty_ag_38 (rds_rc (Rds.row hrow rfl) hx) (rfl)) ?_
  refine L_op rfl (W_call rfl rfl rfl rfl fn_ca_16 (rform_ok x (hok x (List.mem_of_getElem? hx))) (Split.nil _) (fun _ _ _ _ _ _ _ => trivial) fun v1 rs1 (e1 : rs1 = _) => ?_)
  subst e1
  have hfl := formB_length x
  refine St.ownForm (p := []) fun ub uc huv huc => ?_
  subst huv
  have huc : (formB x).length ≤ uc := by rw [hfl]; exact huc
  rw [← hfl]
  refine L_op rfl (W_lit (z := .nilIface) ([.slice ub (formB x).length uc]) rfl rfl rfl ty_sl_42 ty_lz_42 rfl rfl rfl (by decide) (by decide) (by simp [Value.cells]) (rfl) fun b19 => ?_)
  refine L_op rfl (W_append (p := [_, _, _]) rfl rfl rfl ty_sl_42 ty_ap_42 ty_src_42 rfl rfl rfl (Src.slice (sz := 1) (m := 1) (news := [.slice ub (formB x).length uc]) (Rds.blk .h0) rfl (by intro v hv; simp only [List.mem_singleton] at hv; subst hv; rfl)) (by omega) (by simp only [maxLen]; omega) fun v20 => ?_)
  refine L_val rfl rfl rfl (OpP.v (P_assign rfl rfl)) ?_
  refine L_nil ?_
  refine Q_block ?_
  refine Q_then ?_
  refine R_region ?_
  refine L_val rfl rfl rfl (OpP.v (P_move rfl rfl)) ?_
  first | (refine L_val rfl rfl rfl (OpP.v (P_addN rfl rfl rfl (by simp only [fits]; omega))) ?_) | (refine L_val rfl rfl rfl (OpP.v (P_add rfl rfl rfl)) ?_)
  refine L_val rfl rfl rfl (OpP.v (P_assign rfl rfl)) ?_
  refine L_nil ?_
  exact Q_round (i + 1, qs ++ [Ob.mk ub uc (formB x)], v20) (by show (i + 1) ≤ l.length ∧ formsOk (qs ++ [Ob.mk ub uc (formB x)]) (l.take (i + 1)); exact ⟨by omega, hq.snoc hx rfl huc⟩) (by show l.length - (i + 1) < l.length - i; omega) (by repeat (first | exact .nil | refine .cons rfl ?_ | refine .consE rfl (by first | rfl | (congr 1; omega) | (congr 1; push_cast; omega)) ?_)) (Weak.drop (Weak.trans (Weak.refl _) (Weak.trans (Weak.famAdd (f := Ob.own) (x := Ob.mk ub uc (formB x))) (Weak.keep (ownS.to1 rfl (by rw [List.map_append]; rfl))))))
 ·skip
  have hin : i = l.length := by omega
  refine R_exit ?_
  refine Q_then_exit ?_
  refine Q_then_exit ?_
  refine Q_block_eq ?_
  refine St.env (.cons (t := 2) rfl (.cons (t := 3) rfl .nil)) ?_
  refine Q_then ?_
  refine R_seq ?_
  refine R_region ?_
  refine L_val rfl rfl rfl (OpP.v (P_move rfl rfl)) ?_
  refine L_val rfl rfl rfl (OpP.v (P_assign rfl rfl)) ?_
  refine L_nil ?_
  refine St.env (.cons (t := 2) rfl .nil) ?_
  refine Q_then ?_
  refine R_ret ?_
  exact R_end (rs2 := _) rfl rfl (.tmp rfl .nil) (⟨qs, by rw [hin, List.take_length] at hq; exact hq, rfl⟩) (Weak.keep (ownS.to2 hin rfl))
theorem rrest_ok {gl : Nat → Obj} (a : Value) (ha : a.oneCell' = true) (base' : Option Addr) (c' : Nat) (r : List Rel) (hc' : r.length ≤ c') (hm' : r.length ≤ 65536) (hok' : ∀ y ∈ r, y.ok) (bu su : Int) (hbu : u64 bu) (hsu : u64 su) : Spec (cx gl) 18 [.agg (ledV a (.slice base' r.length c') bu su).toArray] (fun w _ => Row w base' (rc r)) [] (fun v rs => rs = [ownS 5 1 (v) ((restB r bu su).length) (ints .u8 (restB r bu su))]) := by
 refine Spec.enter (C := cx gl) Tryz.func18 rfl 53 rfl rfl fun w0 h0 hsep hsub hpre => ?_
 obtain rfl : h0 = Heap.none := hsep
 show St (cx gl) _ [(0, .agg (ledV a (.slice base' r.length c') bu su).toArray)] _ _
 refine R_seq ?_
 refine R_region ?_
 refine L_op rfl (W_box (ledV a (.slice base' r.length c') bu su) rfl rfl rfl rfl rfl fun b1 => ?_)
 refine L_val rfl rfl rfl (OpP.v (P_assign rfl rfl)) ?_
 refine L_nil ?_
 refine St.env (.cons (t := 1) rfl (.cons (t := 2) rfl .nil)) ?_
 refine Q_then ?_
 refine R_seq ?_
 refine R_region ?_
 refine L_val rfl rfl rfl (OpP.v (P_fld0 rfl ty_fl_26_1 rfl)) ?_
 refine L_val rfl rfl rfl (V_load rfl rfl ty_sc_23 (Rd.blk .h0 rfl)) ?_
 refine L_val rfl rfl rfl (OpP.v (P_len rfl ty_sl_23 rfl)) ?_
 refine L_val rfl rfl rfl (OpP.v (P_convN rfl ty_int_3 ty_int_24 rfl (by simp only [fits]; omega))) ?_
 refine L_op rfl (W_call rfl rfl rfl rfl fn_ca_63 (rU64_ok (r.length : Int) ⟨by omega, by omega⟩) (Split.nil _) (fun _ _ _ _ _ _ _ => trivial) fun v1 rs1 (e1 : rs1 = _) => ?_)
 subst e1
 refine L_val rfl rfl rfl (OpP.v (P_assign rfl rfl)) ?_
 refine L_nil ?_
 refine St.env (.cons (t := 1) rfl (.cons (t := 2) rfl (.cons (t := 3) rfl .nil))) ?_
 refine Q_then ?_
 refine R_seq ?_
 refine R_seq ?_
 refine R_region ?_
 refine L_val rfl rfl rfl (OpP.v (P_assign rfl rfl)) ?_
 refine L_nil ?_
 refine Q_then ?_
 refine R_block ?_
 refine R_loopE (G := Nat × Value) (.cons (t := 1) rfl (.cons (t := 2) rfl .nil)) (fun g => [(3, g.2), (4, .int .i64 (g.1 : Int))]) (fun g => [ownS 5 1 (g.2) (8 + 32 * g.1) (ints .u8 (word8 (r.length : Int) 8 ++ relsB (r.take (g.1)))), blk b1 (ledV a (.slice base' r.length c') bu su) 26]) (fun g => g.1 ≤ r.length) (fun g => r.length - g.1) (0, v1) (Nat.zero_le _) (by repeat (first | exact .nil | refine .cons rfl ?_ | refine .consE rfl (by first | rfl | (congr 1; omega) | (congr 1; push_cast; omega)) ?_)) (ownS.to1 rfl (by simp [relsB])) ?_
 rintro ⟨i, v⟩ hinv
 replace hinv : i ≤ r.length := hinv
 show St (cx gl) _ ((3, v) :: (4, .int .i64 (i : Int)) :: _) [ownS 5 1 (v) (8 + 32 * i) (ints .u8 (word8 (r.length : Int) 8 ++ relsB (r.take (i)))), blk b1 (ledV a (.slice base' r.length c') bu su) 26] _
 refine R_seq ?_
 refine R_seq ?_
 refine R_region ?_
 refine L_val rfl rfl rfl (OpP.v (P_move rfl rfl)) ?_
 refine L_val rfl rfl rfl (OpP.v (P_fld0 rfl ty_fl_26_1 rfl)) ?_
 refine L_val rfl rfl rfl (V_load rfl rfl ty_sc_23 (Rd.blk .h1 rfl)) ?_
 refine L_val rfl rfl rfl (OpP.v (P_len rfl ty_sl_23 rfl)) ?_
 refine L_val rfl rfl rfl (OpP.v (P_lss rfl rfl rfl)) ?_
 refine L_nil ?_
 refine Q_then ?_
 refine R_condP rfl (fun hlt => ?_) (fun hlt => ?_)
 ·skip
  have hi : i ≤ r.length := hinv
  have hx0 := relAt_get (l := r) (i := i) (by omega)
  obtain ⟨x, ex⟩ : ∃ x, x = relAt r i := ⟨_, rfl⟩
  have hx : r[i]? = some x := by rw [ex]; exact hx0
  obtain ⟨pb, pj, rfl, hrow⟩ := hpre.some_ (by rw [rc_length]; show 0 < _ * 4; omega)
  obtain ⟨hx1, hx2, hx3, hx4⟩ := hok' x (List.mem_of_getElem? hx)
  refine R_skip ?_
  refine Q_then ?_
  refine R_seq ?_
  refine R_block ?_
  refine R_seq ?_
  refine R_region ?_
  refine L_val rfl rfl rfl (OpP.v (P_fld0 rfl ty_fl_26_1 rfl)) ?_
  refine L_val rfl rfl rfl (V_load rfl rfl ty_sc_23 (Rd.blk .h1 rfl)) ?_
  refine L_val rfl rfl rfl (OpP.v (P_move rfl rfl)) ?_
  refine L_val rfl rfl rfl (OpP.v (P_ixs (i) rfl ty_sl_23 rfl rfl (by first | rfl | omega) (by omega))) ?_
  refine L_val rfl rfl rfl (V_loadAgg rfl rfl ty_ag_135 (rds_rc (Rds.row hrow rfl) hx) (rfl)) ?_
  refine L_op rfl (W_alloc rfl rfl rfl ty_ze_135 fun b5 => ?_)
  refine L_op rfl (W_storeAll rfl rfl rfl rfl ty_ag_135 (rfl) (Rec.one x) .h0 (rfl) ?_)
  refine L_nil ?_
  refine Q_then ?_
  refine R_seq ?_
  refine R_region ?_
  refine L_val rfl rfl rfl (OpP.v (P_move rfl rfl)) ?_
  refine L_val rfl rfl rfl (OpP.v (P_fld0 rfl ty_fl_135_0 rfl)) ?_
  refine L_val rfl rfl rfl (V_load rfl rfl ty_sc_24 (Rd.blk .h0 rfl)) ?_
  refine L_op rfl (W_call rfl rfl rfl rfl fn_ca_63 (rU64_ok (x.h) (hx1)) (Split.nil _) (fun _ _ _ _ _ _ _ => trivial) fun v10 rs10 (e10 : rs10 = _) => ?_)
  subst e10
  refine St.ownForm (p := []) fun ub10 uc10 huv10 huc10 => ?_
  subst huv10
  refine L_op rfl (W_append (p := [_, _]) rfl rfl rfl ty_sl_48 ty_ap_48 ty_src_48 rfl rfl rfl (Src.row (sz := 1) (Sn.own .h0 rfl).rw_ (by rw [ints_length, word8_length]) ints_one) (by omega) (by simp only [maxLen]; omega) fun v27 => ?_)
  refine St.res (rs' := [blk b5 (x.cells) 135, ownS 5 1 (v27) (8 + 32 * i + 8) (ints .u8 (word8 (r.length : Int) 8 ++ relsB (r.take (i)) ++ word8 x.h 8)), blk b1 (ledV a (.slice (some ⟨pb, pj, none⟩) r.length c') bu su) 26]) (Weak.drop (Weak.keep (ownS.to1 (by omega) (by rw [ints_append])))) ?_
  refine L_val rfl rfl rfl (OpP.v (P_assign rfl rfl)) ?_
  refine L_nil ?_
  refine Q_then ?_
  refine R_seq ?_
  refine R_region ?_
  refine L_val rfl rfl rfl (OpP.v (P_move rfl rfl)) ?_
  refine L_val rfl rfl rfl (OpP.v (P_fld0 rfl ty_fl_135_1 rfl)) ?_
  refine L_val rfl rfl rfl (V_load rfl rfl ty_sc_27 (Rd.blk .h0 rfl)) ?_
  refine L_op rfl (W_call rfl rfl rfl rfl fn_ca_63 (rU64_ok (x.a) (hx2)) (Split.nil _) (fun _ _ _ _ _ _ _ => trivial) fun v11 rs11 (e11 : rs11 = _) => ?_)
  subst e11
  refine St.ownForm (p := []) fun ub11 uc11 huv11 huc11 => ?_
  subst huv11
  refine L_op rfl (W_append (p := [_, _]) rfl rfl rfl ty_sl_48 ty_ap_48 ty_src_48 rfl rfl rfl (Src.row (sz := 1) (Sn.own .h0 rfl).rw_ (by rw [ints_length, word8_length]) ints_one) (by omega) (by simp only [maxLen]; omega) fun v32 => ?_)
  refine St.res (rs' := [blk b5 (x.cells) 135, ownS 5 1 (v32) (8 + 32 * i + 16) (ints .u8 (word8 (r.length : Int) 8 ++ relsB (r.take (i)) ++ word8 x.h 8 ++ word8 x.a 8)), blk b1 (ledV a (.slice (some ⟨pb, pj, none⟩) r.length c') bu su) 26]) (Weak.drop (Weak.keep (ownS.to1 (by omega) (by rw [ints_append])))) ?_
  refine L_val rfl rfl rfl (OpP.v (P_assign rfl rfl)) ?_
  refine L_nil ?_
  refine Q_then ?_
  refine R_seq ?_
  refine R_region ?_
  refine L_val rfl rfl rfl (OpP.v (P_move rfl rfl)) ?_
  refine L_val rfl rfl rfl (OpP.v (P_fld0 rfl ty_fl_135_2 rfl)) ?_
  refine L_val rfl rfl rfl (V_load rfl rfl ty_sc_24 (Rd.blk .h0 rfl)) ?_
  refine L_op rfl (W_call rfl rfl rfl rfl fn_ca_63 (rU64_ok (x.born) (hx3)) (Split.nil _) (fun _ _ _ _ _ _ _ => trivial) fun v12 rs12 (e12 : rs12 = _) => ?_)
  subst e12
  refine St.ownForm (p := []) fun ub12 uc12 huv12 huc12 => ?_
  subst huv12
  refine L_op rfl (W_append (p := [_, _]) rfl rfl rfl ty_sl_48 ty_ap_48 ty_src_48 rfl rfl rfl (Src.row (sz := 1) (Sn.own .h0 rfl).rw_ (by rw [ints_length, word8_length]) ints_one) (by omega) (by simp only [maxLen]; omega) fun v37 => ?_)
  refine St.res (rs' := [blk b5 (x.cells) 135, ownS 5 1 (v37) (8 + 32 * i + 24) (ints .u8 (word8 (r.length : Int) 8 ++ relsB (r.take (i)) ++ word8 x.h 8 ++ word8 x.a 8 ++ word8 x.born 8)), blk b1 (ledV a (.slice (some ⟨pb, pj, none⟩) r.length c') bu su) 26]) (Weak.drop (Weak.keep (ownS.to1 (by omega) (by rw [ints_append])))) ?_
  refine L_val rfl rfl rfl (OpP.v (P_assign rfl rfl)) ?_
  refine L_nil ?_
  refine Q_then ?_
  refine R_region ?_
  refine L_val rfl rfl rfl (OpP.v (P_move rfl rfl)) ?_
  refine L_val rfl rfl rfl (OpP.v (P_fld0 rfl ty_fl_135_3 rfl)) ?_
  refine L_val rfl rfl rfl (V_load rfl rfl ty_sc_24 (Rd.blk .h0 rfl)) ?_
  refine L_op rfl (W_call rfl rfl rfl rfl fn_ca_63 (rU64_ok (x.amt) (hx4)) (Split.nil _) (fun _ _ _ _ _ _ _ => trivial) fun v13 rs13 (e13 : rs13 = _) => ?_)
  subst e13
  refine St.ownForm (p := []) fun ub13 uc13 huv13 huc13 => ?_
  subst huv13
  refine L_op rfl (W_append (p := [_, _]) rfl rfl rfl ty_sl_48 ty_ap_48 ty_src_48 rfl rfl rfl (Src.row (sz := 1) (Sn.own .h0 rfl).rw_ (by rw [ints_length, word8_length]) ints_one) (by omega) (by simp only [maxLen]; omega) fun v42 => ?_)
  refine St.res (rs' := [blk b5 (x.cells) 135, ownS 5 1 (v42) (8 + 32 * i + 32) (ints .u8 (word8 (r.length : Int) 8 ++ relsB (r.take (i)) ++ word8 x.h 8 ++ word8 x.a 8 ++ word8 x.born 8 ++ word8 x.amt 8)), blk b1 (ledV a (.slice (some ⟨pb, pj, none⟩) r.length c') bu su) 26]) (Weak.drop (Weak.keep (ownS.to1 (by omega) (by rw [ints_append])))) ?_
  refine L_val rfl rfl rfl (OpP.v (P_assign rfl rfl)) ?_
  refine L_nil ?_
  refine Q_block ?_
  refine Q_then ?_
  refine R_region ?_
  refine L_val rfl rfl rfl (OpP.v (P_move rfl rfl)) ?_
  first | (refine L_val rfl rfl rfl (OpP.v (P_addN rfl rfl rfl (by simp only [fits]; omega))) ?_) | (refine L_val rfl rfl rfl (OpP.v (P_add rfl rfl rfl)) ?_)
  refine L_val rfl rfl rfl (OpP.v (P_assign rfl rfl)) ?_
  refine L_nil ?_
  exact Q_round (i + 1, v42) (by omega) (by show r.length - (i + 1) < r.length - i; omega) (by repeat (first | exact .nil | refine .cons rfl ?_ | refine .consE rfl (by first | rfl | (congr 1; omega) | (congr 1; push_cast; omega)) ?_)) (Weak.drop (ownS.to1 (by omega) (by rw [relsB_next hx]; simp [relW, wordsB, ints])))
 ·skip
  have hi : i ≤ r.length := hinv
  have hin : i = r.length := by omega
  subst hin
  rw [List.take_length]
  refine R_exit ?_
  refine Q_then_exit ?_
  refine Q_then_exit ?_
  refine Q_block_eq ?_
  refine St.env (.cons (t := 1) rfl (.cons (t := 2) rfl (.cons (t := 3) rfl .nil))) ?_
  refine Q_then ?_
  refine R_seq ?_
  refine R_region ?_
  refine L_val rfl rfl rfl (OpP.v (P_move rfl rfl)) ?_
  refine L_val rfl rfl rfl (OpP.v (P_fld0 rfl ty_fl_26_2 rfl)) ?_
  refine L_val rfl rfl rfl (V_load rfl rfl ty_sc_24 (Rd.blk .h1 rfl)) ?_
  refine L_op rfl (W_call rfl rfl rfl rfl fn_ca_63 (rU64_ok (bu) (hbu)) (Split.nil _) (fun _ _ _ _ _ _ _ => trivial) fun v20 rs20 (e20 : rs20 = _) => ?_)
  subst e20
  refine St.ownForm (p := []) fun ub20 uc20 huv20 huc20 => ?_
  subst huv20
  refine L_op rfl (W_append (p := [_]) rfl rfl rfl ty_sl_48 ty_ap_48 ty_src_48 rfl rfl rfl (Src.row (sz := 1) (Sn.own .h0 rfl).rw_ (by rw [ints_length]; first | exact word8_length _ _ | rfl) ints_one) (by omega) (by simp only [maxLen]; omega) fun v47 => ?_)
  refine St.res (rs' := [ownS 5 1 (v47) (8 + 32 * r.length + 8) (ints .u8 (word8 (r.length : Int) 8 ++ relsB r ++ word8 bu 8)), blk b1 (ledV a (.slice base' r.length c') bu su) 26]) (Weak.drop (ownS.to1 rfl (by rw [ints_append]))) ?_
  refine L_val rfl rfl rfl (OpP.v (P_assign rfl rfl)) ?_
  refine L_nil ?_
  refine St.env (.cons (t := 1) rfl (.cons (t := 2) rfl (.cons (t := 3) rfl .nil))) ?_
  refine Q_then ?_
  refine R_seq ?_
  refine R_region ?_
  refine L_val rfl rfl rfl (OpP.v (P_move rfl rfl)) ?_
  refine L_val rfl rfl rfl (OpP.v (P_fld0 rfl ty_fl_26_3 rfl)) ?_
  refine L_val rfl rfl rfl (V_load rfl rfl ty_sc_24 (Rd.blk .h1 rfl)) ?_
  refine L_op rfl (W_call rfl rfl rfl rfl fn_ca_63 (rU64_ok (su) (hsu)) (Split.nil _) (fun _ _ _ _ _ _ _ => trivial) fun v21 rs21 (e21 : rs21 = _) => ?_)
  subst e21
  refine St.ownForm (p := []) fun ub21 uc21 huv21 huc21 => ?_
  subst huv21
  refine L_op rfl (W_append (p := [_]) rfl rfl rfl ty_sl_48 ty_ap_48 ty_src_48 rfl rfl rfl (Src.row (sz := 1) (Sn.own .h0 rfl).rw_ (by rw [ints_length]; first | exact word8_length _ _ | rfl) ints_one) (by omega) (by simp only [maxLen]; omega) fun v52 => ?_)
  refine St.res (rs' := [ownS 5 1 (v52) (8 + 32 * r.length + 8 + 8) (ints .u8 (word8 (r.length : Int) 8 ++ relsB r ++ word8 bu 8 ++ word8 su 8)), blk b1 (ledV a (.slice base' r.length c') bu su) 26]) (Weak.drop (ownS.to1 rfl (by rw [ints_append]))) ?_
  refine L_val rfl rfl rfl (OpP.v (P_assign rfl rfl)) ?_
  refine L_nil ?_
  refine St.env (.cons (t := 2) rfl .nil) ?_
  refine Q_then ?_
  refine R_ret ?_
  exact R_end (rs2 := _) rfl rfl (.tmp rfl .nil) (rfl) (ownS.to2 (restB_length r bu su).symm rfl)
end Go.Proofs.YtfhjhaogmdaepaaGreatDoor
