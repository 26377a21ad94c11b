/- Texts that poolKeeps_holds leans on, part 5: each says at its head what it holds; no condition beyond its theorems' own. -/
import Derived.Test.YtcngmkjdpoiiaaaGreatDoorMq4
set_option linter.unusedVariables false
set_option linter.unusedSimpArgs false
set_option linter.unusedSectionVars false
/- Lists of transactions compared. Printed by gen.py. -/
set_option maxRecDepth 100000
namespace Go.Proofs.YtcngmkjdpoiiaaaGreatDoor
open Go Go.RowKit Go.Proofs Go.Sort
/-! ### Transactions compared -/
def txA (x : Tx) : List Value := [.int .i64 x.kind, .int .u64 x.frm, .int .u64 x.to, .int .u64 x.amt, .int .u64 x.fee, .int .u64 x.non]
theorem se_tx : seA Tryz.prog 67 6 16 .u8 = true := by kernel_rfl
theorem tx_kind (x y : Tx) : ∀ (i : Nat) (u v : Value), (txA x)[i]? = some u → (txA y)[i]? = some v → sk false u v := fun i u v hu hv => by
 match i, hu, hv with
 | 0, hu, hv => cases hu; cases hv; exact ⟨_, _, _, rfl, rfl⟩
 | 1, hu, hv => cases hu; cases hv; exact ⟨_, _, _, rfl, rfl⟩
 | 2, hu, hv => cases hu; cases hv; exact ⟨_, _, _, rfl, rfl⟩
 | 3, hu, hv => cases hu; cases hv; exact ⟨_, _, _, rfl, rfl⟩
 | 4, hu, hv => cases hu; cases hv; exact ⟨_, _, _, rfl, rfl⟩
 | 5, hu, hv => cases hu; cases hv; exact ⟨_, _, _, rfl, rfl⟩
 | n + 6, hu, _ => cases hu
theorem tx_inj {x y : Tx} (h : txA x ++ ints .u8 x.sg16 = txA y ++ ints .u8 y.sg16) : x = y := by
 obtain ⟨h1, h2⟩ := List.append_inj h rfl
 have h3 := ints_inj h2
 cases x; cases y
 simp only [txA, List.cons.injEq, Value.int.injEq, true_and, and_true] at h1
 simp only at h3
 obtain ⟨rfl, rfl, rfl, rfl, rfl, rfl⟩ := h1
 subst h3; rfl
theorem txr_eq {x y : TxR} (h : x.t = y.t) : x = y := by cases x; cases y; cases h; rfl
theorem txr_iff (x y : TxR) : (txA x.t ++ ints .u8 x.t.sg16 = txA y.t ++ ints .u8 y.t.sg16) ↔ x = y := ⟨fun h => txr_eq (tx_inj h), fun h => by rw [h]⟩
noncomputable def eqB (x y : TxR) : Bool := @decide (x = y) (Classical.propDecidable _)
theorem eqB_iff (x y : TxR) : eqB x y = true ↔ x = y := @decide_eq_true_iff _ (Classical.propDecidable _)
theorem eqB_cells (x y : TxR) : eqB x y = true ↔ txA x.t ++ ints .u8 x.t.sg16 = txA y.t ++ ints .u8 y.t.sg16 := (eqB_iff x y).trans (txr_iff x y).symm
theorem eqB_no {x y : TxR} (h : eqB x y = false) : x ≠ y := fun e => by rw [(eqB_iff x y).2 e] at h; cases h
noncomputable def inT (l : List TxR) (x : TxR) : Bool := @decide (x ∈ l) (Classical.propDecidable _)
theorem inT_iff (l : List TxR) (x : TxR) : inT l x = true ↔ x ∈ l := @decide_eq_true_iff _ (Classical.propDecidable _)
theorem inT_no {l : List TxR} {x : TxR} (h : inT l x = false) : x ∉ l := fun e => by rw [(inT_iff l x).2 e] at h; cases h
theorem mem_at {l : List TxR} {x : TxR} (h : ∀ (j : Nat) (y : TxR), j < l.length → l[j]? = some y → y ≠ x) : x ∉ l := fun hm => by
 obtain ⟨j, hj, e⟩ := List.mem_iff_getElem.1 hm
 exact h j x hj (by rw [List.getElem?_eq_getElem hj, e]) rfl
/-! ### A list in two -/
theorem filter_at {L : List TxR} {p : TxR → Bool} {i : Nat} {y : TxR} (h : L[i]? = some y) (hp : p y = true) : (L.filter p)[((L.take i).filter p).length]? = some y := by
 obtain ⟨hi, e⟩ := List.getElem?_eq_some_iff.1 h
 have h1 : L = L.take i ++ y :: L.drop (i + 1) := by
  rw [← e]; conv => lhs; rw [← List.take_append_drop i L]
  rw [List.drop_eq_getElem_cons hi]
 have h2 : L.filter p = (L.take i).filter p ++ (y :: L.drop (i + 1)).filter p := by
  conv => lhs; rw [h1]
  rw [List.filter_append]
 rw [h2, List.getElem?_append_right (Nat.le_refl _), Nat.sub_self, List.filter_cons_of_pos hp]; rfl
theorem filter_next {L : List TxR} {p : TxR → Bool} {i : Nat} {y : TxR} (h : L[i]? = some y) : ((L.take (i + 1)).filter p).length = ((L.take i).filter p).length + (if p y = true then 1 else 0) := by
 rw [List.take_add_one, h, List.filter_append, List.length_append]
 cases hp : p y <;> simp [hp]
theorem filter_two (L : List TxR) (p : TxR → Bool) : L.length = (L.filter p).length + (L.filter fun x => !p x).length := by
 induction L with
 | nil => rfl
 | cons x L ih =>
  rw [List.filter_cons, List.filter_cons]
  cases h : p x <;> simp [h] <;> omega
/-! ### What an Add changed -/
structure AddFacts (L N : List TxR) (x : TxR) (most : Int) : Prop where
 new : x ∈ N
 gone : ∀ y ∈ L, y ∉ N → y.t.fee < x.t.fee ∧ (keyT y = keyT x ∨ (most ≤ (L.length : Int) ∧ y.t.frm ≠ x.t.frm ∧ ∀ z ∈ L, z.t.frm = y.t.frm → z.t.non ≤ y.t.non))
 one : ∀ y ∈ L, y ∉ N → ∀ z ∈ L, z ∉ N → y = z
 all : (∀ y ∈ L, y ∈ N) → N.length = L.length + 1
 some_ : (∃ y ∈ L, y ∉ N) → N.length = L.length
/-- How many are gone among the first. -/
def GoneAt (L N : List TxR) (i g : Nat) : Prop := (g = 0 ∧ ∀ y ∈ L.take i, y ∈ N) ∨ (g = 1 ∧ ∃ y ∈ L.take i, y ∉ N)
theorem GoneAt.start {L N : List TxR} : GoneAt L N 0 0 := .inl ⟨rfl, fun y hy => by rw [List.take_zero] at hy; cases hy⟩
theorem take_snoc {L : List TxR} {i : Nat} {y : TxR} (h : L[i]? = some y) : L.take (i + 1) = L.take i ++ [y] := by rw [List.take_add_one, h]; rfl
theorem GoneAt.here {L N : List TxR} {i g : Nat} {y : TxR} (h : GoneAt L N i g) (hy : L[i]? = some y) (hm : y ∈ N) : GoneAt L N (i + 1) g := by
 unfold GoneAt
 rw [take_snoc hy]
 rcases h with ⟨rfl, h⟩ | ⟨rfl, z, hz, h⟩
 ·refine .inl ⟨rfl, fun z hz => ?_⟩
  rcases List.mem_append.1 hz with hz | hz
  ·exact h z hz
  ·rw [List.mem_singleton] at hz; subst hz; exact hm
 ·exact .inr ⟨rfl, z, List.mem_append_left _ hz, h⟩
theorem GoneAt.not {L N : List TxR} {x : TxR} {most : Int} (f : AddFacts L N x most) (hn : L.Nodup) {i g : Nat} {y : TxR} (h : GoneAt L N i g) (hy : L[i]? = some y) (hm : y ∉ N) : g = 0 ∧ GoneAt L N (i + 1) (g + 1) := by
 have hyL := List.mem_of_getElem? hy
 unfold GoneAt
 rw [take_snoc hy]
 rcases h with ⟨rfl, h⟩ | ⟨rfl, z, hz, h⟩
 ·exact ⟨rfl, .inr ⟨rfl, y, by simp, hm⟩⟩
 ·exfalso
  obtain rfl := f.one z (List.mem_of_mem_take hz) h y hyL hm
  obtain ⟨hi, e⟩ := List.getElem?_eq_some_iff.1 hy
  obtain ⟨j, hj, e2⟩ := List.mem_iff_getElem.1 hz
  rw [List.length_take] at hj
  rw [List.getElem_take] at e2
  exact List.pairwise_iff_getElem.1 hn j i (by omega) hi (by omega) (e2.trans e.symm)
theorem GoneAt.fin {L N : List TxR} {x : TxR} {most : Int} (f : AddFacts L N x most) {g : Nat} (h : GoneAt L N L.length g) : g ≤ 1 ∧ (N.length : Int) = (L.length : Int) + 1 - (g : Int) := by
 unfold GoneAt at h
 rw [List.take_length] at h
 rcases h with ⟨rfl, h⟩ | ⟨rfl, h⟩
 ·have := f.all h; omega
 ·have := f.some_ h; omega
theorem sameTxs_ok {gl : Nat → Obj} (b1 b2 : Option Addr) (c1 c2 : Nat) (l : List TxR) (hl : l.length ≤ 4611686018427387904) : SpecV (cx gl) 44 [.slice b1 l.length c1, .slice b2 l.length c2] (fun w => Row w b1 (rc l) ∧ Row w b2 (rc l)) (.bool true) := by
 refine Spec.enter (C := cx gl) Tryz.func44 rfl 26 rfl rfl fun w0 h0 hsep hsub hpre => ?_
 obtain rfl : h0 = Heap.none := hsep
 show St (cx gl) _ [(0, .slice b1 l.length c1), (1, .slice b2 l.length c2)] _ _
 refine rT (lA (k:=?_))
 refine L_nil (qT (rS (rT (lMv (k:=lP (pL ty_sl_92) (k:=lMv (k:=lP (pL ty_sl_92) (k:=lP pNe (k:=?_)))))))))
 refine E_false (t := 10) rfl (decide_eq_false (fun h => h rfl)) ?_
 refine lQ (cE 0 rfl (cE 1 rfl (cE 4 rfl (cE 10 rfl .nil)))) (kF (k:=R_skip (qT (rS (rT (lA (k:=?_)))))))
 refine lQ (cE 0 rfl (cE 1 rfl (cE 4 rfl (cE 5 rfl .nil)))) (R_block ?_)
 refine R_loopE (G := Nat) (cE 0 rfl (cE 1 rfl (cE 4 rfl .nil))) (fun g => [(5, .int .i64 ((g : Nat) : Int))]) (fun _ => _) (fun g => g ≤ l.length) (fun g => l.length - g) (0) (Nat.zero_le _) (by repeat (first | exact .nil | refine .cons rfl ?_ | refine .consE rfl (by first | rfl | (congr 1; omega) | (congr 1; push_cast; omega)) ?_)) (Weak.refl _) ?_
 intro i hinv
 replace hinv : i ≤ l.length := hinv
 show St (cx gl) _ ((5, .int .i64 ((i : Nat) : Int)) :: _) _ _
 have hi := hinv
 refine rS (rT (lMv (k:=lMv (k:=lP (pL ty_sl_92) (k:=lP pLt (k:=?_))))))
 refine L_nil (qT ?_)
 refine R_condP rfl (fun hlt => ?_) (fun hlt => ?_)
 ·skip
  have him : i < l.length := by omega
  obtain ⟨x, hx⟩ : ∃ q, l[i]? = some q := ⟨_, List.getElem?_eq_getElem (by omega)⟩
  obtain ⟨pb, pj, rfl, prow⟩ := hpre.1.some_ (by rw [rc_length]; show 0 < l.length * 22; omega)
  obtain ⟨qb, qj, rfl, qrow⟩ := hpre.2.some_ (by rw [rc_length]; show 0 < l.length * 22; omega)
  refine R_skip (qT (rS (R_block (rS ?_))))
  refine R_open [(0, 0), (1, 0), (2, 0), (3, 1), (4, 0), (5, 0), (6, 0), (7, 1), (8, 0)] mixed (by kernel_rfl) (QOk.then (QOk.block (QOk.then (QOk.then (QOk.block (QOk.then QOk.body)))))) (oP rfl pM (k:=oP rfl pM (k:=?_)))
  refine oP rfl (P_ixs (i) rfl ty_sl_92 rfl rfl (by first | rfl | omega) (by omega)) (k:=?_)
  refine oV rfl (V_loadAgg rfl rfl ty_ag_67 (rds_rc (Rds.row prow rfl) hx) (x.ok.cellsLen)) (k:=oP rfl pM (k:=oP rfl pM (k:=?_)))
  refine oP rfl (P_ixs (i) rfl ty_sl_92 rfl rfl (by first | rfl | omega) (by omega)) (k:=?_)
  refine oV rfl (V_loadAgg rfl rfl ty_ag_67 (rds_rc (Rds.row qrow rfl) hx) (x.ok.cellsLen)) (k:=?_)
  refine oP rfl (P_neq_structA (xs := txA x.t) (ys := txA x.t) rfl se_tx rfl rfl rfl rfl (tx_kind _ _) x.ok.len x.ok.len ⟨fun _ => rfl, fun _ => rfl⟩) (k:=?_)
  refine E_false (t := 25) rfl (rfl) (O_nil (qT (kF (k:=R_skip (Q_block (qT (rR (lMv (k:=?_)))))))))
  first | (refine L_val rfl rfl rfl (OpP.v (P_addN rfl rfl rfl (by simp only [fits]; omega))) ?_) | (refine L_val rfl rfl rfl (OpP.v (P_add rfl rfl rfl)) ?_)
  refine lA (k:=?_)
  refine L_nil ?_
  exact Q_round (i + 1) (by show i + 1 ≤ l.length; omega) (by show l.length - (i + 1) < l.length - i; omega) (by repeat (first | exact .nil | refine .cons rfl ?_ | refine .consE rfl (by first | rfl | (congr 1; omega) | (congr 1; push_cast; omega)) ?_)) (Weak.refl _)
 ·skip
  refine R_exit (Q_then_exit (Q_then_exit (Q_block_eq ?_)))
  refine St.env (cE 4 rfl .nil) (qT (rT (lA (k:=?_))))
  refine L_nil (qT (R_ret ?_))
  exact R_endV rfl rfl (.tmp rfl .nil) (rfl)
theorem hasTx_ok {gl : Nat → Obj} (b1 : Option Addr) (c1 : Nat) (l : List TxR) (hl : l.length ≤ 4611686018427387904) (x : TxR) : SpecV (cx gl) 71 [.slice b1 l.length c1, .agg x.t.cells.toArray] (fun w => Row w b1 (rc l)) (.bool (inT l x)) := by
 refine Spec.enter (C := cx gl) Tryz.func71 rfl 18 rfl rfl fun w0 h0 hsep hsub hpre => ?_
 obtain rfl : h0 = Heap.none := hsep
 show St (cx gl) _ [(0, .slice b1 l.length c1), (1, .agg x.t.cells.toArray)] _ _
 refine rT ?_
 refine lO (W_box (x.t.cells) rfl rfl rfl rfl rfl fun b3 => lA (k:=?_))
 refine lQ (cE 0 rfl (cE 3 rfl (cE 4 rfl .nil))) (rS (rT (lA (k:=?_))))
 refine L_nil (qT (R_block ?_))
 refine R_loopE (G := Nat) (cE 0 rfl (cE 3 rfl (cE 4 rfl .nil))) (fun g => [(5, .int .i64 ((g : Nat) : Int))]) (fun _ => _) (fun g => g ≤ l.length ∧ ∀ (j : Nat) (q9 : TxR), j < g → l[j]? = some q9 → q9 ≠ x) (fun g => l.length - g) (0) (by show (0) ≤ l.length ∧ ∀ (j : Nat) (q9 : TxR), j < (0) → l[j]? = some q9 → q9 ≠ x; exact ⟨Nat.zero_le _, fun j _ h => absurd h (Nat.not_lt_zero j)⟩) (by repeat (first | exact .nil | refine .cons rfl ?_ | refine .consE rfl (by first | rfl | (congr 1; omega) | (congr 1; push_cast; omega)) ?_)) (Weak.refl _) ?_
 intro i hinv
 replace hinv : i ≤ l.length ∧ ∀ (j : Nat) (q9 : TxR), j < i → l[j]? = some q9 → q9 ≠ x := hinv
 show St (cx gl) _ ((5, .int .i64 ((i : Nat) : Int)) :: _) _ _
 obtain ⟨hi, hno⟩ := hinv
 refine rS (rT (lMv (k:=lMv (k:=lP (pL ty_sl_92) (k:=lP pLt (k:=?_))))))
 refine L_nil (qT ?_)
 refine R_condP rfl (fun hlt => ?_) (fun hlt => ?_)
 ·skip
  have him : i < l.length := by omega
  obtain ⟨y, hy⟩ : ∃ q, l[i]? = some q := ⟨_, List.getElem?_eq_getElem (by omega)⟩
  obtain ⟨pb, pj, rfl, prow⟩ := hpre.some_ (by rw [rc_length]; show 0 < l.length * 22; omega)
  refine R_skip (qT (rS (R_block (rS ?_))))
  refine R_open [(0, 0), (1, 0), (2, 0), (3, 1), (4, 1), (5, 0)] mixed (by kernel_rfl) (QOk.then (QOk.block (QOk.then (QOk.then (QOk.block (QOk.then QOk.body)))))) (oP rfl pM (k:=oP rfl pM (k:=?_)))
  refine oP rfl (P_ixs (i) rfl ty_sl_92 rfl rfl (by first | rfl | omega) (by omega)) (k:=?_)
  refine oV rfl (V_loadAgg rfl rfl ty_ag_67 (rds_rc (Rds.row prow rfl) hy) (y.ok.cellsLen)) (k:=?_)
  refine oV rfl (V_loadAgg rfl rfl ty_ag_67 (Rds.blk .h0) (x.ok.cellsLen)) (k:=?_)
  refine oP rfl (P_eql_structA (xs := txA y.t) (ys := txA x.t) rfl se_tx rfl rfl rfl rfl (tx_kind _ _) y.ok.len x.ok.len (eqB_cells y x)) (k:=?_)
  refine E_bool (t := 17) rfl (fun hq0 => ?_) (fun hq0 => ?_)
  ·skip
   refine O_nil (qT (kT (k:=rT (lA (k:=?_)))))
   refine L_nil (qT (R_ret (Q_block_ret (Q_then_ret (Q_then_ret (Q_block_ret (Q_then_ret ?_)))))))
   exact R_endV rfl rfl (.tmp rfl .nil) (by rw [(inT_iff l x).2 (by rw [← (eqB_iff y x).1 hq0]; exact List.mem_of_getElem? hy)]; rfl)
  ·skip
   refine O_nil (qT (kF (k:=R_skip (Q_block (qT (rR (lMv (k:=?_))))))))
   first | (refine L_val rfl rfl rfl (OpP.v (P_addN rfl rfl rfl (by simp only [fits]; omega))) ?_) | (refine L_val rfl rfl rfl (OpP.v (P_add rfl rfl rfl)) ?_)
   refine lA (k:=?_)
   refine L_nil ?_
   exact Q_round (i + 1) (by show (i + 1) ≤ l.length ∧ ∀ (j : Nat) (q9 : TxR), j < (i + 1) → l[j]? = some q9 → q9 ≠ x; exact ⟨by omega, fun j q9 hj hq => by rcases Nat.lt_succ_iff_lt_or_eq.1 hj with h9 | h9; exact hno j q9 h9 hq; subst h9; rw [hy] at hq; cases hq; exact eqB_no hq0⟩) (by show l.length - (i + 1) < l.length - i; omega) (by repeat (first | exact .nil | refine .cons rfl ?_ | refine .consE rfl (by first | rfl | (congr 1; omega) | (congr 1; push_cast; omega)) ?_)) (Weak.refl _)
 ·skip
  obtain rfl : i = l.length := by omega
  have hnm : x ∉ l := mem_at hno
  refine R_exit (Q_then_exit (Q_then_exit (Q_block_eq ?_)))
  refine St.env (cE 4 rfl .nil) (qT (rT (lA (k:=?_))))
  refine L_nil (qT (R_ret ?_))
  exact R_endV rfl rfl (.tmp rfl .nil) (by rw [show inT l x = false from by cases h9 : inT l x with | false => rfl | true => exact absurd ((inT_iff l x).1 h9) hnm]; rfl)
theorem dearer_ok {gl : Nat → Obj} (x y : Tx) : SpecV (cx gl) 148 [.agg x.cells.toArray, .agg y.cells.toArray] noPre (.bool (decide (cmpT x y < 0))) := by
 refine Spec.enter (C := cx gl) Tryz.func148 rfl 30 rfl rfl fun w0 h0 hsep hsub hpre => ?_
 obtain rfl : h0 = Heap.none := hsep
 show St (cx gl) _ [(0, .agg x.cells.toArray), (1, .agg y.cells.toArray)] _ _
 refine rT ?_
 refine lO (W_box (x.cells) rfl rfl rfl rfl rfl fun b2 => ?_)
 refine lO (W_box (y.cells) rfl rfl rfl rfl rfl fun b3 => lA (k:=?_))
 refine lQ (cE 2 rfl (cE 3 rfl (cE 4 rfl .nil))) (rS (rT (lP (pF ty_fl_67_4) (k:=lV (vB ty_sc_23 .h1) (k:=lP (pF ty_fl_67_4) (k:=lV (vB ty_sc_23 .h0) (k:=lP pNe (k:=?_))))))))
 refine lQ (cE 2 rfl (cE 3 rfl (cE 4 rfl (cE 9 rfl .nil)))) ?_
 refine R_condP rfl (fun h1 => ?_) (fun h1 => ?_)
 ·skip
  refine rT (lP (pF ty_fl_67_4) (k:=lV (vB ty_sc_23 .h1) (k:=lP (pF ty_fl_67_4) (k:=lV (vB ty_sc_23 .h0) (k:=lP pGt (k:=lA (k:=?_)))))))
  refine lQ (cE 2 rfl (cE 3 rfl (cE 4 rfl .nil))) (R_ret (Q_then_ret ?_))
  exact R_endV rfl rfl (.tmp rfl .nil) (by show Value.bool _ = Value.bool _; congr 1; rw [decide_eq_decide, cmpT_neg]; omega)
 ·skip
  have h1 : x.fee = y.fee := Classical.not_not.1 h1
  refine R_skip (qT (rS (rT (lP (pF ty_fl_67_1) (k:=lV (vB ty_sc_26 .h1) (k:=lP (pF ty_fl_67_1) (k:=lV (vB ty_sc_26 .h0) (k:=lP pNe (k:=?_)))))))))
  refine lQ (cE 2 rfl (cE 3 rfl (cE 4 rfl (cE 19 rfl .nil)))) ?_
  refine R_condP rfl (fun h2 => ?_) (fun h2 => ?_)
  ·skip
   refine rT (lP (pF ty_fl_67_1) (k:=lV (vB ty_sc_26 .h1) (k:=lP (pF ty_fl_67_1) (k:=lV (vB ty_sc_26 .h0) (k:=lP pLt (k:=lA (k:=?_)))))))
   refine lQ (cE 2 rfl (cE 3 rfl (cE 4 rfl .nil))) (R_ret (Q_then_ret ?_))
   exact R_endV rfl rfl (.tmp rfl .nil) (by show Value.bool _ = Value.bool _; congr 1; rw [decide_eq_decide, cmpT_neg]; omega)
  ·skip
   have h2 : x.frm = y.frm := Classical.not_not.1 h2
   refine R_skip (qT (rT (lP (pF ty_fl_67_5) (k:=lV (vB ty_sc_23 .h1) (k:=lP (pF ty_fl_67_5) (k:=lV (vB ty_sc_23 .h0) (k:=lP pLt (k:=lA (k:=?_)))))))))
   refine lQ (cE 4 rfl .nil) (R_ret ?_)
   exact R_endV rfl rfl (.tmp rfl .nil) (by show Value.bool _ = Value.bool _; congr 1; rw [decide_eq_decide, cmpT_neg]; omega)
end Go.Proofs.YtcngmkjdpoiiaaaGreatDoor

/- What an Add changed. Printed by gen.py. -/
set_option maxRecDepth 100000
namespace Go.Proofs.YtcngmkjdpoiiaaaGreatDoor
open Go Go.RowKit Go.Proofs Go.Sort
set_option maxHeartbeats 1000000 in
theorem added_ok {gl : Nat → Obj} (b1 b2 : Option Addr) (c1 c2 : Nat) (L M : List TxR) (hl : L.length ≤ 65536) (hlM : M.length ≤ 4611686018427387904) (x : TxR) (most : Int) (hn : L.Nodup) (hf : AddFacts L M x most) : SpecV (cx gl) 60 [.slice b1 L.length c1, .slice b2 M.length c2, .agg x.t.cells.toArray, .int .i64 (most)] (fun w => Row w b1 (rc L) ∧ Row w b2 (rc M)) (.bool true) := by
 refine Spec.enter (C := cx gl) Tryz.func60 rfl 107 rfl rfl fun w0 h0 hsep hsub hpre => ?_
 obtain rfl : h0 = Heap.none := hsep
 show St (cx gl) _ [(0, .slice b1 L.length c1), (1, .slice b2 M.length c2), (2, .agg x.t.cells.toArray), (3, .int .i64 (most))] _ _
 refine rT ?_
 refine lO (W_box (x.t.cells) rfl rfl rfl rfl rfl fun b6 => lA (k:=?_))
 refine lQ (cE 0 rfl (cE 1 rfl (cE 3 rfl (cE 6 rfl (cE 8 rfl .nil))))) (rS (rT (lMv (k:=?_))))
 refine lV (V_loadAgg rfl rfl ty_ag_67 (Rds.blk .h0) (x.ok.cellsLen)) (k:=?_)
 refine lO (W_callV rfl rfl rfl rfl fn_ca_71 (hasTx_ok b2 c2 M hlM x) (fun w nw => (Sn.row hpre.2 rfl).rw_ w nw) ?_)
 refine E_true (t := 16) rfl ((inT_iff M x).2 hf.new) (lP pO (k:=?_))
 refine lQ (cE 0 rfl (cE 1 rfl (cE 3 rfl (cE 6 rfl (cE 8 rfl (cE 17 rfl .nil)))))) (kF (k:=R_skip (qT (rT (lA (k:=?_))))))
 refine lQ (cE 0 rfl (cE 1 rfl (cE 3 rfl (cE 6 rfl (cE 8 rfl (cE 9 rfl .nil)))))) (rS (rT (lA (k:=?_))))
 refine L_nil (qT (R_block ?_))
 refine R_loopE (G := Nat × Nat) (cE 0 rfl (cE 1 rfl (cE 3 rfl (cE 6 rfl (cE 8 rfl .nil))))) (fun g => [(9, .int .i64 ((g.2 : Nat) : Int)), (10, .int .i64 ((g.1 : Nat) : Int))]) (fun g => [blk b6 x.t.cells 67]) (fun g => g.1 ≤ L.length ∧ GoneAt L M g.1 g.2) (fun g => L.length - g.1) (0, 0) (by show (0) ≤ L.length ∧ GoneAt L M (0) (0); exact ⟨Nat.zero_le _, GoneAt.start⟩) (by repeat (first | exact .nil | refine .cons rfl ?_ | refine .consE rfl (by first | rfl | (congr 1; omega) | (congr 1; push_cast; omega)) ?_)) (Weak.refl _) ?_
 rintro ⟨i, g0⟩ hinv
 replace hinv : i ≤ L.length ∧ GoneAt L M i g0 := hinv
 show St (cx gl) _ ((9, .int .i64 ((g0 : Nat) : Int)) :: (10, .int .i64 ((i : Nat) : Int)) :: _) [blk b6 x.t.cells 67] _
 obtain ⟨hi, hg⟩ := hinv
 refine rS (rT (lMv (k:=lMv (k:=lP (pL ty_sl_92) (k:=lP pLt (k:=?_))))))
 refine L_nil (qT ?_)
 refine R_condP rfl (fun hlt => ?_) (fun hlt => ?_)
 ·skip
  have him : i < L.length := by omega
  obtain ⟨y, hy⟩ : ∃ q, L[i]? = some q := ⟨_, List.getElem?_eq_getElem (by omega)⟩
  obtain ⟨pb, pj, rfl, prow⟩ := hpre.1.some_ (by rw [rc_length]; show 0 < L.length * 22; omega)
  have hyL := List.mem_of_getElem? hy
  refine R_skip (qT (rS (R_block (rT (lMv (k:=lMv (k:=?_)))))))
  refine lP (P_ixs (i) rfl ty_sl_92 rfl rfl (by first | rfl | omega) (by omega)) (k:=?_)
  refine lV (V_loadAgg rfl rfl ty_ag_67 (rds_rc (Rds.row prow rfl) hy) (y.ok.cellsLen)) (k:=?_)
  refine lO (W_alloc rfl rfl rfl ty_ze_67 fun b11 => ?_)
  refine lO (W_storeAll rfl rfl rfl rfl ty_ag_67 (y.ok.cellsLen) (Tx.one _) .h0 (y.ok.cellsLen) ?_)
  refine L_nil (qT (rS (rT (lMv (k:=?_)))))
  refine lV (V_loadAgg rfl rfl ty_ag_67 (Rds.blk .h0) (y.ok.cellsLen)) (k:=?_)
  refine lO (W_callV rfl rfl rfl rfl fn_ca_71 (hasTx_ok b2 c2 M hlM y) (fun w nw => (Sn.row hpre.2 rfl).rw_ w nw) ?_)
  refine L_nil (qT ?_)
  refine R_cond rfl (fun hm => ?_) (fun hm => ?_)
  ·skip
   refine R_exit (Q_then_exit (Q_block_eq (qT (rR (lMv (k:=?_))))))
   first | (refine L_val rfl rfl rfl (OpP.v (P_addN rfl rfl rfl (by simp only [fits]; omega))) ?_) | (refine L_val rfl rfl rfl (OpP.v (P_add rfl rfl rfl)) ?_)
   refine lA (k:=?_)
   refine L_nil ?_
   exact Q_round (i + 1, g0) (by show (i + 1) ≤ L.length ∧ GoneAt L M (i + 1) (g0); exact ⟨by omega, hg.here hy ((inT_iff M y).1 hm)⟩) (by show L.length - (i + 1) < L.length - i; omega) (by repeat (first | exact .nil | refine .cons rfl ?_ | refine .consE rfl (by first | rfl | (congr 1; omega) | (congr 1; push_cast; omega)) ?_)) (Weak.drop (Weak.refl _))
  ·skip
   have hnM := inT_no hm
   obtain ⟨hg0, hg2⟩ := hg.not hf hn hy hnM
   obtain ⟨hfee, hwhy⟩ := hf.gone y hyL hnM
   refine R_skip (qT (rT (lMv (k:=?_))))
   refine lP (P_addN rfl rfl rfl (by simp only [fits]; omega)) (k:=?_)
   refine E_as (t := 32) (v' := .int .i64 ((g0 + 1 : Nat) : Int)) rfl (by congr 1) (lA (k:=?_))
   refine L_nil (qT ?_)
   refine R_joinE (G := Bool) (cE 0 rfl (cE 1 rfl (cE 3 rfl (cE 6 rfl (cE 8 rfl (cE 9 rfl (cE 10 rfl (cE 11 rfl (cE 18 rfl (cE 19 rfl (cE 20 rfl (cE 21 rfl (cE 24 rfl (cE 25 rfl (cE 26 rfl (cE 27 rfl (cE 28 rfl (cE 29 rfl (cE 30 rfl (cE 31 rfl (cE 32 rfl .nil))))))))))))))))))))) (fun g => [(12, .bool g)]) (fun g => [blk b11 y.t.cells 67, blk b6 x.t.cells 67]) (fun g => g = true ↔ keyT y = keyT x) ?_ ?_
   ·skip
    refine rR (lP (pF ty_fl_67_1) (k:=lV (vB ty_sc_26 .h0) (k:=lP (pF ty_fl_67_1) (k:=lV (vB ty_sc_26 .h1) (k:=lP pEq (k:=?_))))))
    refine E_bool (t := 37) rfl (fun q1 => ?_) (fun q1 => ?_)
    ·skip
     have q1 := of_decide_eq_true q1
     refine lMv (k:=lP (pF ty_fl_67_5) (k:=lV (vB ty_sc_23 .h0) (k:=lP (pF ty_fl_67_5) (k:=lV (vB ty_sc_23 .h1) (k:=lP pEq (k:=?_))))))
     refine E_bool (t := 43) rfl (fun q2 => ?_) (fun q2 => ?_)
     ·skip
      have q2 := of_decide_eq_true q2
      refine lP pK (k:=lA (k:=?_))
      refine L_nil ?_
      exact Q_meet (true) (by show (true) = true ↔ keyT y = keyT x; exact ⟨fun _ => Prod.ext q1 q2, fun _ => rfl⟩) (by repeat (first | exact .nil | refine .cons rfl ?_ | refine .consE rfl (by first | rfl | (congr 1; omega) | (congr 1; push_cast; omega)) ?_)) (Weak.refl _)
     ·skip
      have q2 := of_decide_eq_false q2
      refine lP pK (k:=lA (k:=?_))
      refine L_nil ?_
      exact Q_meet (false) (by show (false) = true ↔ keyT y = keyT x; exact ⟨fun h => (by cases h), fun h => absurd (congrArg Prod.snd h) q2⟩) (by repeat (first | exact .nil | refine .cons rfl ?_ | refine .consE rfl (by first | rfl | (congr 1; omega) | (congr 1; push_cast; omega)) ?_)) (Weak.refl _)
    ·skip
     have q1 := of_decide_eq_false q1
     refine lMv (k:=lN (k:=lN (k:=lN (k:=lN (k:=lN (k:=lP pK (k:=lA (k:=?_))))))))
     refine L_nil ?_
     exact Q_meet (false) (by show (false) = true ↔ keyT y = keyT x; exact ⟨fun h => (by cases h), fun h => absurd (congrArg Prod.fst h) q1⟩) (by repeat (first | exact .nil | refine .cons rfl ?_ | refine .consE rfl (by first | rfl | (congr 1; omega) | (congr 1; push_cast; omega)) ?_)) (Weak.refl _)
   ·intro sm hinv
    replace hinv : sm = true ↔ keyT y = keyT x := hinv
    show St (cx gl) _ ((12, .bool sm) :: _) [blk b11 y.t.cells 67, blk b6 x.t.cells 67] _
    have hsm := hinv
    refine rS (rT (lP (pF ty_fl_67_4) (k:=lV (vB ty_sc_23 .h0) (k:=lP (pF ty_fl_67_4) (k:=lV (vB ty_sc_23 .h1) (k:=lP pGe (k:=?_)))))))
    refine E_false (t := 49) rfl (decide_eq_false (by omega)) (lMv (k:=lMv (k:=?_)))
    refine E_bool (t := 51) rfl (fun q3 => ?_) (fun q3 => ?_)
    ·skip
     have q3 : keyT y = keyT x := hsm.1 q3
     refine lP pO (k:=lMv (k:=lN (k:=lN (k:=lN (k:=lN (k:=lN (k:=lN (k:=lN (k:=lN (k:=lN (k:=lN (k:=lN (k:=lP pK (k:=lP pK (k:=?_)))))))))))))))
     refine L_nil (qT (kF (k:=R_skip (qT (rT (lA (k:=?_)))))))
     refine L_nil (qT (R_block ?_))
     refine R_loopE (G := Nat) (cE 0 rfl (cE 1 rfl (cE 3 rfl (cE 6 rfl (cE 8 rfl (cE 9 rfl (cE 10 rfl (cE 11 rfl (cE 12 rfl (cE 18 rfl (cE 19 rfl (cE 20 rfl (cE 21 rfl (cE 24 rfl (cE 25 rfl (cE 26 rfl (cE 27 rfl (cE 28 rfl (cE 29 rfl (cE 30 rfl (cE 31 rfl (cE 32 rfl (cE 45 rfl (cE 46 rfl (cE 47 rfl (cE 48 rfl (cE 49 rfl (cE 50 rfl (cE 51 rfl (cE 52 rfl (cE 53 rfl (cE 54 rfl (cE 55 rfl (cE 56 rfl (cE 57 rfl (cE 58 rfl (cE 59 rfl (cE 60 rfl (cE 61 rfl (cE 62 rfl (cE 63 rfl (cE 64 rfl (cE 65 rfl (cE 66 rfl .nil)))))))))))))))))))))))))))))))))))))))))))) (fun g => [(13, .int .i64 ((g : Nat) : Int))]) (fun g => [blk b11 y.t.cells 67, blk b6 x.t.cells 67]) (fun g => g ≤ L.length) (fun g => L.length - g) (0) (Nat.zero_le _) (by repeat (first | exact .nil | refine .cons rfl ?_ | refine .consE rfl (by first | rfl | (congr 1; omega) | (congr 1; push_cast; omega)) ?_)) (Weak.refl _) ?_
     intro j hinv
     replace hinv : j ≤ L.length := hinv
     show St (cx gl) _ ((13, .int .i64 ((j : Nat) : Int)) :: _) [blk b11 y.t.cells 67, blk b6 x.t.cells 67] _
     have hj := hinv
     refine rS (rT (lMv (k:=lMv (k:=lP (pL ty_sl_92) (k:=lP pLt (k:=?_))))))
     refine L_nil (qT ?_)
     refine R_condP rfl (fun hlt2 => ?_) (fun hlt2 => ?_)
     ·skip
      have hjm : j < L.length := by omega
      obtain ⟨z, hz⟩ : ∃ q, L[j]? = some q := ⟨_, List.getElem?_eq_getElem (by omega)⟩
      have hzL := List.mem_of_getElem? hz
      refine R_skip (qT (rS (R_block (rS ?_))))
      refine R_open [(0, 0), (1, 0), (2, 0), (3, 0), (4, 0), (5, 0), (6, 0), (7, 1), (8, 0), (9, 1), (10, 0), (11, 0), (12, 0), (13, 0), (14, 0), (15, 0), (16, 0), (17, 1), (18, 0), (19, 1), (20, 0), (21, 0)] mixed (by kernel_rfl) (QOk.then (QOk.block (QOk.then (QOk.then (QOk.block (QOk.block (QOk.then (QOk.then (QOk.block (QOk.then QOk.body)))))))))) (oP rfl pM (k:=?_))
      refine E_bool (t := 73) rfl (fun q4 => ?_) (fun q4 => ?_)
      ·skip
       have q4 : keyT y = keyT x := hsm.1 q4
       refine oP rfl pO (k:=oP rfl pM (k:=?_))
       refine O_no rfl rfl rfl rfl ?_
       refine O_no rfl rfl rfl rfl ?_
       refine O_no rfl rfl rfl rfl ?_
       refine O_no rfl rfl rfl rfl ?_
       refine O_noX rfl rfl rfl rfl ?_
       refine O_no rfl rfl rfl rfl ?_
       refine O_noX rfl rfl rfl rfl ?_
       refine O_no rfl rfl rfl rfl (oP rfl pK (k:=oP rfl pM (k:=?_)))
       refine O_no rfl rfl rfl rfl ?_
       refine O_no rfl rfl rfl rfl ?_
       refine O_no rfl rfl rfl rfl ?_
       refine O_no rfl rfl rfl rfl ?_
       refine O_noX rfl rfl rfl rfl ?_
       refine O_no rfl rfl rfl rfl ?_
       refine O_noX rfl rfl rfl rfl ?_
       refine O_no rfl rfl rfl rfl (oP rfl pK (k:=O_nil (qT (kF (k:=R_skip (Q_block (qT (rR (lMv (k:=?_))))))))))
       first | (refine L_val rfl rfl rfl (OpP.v (P_addN rfl rfl rfl (by simp only [fits]; omega))) ?_) | (refine L_val rfl rfl rfl (OpP.v (P_add rfl rfl rfl)) ?_)
       refine lA (k:=?_)
       refine L_nil ?_
       exact Q_round (j + 1) (by show j + 1 ≤ L.length; omega) (by show L.length - (j + 1) < L.length - j; omega) (by repeat (first | exact .nil | refine .cons rfl ?_ | refine .consE rfl (by first | rfl | (congr 1; omega) | (congr 1; push_cast; omega)) ?_)) (Weak.refl _)
      ·skip
       have q4 : keyT y ≠ keyT x := fun h => by rw [hsm.2 h] at q4; cases q4
       obtain ⟨w1, w2, w3⟩ := hwhy.resolve_left q4
       refine oP rfl pO (k:=oP rfl pM (k:=oP rfl pM (k:=oP rfl pM (k:=?_))))
       refine oP rfl (P_ixs (j) rfl ty_sl_92 rfl rfl (by first | rfl | omega) (by omega)) (k:=oP rfl (pG ty_fl_67_1) (k:=?_))
       refine oV rfl (V_load rfl rfl ty_sc_26 (rd_rc (Rds.row prow rfl) hz rfl)) (k:=oP rfl (pF ty_fl_67_1) (k:=oV rfl (vB ty_sc_26 .h0) (k:=oP rfl pEq (k:=?_))))
       refine E_bool (t := 83) rfl (fun q5 => ?_) (fun q5 => ?_)
       ·skip
        have q5 := of_decide_eq_true q5
        refine oP rfl pK (k:=oP rfl pM (k:=oP rfl pM (k:=oP rfl pM (k:=?_))))
        refine oP rfl (P_ixs (j) rfl ty_sl_92 rfl rfl (by first | rfl | omega) (by omega)) (k:=oP rfl (pG ty_fl_67_5) (k:=?_))
        refine oV rfl (V_load rfl rfl ty_sc_23 (rd_rc (Rds.row prow rfl) hz rfl)) (k:=oP rfl (pF ty_fl_67_5) (k:=oV rfl (vB ty_sc_23 .h0) (k:=oP rfl pGt (k:=?_))))
        refine E_false (t := 93) rfl (decide_eq_false (by have := w3 z hzL q5; omega)) (oP rfl pK (k:=O_nil (qT (kF (k:=R_skip (Q_block (qT (rR (lMv (k:=?_))))))))))
        first | (refine L_val rfl rfl rfl (OpP.v (P_addN rfl rfl rfl (by simp only [fits]; omega))) ?_) | (refine L_val rfl rfl rfl (OpP.v (P_add rfl rfl rfl)) ?_)
        refine lA (k:=?_)
        refine L_nil ?_
        exact Q_round (j + 1) (by show j + 1 ≤ L.length; omega) (by show L.length - (j + 1) < L.length - j; omega) (by repeat (first | exact .nil | refine .cons rfl ?_ | refine .consE rfl (by first | rfl | (congr 1; omega) | (congr 1; push_cast; omega)) ?_)) (Weak.refl _)
       ·skip
        refine oP rfl pK (k:=oP rfl pM (k:=?_))
        refine O_no rfl rfl rfl rfl ?_
        refine O_no rfl rfl rfl rfl ?_
        refine O_no rfl rfl rfl rfl ?_
        refine O_no rfl rfl rfl rfl ?_
        refine O_noX rfl rfl rfl rfl ?_
        refine O_no rfl rfl rfl rfl ?_
        refine O_noX rfl rfl rfl rfl ?_
        refine O_no rfl rfl rfl rfl (oP rfl pK (k:=O_nil (qT (kF (k:=R_skip (Q_block (qT (rR (lMv (k:=?_))))))))))
        first | (refine L_val rfl rfl rfl (OpP.v (P_addN rfl rfl rfl (by simp only [fits]; omega))) ?_) | (refine L_val rfl rfl rfl (OpP.v (P_add rfl rfl rfl)) ?_)
        refine lA (k:=?_)
        refine L_nil ?_
        exact Q_round (j + 1) (by show j + 1 ≤ L.length; omega) (by show L.length - (j + 1) < L.length - j; omega) (by repeat (first | exact .nil | refine .cons rfl ?_ | refine .consE rfl (by first | rfl | (congr 1; omega) | (congr 1; push_cast; omega)) ?_)) (Weak.refl _)
     ·skip
      refine R_exit (Q_then_exit (Q_then_exit (Q_block_eq (Q_block (qT (rR (lMv (k:=?_))))))))
      first | (refine L_val rfl rfl rfl (OpP.v (P_addN rfl rfl rfl (by simp only [fits]; omega))) ?_) | (refine L_val rfl rfl rfl (OpP.v (P_add rfl rfl rfl)) ?_)
      refine lA (k:=?_)
      refine L_nil ?_
      exact Q_round (i + 1, g0 + 1) (by show (i + 1) ≤ L.length ∧ GoneAt L M (i + 1) (g0 + 1); exact ⟨by omega, hg2⟩) (by show L.length - (i + 1) < L.length - i; omega) (by repeat (first | exact .nil | refine .cons rfl ?_ | refine .consE rfl (by first | rfl | (congr 1; omega) | (congr 1; push_cast; omega)) ?_)) (Weak.drop (Weak.refl _))
    ·skip
     have q3 : keyT y ≠ keyT x := fun h => by rw [hsm.2 h] at q3; cases q3
     obtain ⟨w1, w2, w3⟩ := hwhy.resolve_left q3
     refine lP pO (k:=lMv (k:=lMv (k:=lP (pL ty_sl_92) (k:=lMv (k:=lP pLt (k:=?_))))))
     refine E_false (t := 57) rfl (decide_eq_false (by omega)) (lMv (k:=lP (pF ty_fl_67_1) (k:=lV (vB ty_sc_26 .h0) (k:=lP (pF ty_fl_67_1) (k:=lV (vB ty_sc_26 .h1) (k:=lP pEq (k:=?_)))))))
     refine E_false (t := 63) rfl (decide_eq_false w2) (lP pK (k:=lP pK (k:=lP pK (k:=?_))))
     refine L_nil (qT (kF (k:=R_skip (qT (rT (lA (k:=?_)))))))
     refine L_nil (qT (R_block ?_))
     refine R_loopE (G := Nat) (cE 0 rfl (cE 1 rfl (cE 3 rfl (cE 6 rfl (cE 8 rfl (cE 9 rfl (cE 10 rfl (cE 11 rfl (cE 12 rfl (cE 18 rfl (cE 19 rfl (cE 20 rfl (cE 21 rfl (cE 24 rfl (cE 25 rfl (cE 26 rfl (cE 27 rfl (cE 28 rfl (cE 29 rfl (cE 30 rfl (cE 31 rfl (cE 32 rfl (cE 45 rfl (cE 46 rfl (cE 47 rfl (cE 48 rfl (cE 49 rfl (cE 50 rfl (cE 51 rfl (cE 52 rfl (cE 53 rfl (cE 54 rfl (cE 55 rfl (cE 56 rfl (cE 57 rfl (cE 58 rfl (cE 59 rfl (cE 60 rfl (cE 61 rfl (cE 62 rfl (cE 63 rfl (cE 64 rfl (cE 65 rfl (cE 66 rfl .nil)))))))))))))))))))))))))))))))))))))))))))) (fun g => [(13, .int .i64 ((g : Nat) : Int))]) (fun g => [blk b11 y.t.cells 67, blk b6 x.t.cells 67]) (fun g => g ≤ L.length) (fun g => L.length - g) (0) (Nat.zero_le _) (by repeat (first | exact .nil | refine .cons rfl ?_ | refine .consE rfl (by first | rfl | (congr 1; omega) | (congr 1; push_cast; omega)) ?_)) (Weak.refl _) ?_
     intro j hinv
     replace hinv : j ≤ L.length := hinv
     show St (cx gl) _ ((13, .int .i64 ((j : Nat) : Int)) :: _) [blk b11 y.t.cells 67, blk b6 x.t.cells 67] _
     have hj := hinv
     refine rS (rT (lMv (k:=lMv (k:=lP (pL ty_sl_92) (k:=lP pLt (k:=?_))))))
     refine L_nil (qT ?_)
     refine R_condP rfl (fun hlt2 => ?_) (fun hlt2 => ?_)
     ·skip
      have hjm : j < L.length := by omega
      obtain ⟨z, hz⟩ : ∃ q, L[j]? = some q := ⟨_, List.getElem?_eq_getElem (by omega)⟩
      have hzL := List.mem_of_getElem? hz
      refine R_skip (qT (rS (R_block (rS ?_))))
      refine R_open [(0, 0), (1, 0), (2, 0), (3, 0), (4, 0), (5, 0), (6, 0), (7, 1), (8, 0), (9, 1), (10, 0), (11, 0), (12, 0), (13, 0), (14, 0), (15, 0), (16, 0), (17, 1), (18, 0), (19, 1), (20, 0), (21, 0)] mixed (by kernel_rfl) (QOk.then (QOk.block (QOk.then (QOk.then (QOk.block (QOk.block (QOk.then (QOk.then (QOk.block (QOk.then QOk.body)))))))))) (oP rfl pM (k:=?_))
      refine E_bool (t := 73) rfl (fun q4 => ?_) (fun q4 => ?_)
      ·skip
       have q4 : keyT y = keyT x := hsm.1 q4
       refine oP rfl pO (k:=oP rfl pM (k:=?_))
       refine O_no rfl rfl rfl rfl ?_
       refine O_no rfl rfl rfl rfl ?_
       refine O_no rfl rfl rfl rfl ?_
       refine O_no rfl rfl rfl rfl ?_
       refine O_noX rfl rfl rfl rfl ?_
       refine O_no rfl rfl rfl rfl ?_
       refine O_noX rfl rfl rfl rfl ?_
       refine O_no rfl rfl rfl rfl (oP rfl pK (k:=oP rfl pM (k:=?_)))
       refine O_no rfl rfl rfl rfl ?_
       refine O_no rfl rfl rfl rfl ?_
       refine O_no rfl rfl rfl rfl ?_
       refine O_no rfl rfl rfl rfl ?_
       refine O_noX rfl rfl rfl rfl ?_
       refine O_no rfl rfl rfl rfl ?_
       refine O_noX rfl rfl rfl rfl ?_
       refine O_no rfl rfl rfl rfl (oP rfl pK (k:=O_nil (qT (kF (k:=R_skip (Q_block (qT (rR (lMv (k:=?_))))))))))
       first | (refine L_val rfl rfl rfl (OpP.v (P_addN rfl rfl rfl (by simp only [fits]; omega))) ?_) | (refine L_val rfl rfl rfl (OpP.v (P_add rfl rfl rfl)) ?_)
       refine lA (k:=?_)
       refine L_nil ?_
       exact Q_round (j + 1) (by show j + 1 ≤ L.length; omega) (by show L.length - (j + 1) < L.length - j; omega) (by repeat (first | exact .nil | refine .cons rfl ?_ | refine .consE rfl (by first | rfl | (congr 1; omega) | (congr 1; push_cast; omega)) ?_)) (Weak.refl _)
      ·skip
       have q4 : keyT y ≠ keyT x := fun h => by rw [hsm.2 h] at q4; cases q4
       obtain ⟨w1, w2, w3⟩ := hwhy.resolve_left q4
       refine oP rfl pO (k:=oP rfl pM (k:=oP rfl pM (k:=oP rfl pM (k:=?_))))
       refine oP rfl (P_ixs (j) rfl ty_sl_92 rfl rfl (by first | rfl | omega) (by omega)) (k:=oP rfl (pG ty_fl_67_1) (k:=?_))
       refine oV rfl (V_load rfl rfl ty_sc_26 (rd_rc (Rds.row prow rfl) hz rfl)) (k:=oP rfl (pF ty_fl_67_1) (k:=oV rfl (vB ty_sc_26 .h0) (k:=oP rfl pEq (k:=?_))))
       refine E_bool (t := 83) rfl (fun q5 => ?_) (fun q5 => ?_)
       ·skip
        have q5 := of_decide_eq_true q5
        refine oP rfl pK (k:=oP rfl pM (k:=oP rfl pM (k:=oP rfl pM (k:=?_))))
        refine oP rfl (P_ixs (j) rfl ty_sl_92 rfl rfl (by first | rfl | omega) (by omega)) (k:=oP rfl (pG ty_fl_67_5) (k:=?_))
        refine oV rfl (V_load rfl rfl ty_sc_23 (rd_rc (Rds.row prow rfl) hz rfl)) (k:=oP rfl (pF ty_fl_67_5) (k:=oV rfl (vB ty_sc_23 .h0) (k:=oP rfl pGt (k:=?_))))
        refine E_false (t := 93) rfl (decide_eq_false (by have := w3 z hzL q5; omega)) (oP rfl pK (k:=O_nil (qT (kF (k:=R_skip (Q_block (qT (rR (lMv (k:=?_))))))))))
        first | (refine L_val rfl rfl rfl (OpP.v (P_addN rfl rfl rfl (by simp only [fits]; omega))) ?_) | (refine L_val rfl rfl rfl (OpP.v (P_add rfl rfl rfl)) ?_)
        refine lA (k:=?_)
        refine L_nil ?_
        exact Q_round (j + 1) (by show j + 1 ≤ L.length; omega) (by show L.length - (j + 1) < L.length - j; omega) (by repeat (first | exact .nil | refine .cons rfl ?_ | refine .consE rfl (by first | rfl | (congr 1; omega) | (congr 1; push_cast; omega)) ?_)) (Weak.refl _)
       ·skip
        refine oP rfl pK (k:=oP rfl pM (k:=?_))
        refine O_no rfl rfl rfl rfl ?_
        refine O_no rfl rfl rfl rfl ?_
        refine O_no rfl rfl rfl rfl ?_
        refine O_no rfl rfl rfl rfl ?_
        refine O_noX rfl rfl rfl rfl ?_
        refine O_no rfl rfl rfl rfl ?_
        refine O_noX rfl rfl rfl rfl ?_
        refine O_no rfl rfl rfl rfl (oP rfl pK (k:=O_nil (qT (kF (k:=R_skip (Q_block (qT (rR (lMv (k:=?_))))))))))
        first | (refine L_val rfl rfl rfl (OpP.v (P_addN rfl rfl rfl (by simp only [fits]; omega))) ?_) | (refine L_val rfl rfl rfl (OpP.v (P_add rfl rfl rfl)) ?_)
        refine lA (k:=?_)
        refine L_nil ?_
        exact Q_round (j + 1) (by show j + 1 ≤ L.length; omega) (by show L.length - (j + 1) < L.length - j; omega) (by repeat (first | exact .nil | refine .cons rfl ?_ | refine .consE rfl (by first | rfl | (congr 1; omega) | (congr 1; push_cast; omega)) ?_)) (Weak.refl _)
     ·skip
      refine R_exit (Q_then_exit (Q_then_exit (Q_block_eq (Q_block (qT (rR (lMv (k:=?_))))))))
      first | (refine L_val rfl rfl rfl (OpP.v (P_addN rfl rfl rfl (by simp only [fits]; omega))) ?_) | (refine L_val rfl rfl rfl (OpP.v (P_add rfl rfl rfl)) ?_)
      refine lA (k:=?_)
      refine L_nil ?_
      exact Q_round (i + 1, g0 + 1) (by show (i + 1) ≤ L.length ∧ GoneAt L M (i + 1) (g0 + 1); exact ⟨by omega, hg2⟩) (by show L.length - (i + 1) < L.length - i; omega) (by repeat (first | exact .nil | refine .cons rfl ?_ | refine .consE rfl (by first | rfl | (congr 1; omega) | (congr 1; push_cast; omega)) ?_)) (Weak.drop (Weak.refl _))
 ·skip
  obtain rfl : i = L.length := by omega
  obtain ⟨hg1, hg3⟩ := hg.fin hf
  refine R_exit (Q_then_exit (Q_then_exit (Q_block_eq ?_)))
  refine St.env (cE 0 rfl (cE 1 rfl (cE 8 rfl (cE 9 rfl .nil)))) (qT (rT (lMv (k:=lP pLe (k:=?_)))))
  refine E_true (t := 96) rfl (decide_eq_true (by omega)) (lMv (k:=lMv (k:=lP (pL ty_sl_92) (k:=lMv (k:=lP (pL ty_sl_92) (k:=?_))))))
  refine lP (P_addN rfl rfl rfl (by simp only [fits]; omega)) (k:=lMv (k:=?_))
  refine lP (P_subN rfl rfl rfl (by simp only [fits]; omega)) (k:=lP pEq (k:=?_))
  refine E_true (t := 105) rfl (decide_eq_true (by omega)) (lP pK (k:=lA (k:=?_)))
  refine lQ (cE 8 rfl .nil) (R_ret ?_)
  exact R_endV rfl rfl (.tmp rfl .nil) (rfl)
end Go.Proofs.YtcngmkjdpoiiaaaGreatDoor

/- Lists of transactions in two. Printed by gen.py. -/
set_option maxRecDepth 100000
namespace Go.Proofs.YtcngmkjdpoiiaaaGreatDoor
open Go Go.RowKit Go.Proofs Go.Sort
theorem parted_ok {gl : Nat → Obj} (b1 b2 b3 : Option Addr) (c1 c2 c3 : Nat) (L : List TxR) (hl : L.length ≤ 65536) (p : TxR → Bool) : SpecV (cx gl) 61 [.slice b1 L.length c1, .slice b2 (L.filter p).length c2, .slice b3 (L.filter fun x => !p x).length c3] (fun w => Row w b1 (rc L) ∧ Row w b2 (rc (L.filter p)) ∧ Row w b3 (rc (L.filter fun x => !p x))) (.bool true) := by
 refine Spec.enter (C := cx gl) Tryz.func61 rfl 58 rfl rfl fun w0 h0 hsep hsub hpre => ?_
 obtain rfl : h0 = Heap.none := hsep
 show St (cx gl) _ [(0, .slice b1 L.length c1), (1, .slice b2 (L.filter p).length c2), (2, .slice b3 (L.filter fun x => !p x).length c3)] _ _
 refine rT (lA (k:=?_))
 refine L_nil (qT (rS (rT (lMv (k:=lP (pL ty_sl_92) (k:=lMv (k:=lP (pL ty_sl_92) (k:=lMv (k:=lP (pL ty_sl_92) (k:=?_))))))))))
 refine lP (P_addN rfl rfl rfl (by simp only [fits]; have h9 := filter_two L p; omega)) (k:=lP pNe (k:=?_))
 refine E_false (t := 17) rfl (decide_eq_false (fun h => h (by have h9 := filter_two L p; omega))) ?_
 refine lQ (cE 0 rfl (cE 1 rfl (cE 2 rfl (cE 6 rfl (cE 17 rfl .nil))))) (kF (k:=R_skip (qT (rT (lA (k:=?_))))))
 refine lQ (cE 0 rfl (cE 1 rfl (cE 2 rfl (cE 6 rfl (cE 7 rfl .nil))))) (rT (lA (k:=?_)))
 refine L_nil (qT (rS (rT (lA (k:=?_)))))
 refine L_nil (qT (R_block ?_))
 refine R_loopE (G := Nat × Nat × Nat) (cE 0 rfl (cE 1 rfl (cE 2 rfl (cE 6 rfl .nil)))) (fun g => [(7, .int .i64 ((g.2.1 : Nat) : Int)), (8, .int .i64 ((g.2.2 : Nat) : Int)), (9, .int .i64 ((g.1 : Nat) : Int))]) (fun _ => _) (fun g => g.1 ≤ L.length ∧ g.2.1 = ((L.take (g.1)).filter p).length ∧ g.2.2 = ((L.take (g.1)).filter fun x => !p x).length) (fun g => L.length - g.1) (0, 0, 0) (by show (0) ≤ L.length ∧ (0) = ((L.take ((0))).filter p).length ∧ (0) = ((L.take ((0))).filter fun x => !p x).length; exact ⟨Nat.zero_le _, rfl, rfl⟩) (by repeat (first | exact .nil | refine .cons rfl ?_ | refine .consE rfl (by first | rfl | (congr 1; omega) | (congr 1; push_cast; omega)) ?_)) (Weak.refl _) ?_
 rintro ⟨i, a, b⟩ hinv
 replace hinv : i ≤ L.length ∧ a = ((L.take (i)).filter p).length ∧ b = ((L.take (i)).filter fun x => !p x).length := hinv
 show St (cx gl) _ ((7, .int .i64 ((a : Nat) : Int)) :: (8, .int .i64 ((b : Nat) : Int)) :: (9, .int .i64 ((i : Nat) : Int)) :: _) _ _
 obtain ⟨hi, ha, hb⟩ := hinv
 refine rS (rT (lMv (k:=lMv (k:=lP (pL ty_sl_92) (k:=lP pLt (k:=?_))))))
 refine L_nil (qT ?_)
 refine R_condP rfl (fun hlt => ?_) (fun hlt => ?_)
 ·skip
  have him : i < L.length := by omega
  have hft := filter_two (L.take i) p
  rw [List.length_take] at hft
  obtain ⟨y, hy⟩ : ∃ q, L[i]? = some q := ⟨_, List.getElem?_eq_getElem (by omega)⟩
  obtain ⟨p0b, p0j, rfl, p0row⟩ := hpre.1.some_ (by rw [rc_length]; show 0 < L.length * 22; omega)
  refine R_skip (qT (rS (R_block (rS ?_))))
  refine R_open [(0, 0), (1, 0), (2, 0), (3, 0), (4, 0), (5, 0), (6, 0), (7, 0), (8, 1), (9, 0), (10, 0), (11, 0), (12, 1), (13, 0), (14, 0)] mixed (by kernel_rfl) (QOk.then (QOk.block (QOk.then (QOk.then (QOk.block (QOk.then QOk.body)))))) (oP rfl pM (k:=oP rfl pM (k:=oP rfl (pL ty_sl_92) (k:=oP rfl pLt (k:=?_)))))
  refine E_bool (t := 27) rfl (fun hal => ?_) (fun hal => ?_)
  ·skip
   have hal : a < (L.filter p).length := by have := of_decide_eq_true hal; omega
   obtain ⟨z, hz⟩ : ∃ q, (L.filter p)[a]? = some q := ⟨_, List.getElem?_eq_getElem (by omega)⟩
   obtain ⟨p1b, p1j, rfl, p1row⟩ := hpre.2.1.some_ (by rw [rc_length]; show 0 < (L.filter p).length * 22; omega)
   refine oP rfl pM (k:=oP rfl pM (k:=oP rfl pM (k:=?_)))
   refine oP rfl (P_ixs (a) rfl ty_sl_92 rfl rfl (by first | rfl | omega) (by omega)) (k:=?_)
   refine oV rfl (V_loadAgg rfl rfl ty_ag_67 (rds_rc (Rds.row p1row rfl) hz) (z.ok.cellsLen)) (k:=oP rfl pM (k:=oP rfl pM (k:=?_)))
   refine oP rfl (P_ixs (i) rfl ty_sl_92 rfl rfl (by first | rfl | omega) (by omega)) (k:=?_)
   refine oV rfl (V_loadAgg rfl rfl ty_ag_67 (rds_rc (Rds.row p0row rfl) hy) (y.ok.cellsLen)) (k:=?_)
   refine oP rfl (P_eql_structA (xs := txA z.t) (ys := txA y.t) rfl se_tx rfl rfl rfl rfl (tx_kind _ _) z.ok.len y.ok.len (eqB_cells z y)) (k:=?_)
   refine E_bool (t := 37) rfl (fun hq => ?_) (fun hq => ?_)
   ·skip
    have hq := (eqB_iff z y).1 hq
    have hkT : p y = true := by rw [← hq]; exact (List.mem_filter.1 (List.mem_of_getElem? hz)).2
    refine oP rfl pK (k:=O_nil (qT (kT (k:=rR (lMv (k:=?_))))))
    refine lP (P_addN rfl rfl rfl (by simp only [fits]; omega)) (k:=lA (k:=?_))
    refine L_nil (Q_block (qT (rR (lMv (k:=?_)))))
    first | (refine L_val rfl rfl rfl (OpP.v (P_addN rfl rfl rfl (by simp only [fits]; omega))) ?_) | (refine L_val rfl rfl rfl (OpP.v (P_add rfl rfl rfl)) ?_)
    refine lA (k:=?_)
    refine L_nil ?_
    exact Q_round (i + 1, a + 1, b) (by show (i + 1) ≤ L.length ∧ (a + 1) = ((L.take ((i + 1))).filter p).length ∧ (b) = ((L.take ((i + 1))).filter fun x => !p x).length; exact ⟨by omega, by rw [filter_next hy, if_pos hkT]; omega, by rw [filter_next hy, if_neg (by rw [hkT]; decide)]; omega⟩) (by show L.length - (i + 1) < L.length - i; omega) (by repeat (first | exact .nil | refine .cons rfl ?_ | refine .consE rfl (by first | rfl | (congr 1; omega) | (congr 1; push_cast; omega)) ?_)) (Weak.refl _)
   ·skip
    have hq := eqB_no hq
    have hkF : p y = false := by cases h9 : p y with | false => rfl | true => have h8 := filter_at hy h9; rw [← ha, hz] at h8; exact absurd (Option.some.inj h8) hq
    have hz2 := filter_at (p := fun x => !p x) hy (by rw [hkF]; rfl)
    rw [← hb] at hz2
    have hbl := (List.getElem?_eq_some_iff.1 hz2).1
    refine oP rfl pK (k:=O_nil (qT (kF (k:=rS ?_))))
    obtain ⟨p2b, p2j, rfl, p2row⟩ := hpre.2.2.some_ (by rw [rc_length]; show 0 < (L.filter fun x => !p x).length * 22; omega)
    refine R_open [(0, 0), (1, 0), (2, 0), (3, 0), (4, 0), (5, 0), (6, 0), (7, 0), (8, 1), (9, 0), (10, 0), (11, 0), (12, 1), (13, 0), (14, 0)] mixed (by kernel_rfl) (QOk.then (QOk.block (QOk.then (QOk.then (QOk.block (QOk.then QOk.body)))))) (oP rfl pM (k:=oP rfl pM (k:=oP rfl (pL ty_sl_92) (k:=oP rfl pLt (k:=?_)))))
    refine E_true (t := 44) rfl (decide_eq_true (by omega)) (oP rfl pM (k:=oP rfl pM (k:=oP rfl pM (k:=?_))))
    refine oP rfl (P_ixs (b) rfl ty_sl_92 rfl rfl (by first | rfl | omega) (by omega)) (k:=?_)
    refine oV rfl (V_loadAgg rfl rfl ty_ag_67 (rds_rc (Rds.row p2row rfl) hz2) (y.ok.cellsLen)) (k:=oP rfl pM (k:=oP rfl pM (k:=?_)))
    refine oP rfl (P_ixs (i) rfl ty_sl_92 rfl rfl (by first | rfl | omega) (by omega)) (k:=?_)
    refine oV rfl (V_loadAgg rfl rfl ty_ag_67 (rds_rc (Rds.row p0row rfl) hy) (y.ok.cellsLen)) (k:=?_)
    refine oP rfl (P_eql_structA (b := true) (xs := txA y.t) (ys := txA y.t) rfl se_tx rfl rfl rfl rfl (tx_kind _ _) y.ok.len y.ok.len ⟨fun _ => rfl, fun _ => rfl⟩) (k:=?_)
    refine E_true (t := 54) rfl (rfl) (oP rfl pK (k:=O_nil (qT (kT (k:=rR (lMv (k:=?_)))))))
    refine lP (P_addN rfl rfl rfl (by simp only [fits]; omega)) (k:=lA (k:=?_))
    refine L_nil (Q_block (qT (rR (lMv (k:=?_)))))
    first | (refine L_val rfl rfl rfl (OpP.v (P_addN rfl rfl rfl (by simp only [fits]; omega))) ?_) | (refine L_val rfl rfl rfl (OpP.v (P_add rfl rfl rfl)) ?_)
    refine lA (k:=?_)
    refine L_nil ?_
    exact Q_round (i + 1, a, b + 1) (by show (i + 1) ≤ L.length ∧ (a) = ((L.take ((i + 1))).filter p).length ∧ (b + 1) = ((L.take ((i + 1))).filter fun x => !p x).length; exact ⟨by omega, by rw [filter_next hy, if_neg (by rw [hkF]; decide)]; omega, by rw [filter_next hy, if_pos (by rw [hkF]; rfl)]; omega⟩) (by show L.length - (i + 1) < L.length - i; omega) (by repeat (first | exact .nil | refine .cons rfl ?_ | refine .consE rfl (by first | rfl | (congr 1; omega) | (congr 1; push_cast; omega)) ?_)) (Weak.refl _)
  ·skip
   have hal := of_decide_eq_false hal
   have hkF : p y = false := by cases h9 : p y with | false => rfl | true => exact absurd (List.getElem?_eq_some_iff.1 (filter_at hy h9)).1 (by omega)
   have hz2 := filter_at (p := fun x => !p x) hy (by rw [hkF]; rfl)
   rw [← hb] at hz2
   have hbl := (List.getElem?_eq_some_iff.1 hz2).1
   refine oP rfl pM (k:=?_)
   refine O_no rfl rfl rfl rfl ?_
   refine O_no rfl rfl rfl rfl ?_
   refine O_no rfl rfl rfl rfl ?_
   refine O_noX rfl rfl rfl rfl ?_
   refine O_no rfl rfl rfl rfl ?_
   refine O_no rfl rfl rfl rfl ?_
   refine O_no rfl rfl rfl rfl ?_
   refine O_noX rfl rfl rfl rfl ?_
   refine O_no rfl rfl rfl rfl (oP rfl pK (k:=O_nil (qT (kF (k:=rS ?_)))))
   obtain ⟨p2b, p2j, rfl, p2row⟩ := hpre.2.2.some_ (by rw [rc_length]; show 0 < (L.filter fun x => !p x).length * 22; omega)
   refine R_open [(0, 0), (1, 0), (2, 0), (3, 0), (4, 0), (5, 0), (6, 0), (7, 0), (8, 1), (9, 0), (10, 0), (11, 0), (12, 1), (13, 0), (14, 0)] mixed (by kernel_rfl) (QOk.then (QOk.block (QOk.then (QOk.then (QOk.block (QOk.then QOk.body)))))) (oP rfl pM (k:=oP rfl pM (k:=oP rfl (pL ty_sl_92) (k:=oP rfl pLt (k:=?_)))))
   refine E_true (t := 44) rfl (decide_eq_true (by omega)) (oP rfl pM (k:=oP rfl pM (k:=oP rfl pM (k:=?_))))
   refine oP rfl (P_ixs (b) rfl ty_sl_92 rfl rfl (by first | rfl | omega) (by omega)) (k:=?_)
   refine oV rfl (V_loadAgg rfl rfl ty_ag_67 (rds_rc (Rds.row p2row rfl) hz2) (y.ok.cellsLen)) (k:=oP rfl pM (k:=oP rfl pM (k:=?_)))
   refine oP rfl (P_ixs (i) rfl ty_sl_92 rfl rfl (by first | rfl | omega) (by omega)) (k:=?_)
   refine oV rfl (V_loadAgg rfl rfl ty_ag_67 (rds_rc (Rds.row p0row rfl) hy) (y.ok.cellsLen)) (k:=?_)
   refine oP rfl (P_eql_structA (b := true) (xs := txA y.t) (ys := txA y.t) rfl se_tx rfl rfl rfl rfl (tx_kind _ _) y.ok.len y.ok.len ⟨fun _ => rfl, fun _ => rfl⟩) (k:=?_)
   refine E_true (t := 54) rfl (rfl) (oP rfl pK (k:=O_nil (qT (kT (k:=rR (lMv (k:=?_)))))))
   refine lP (P_addN rfl rfl rfl (by simp only [fits]; omega)) (k:=lA (k:=?_))
   refine L_nil (Q_block (qT (rR (lMv (k:=?_)))))
   first | (refine L_val rfl rfl rfl (OpP.v (P_addN rfl rfl rfl (by simp only [fits]; omega))) ?_) | (refine L_val rfl rfl rfl (OpP.v (P_add rfl rfl rfl)) ?_)
   refine lA (k:=?_)
   refine L_nil ?_
   exact Q_round (i + 1, a, b + 1) (by show (i + 1) ≤ L.length ∧ (a) = ((L.take ((i + 1))).filter p).length ∧ (b + 1) = ((L.take ((i + 1))).filter fun x => !p x).length; exact ⟨by omega, by rw [filter_next hy, if_neg (by rw [hkF]; decide)]; omega, by rw [filter_next hy, if_pos (by rw [hkF]; rfl)]; omega⟩) (by show L.length - (i + 1) < L.length - i; omega) (by repeat (first | exact .nil | refine .cons rfl ?_ | refine .consE rfl (by first | rfl | (congr 1; omega) | (congr 1; push_cast; omega)) ?_)) (Weak.refl _)
 ·skip
  refine R_exit (Q_then_exit (Q_then_exit (Q_block_eq ?_)))
  refine St.env (cE 6 rfl .nil) (qT (rT (lA (k:=?_))))
  refine L_nil (qT (R_ret ?_))
  exact R_endV rfl rfl (.tmp rfl .nil) (rfl)
end Go.Proofs.YtcngmkjdpoiiaaaGreatDoor

/- A pool: refusals; Add where there is room. Printed by gen.py. -/
set_option maxRecDepth 100000
namespace Go.Proofs.YtcngmkjdpoiiaaaGreatDoor
open Go Go.RowKit Go.Proofs
structure LookFine (rc : List Rcd) (ch : List Int) (H : List TxR) (x : Tx) : Prop where
 plain : plainE x = 0
 tx : txbE ch x = 0
 sealed : seald rc ch x = true
 new : hasId H (idH x) = false
theorem lookFine_of {rc : List Rcd} {ch : List Int} {H : List TxR} {x : Tx} (h : lookE rc ch H x = 0) : LookFine rc ch H x := by
 unfold lookE at h
 split at h
 ·rename_i h1; exact absurd h h1
 ·split at h
  ·rename_i h1; exact absurd h h1
  ·split at h
   ·omega
   ·split at h
    ·omega
    ·rename_i h1 h2 h3 h4
     exact ⟨Classical.not_not.1 h1, Classical.not_not.1 h2, by simpa using h3, by simpa using h4⟩
/-- What Add answers where there is room. -/
def addE0 (rc : List Rcd) (ch : List Int) (H : List TxR) (l : List Acc) (x : TxR) : Int :=
 if lookE rc ch H x.t ≠ 0 then lookE rc ch H x.t else if fitE H l x ≠ 0 then fitE H l x else if (heldAt H (keyT x)).isSome = true ∧ x.t.fee ≤ ((heldAt H (keyT x)).getD txrz).t.fee then 94 else 0
end Go.Proofs.YtcngmkjdpoiiaaaGreatDoor

/- PoolNil: the walk. Printed by gen.py. -/
set_option maxRecDepth 100000
namespace Go.Proofs.YtcngmkjdpoiiaaaGreatDoor
open Go Go.RowKit Go.Proofs
theorem num_ok {gl : Nat → Obj} (e : Int) : SpecV (cx gl) 33 [.int .i64 e] noPre (.int .i64 e) := by
 refine Spec.enter (C := cx gl) Tryz.func33 rfl 4 rfl rfl fun w0 h0 hsep hsub hpre => ?_
 obtain rfl : h0 = Heap.none := hsep
 show St (cx gl) _ [(0, .int .i64 (e))] _ _
 refine rT (lA (k:=?_))
 refine L_nil (qT (rT (lMv (k:=lA (k:=?_)))))
 refine lQ (cE 2 rfl .nil) (R_ret ?_)
 exact R_endV rfl rfl (.tmp rfl .nil) (rfl)
end Go.Proofs.YtcngmkjdpoiiaaaGreatDoor

/- The world of the outright statements. Printed by gen.py. -/
set_option maxRecDepth 100000
namespace Go.Proofs.YtcngmkjdpoiiaaaGreatDoor
open Go Go.RowKit Go.Proofs Go.Sort
/-! ### States -/
theorem StJ.len {x : StJ} (h : x.last.length = 32) : x.cells.length = 55 := by rw [StJ.rcells x h]; exact StR.len _ _ _
theorem StJ.one {x : StJ} (h : x.last.length = 32) : ∀ v ∈ x.cells, v.oneCell' = true := by rw [StJ.rcells x h]; exact StR.one _ rfl rfl
/-- A state, apart from the world in which it lies. -/
structure StK where
 j : StJ
 ch : IsB j.ch
 p : j.p.ok
 h : u64 j.h
 last : j.last.length = 32
 hc : j.l.s.xs.length ≤ j.l.s.c
 hc' : j.l.r.xs.length ≤ j.l.r.c
 ok : ∀ y ∈ j.l.s.xs, y.ok
 ok' : ∀ y ∈ j.l.r.xs, y.ok
 bu : u64 j.l.bu
 su : u64 j.l.su
 hm : j.l.s.xs.length ≤ 3600000000000
 hm' : j.l.r.xs.length ≤ 4500000000000
instance : Rec StK := ⟨fun x => x.j.cells, 55, fun x => StJ.len x.last, fun x => StJ.one x.last⟩
def StK.r (x : StK) : StR := x.j.r x.last
/-- Its ledger's rows lie in a world. -/
def StK.in_ (w : World) (x : StK) : Prop := Row w x.j.l.s.b (rc x.j.l.s.xs) ∧ Row w x.j.l.r.b (rc x.j.l.r.xs)
def stzJ : StJ := ⟨[], ⟨0, 0, 0, 0, 0, 0, 0, 0, 0, 0, 0, 0⟩, 0, 0, List.replicate 32 0, (none, 0, 0), (none, 0, 0), (none, 0, 0), (none, 0, 0), ⟨⟨none, 0, []⟩, ⟨none, 0, []⟩, 0, 0⟩⟩
theorem u64_00 : u64 0 := ⟨by decide, by decide⟩
def stz : StK := ⟨stzJ, fun _ h => (nomatch h), ⟨u64_00, ⟨by decide, by decide⟩, u64_00, u64_00, u64_00, ⟨by decide, by decide⟩, u64_00, u64_00, u64_00, u64_00, u64_00, u64_00⟩, u64_00, rfl, Nat.le_refl _, Nat.le_refl _, fun _ h => (nomatch h), fun _ h => (nomatch h), u64_00, u64_00, Nat.zero_le _, Nat.zero_le _⟩
theorem stz_in (w : World) : stz.in_ w := ⟨Row.nil, Row.nil⟩
/-- The state that is present. -/
def curS (sts : List StK) (a : Int) : StK := sts.getD a.toNat stz
theorem curS_at {sts : List StK} {a : Int} (h0 : 0 ≤ a) (h : a < sts.length) : sts[a.toNat]? = some (curS sts a) := by
 unfold curS
 rw [List.getD_eq_getElem?_getD, List.getElem?_eq_getElem (by omega)]; rfl
theorem curS_in {w : World} {sts : List StK} (h : ∀ s ∈ sts, s.in_ w) (a : Int) : (curS sts a).in_ w := by
 unfold curS
 rw [List.getD_eq_getElem?_getD]
 cases h9 : sts[a.toNat]? with
 | none => exact stz_in w
 | some s => exact h s (List.mem_of_getElem? h9)
/-- Where the present one may stand. -/
def AtOk (sts : List StK) (a : Int) : Prop := 0 ≤ a ∧ (sts = [] ∨ a < sts.length)
theorem AtOk.zero (sts : List StK) : AtOk sts 0 := ⟨Int.le_refl _, by cases sts with | nil => exact .inl rfl | cons x l => exact .inr (by rw [List.length_cons]; omega)⟩
/-! ### Steps -/
structure OpJ where
 kind : Int
 tx : Tx
 tw : Int
 id : List Int
 at_ : Int
 pr : Int
def OpJ.cells (o : OpJ) : List Value := .int .i64 o.kind :: (o.tx.cells ++ (.int .i64 o.tw :: (ints .u8 o.id ++ [.int .i64 o.at_, .int .u64 o.pr])))
structure OpK where
 o : OpJ
 tx : o.tx.ok
 idb : IsB o.id
 idl : o.id.length = 32
 pr : u64 o.pr
theorem OpK.len (x : OpK) : x.o.cells.length = 58 := by
 unfold OpJ.cells
 rw [List.length_cons, List.length_append, List.length_cons, List.length_append, x.tx.cellsLen, ints_length, x.idl]; rfl
theorem OpK.one (x : OpK) : ∀ v ∈ x.o.cells, v.oneCell' = true := by
 intro v hv
 unfold OpJ.cells at hv
 rcases List.mem_cons.1 hv with rfl | hv
 ·rfl
 ·rcases List.mem_append.1 hv with hv | hv
  ·exact x.o.tx.one v hv
  ·rcases List.mem_cons.1 hv with rfl | hv
   ·rfl
   ·rcases List.mem_append.1 hv with hv | hv
    ·exact ints_one v hv
    ·simp only [List.mem_cons, List.not_mem_nil, or_false] at hv
     rcases hv with rfl | rfl <;> rfl
instance : Rec OpK := ⟨fun x => x.o.cells, 58, OpK.len, OpK.one⟩
theorem op_tx (x : OpK) : ∀ (i : Nat) (v : Value), x.o.tx.cells[i]? = some v → x.o.cells[1 + i]? = some v := fun i v h => by
 unfold OpJ.cells
 rw [Nat.add_comm 1 i, List.getElem?_cons_succ, List.getElem?_append_left (List.getElem?_eq_some_iff.1 h).1]; exact h
theorem op_tw (x : OpK) : x.o.cells[23]? = some (.int .i64 x.o.tw) := by
 unfold OpJ.cells
 rw [show 23 = 22 + 1 from rfl, List.getElem?_cons_succ, List.getElem?_append_right (by rw [x.tx.cellsLen]; omega), x.tx.cellsLen]; rfl
theorem op_end (x : OpK) : ∀ (i : Nat) (v : Value), [Value.int .i64 x.o.at_, .int .u64 x.o.pr][i]? = some v → x.o.cells[56 + i]? = some v := fun i v h => by
 unfold OpJ.cells
 rw [show 56 + i = (55 + i) + 1 by omega, List.getElem?_cons_succ, List.getElem?_append_right (by rw [x.tx.cellsLen]; omega), x.tx.cellsLen, show 55 + i - 22 = (32 + i) + 1 by omega, List.getElem?_cons_succ, List.getElem?_append_right (by rw [ints_length, x.idl]; omega), ints_length, x.idl, show 32 + i - 32 = i by omega]; exact h
/-- A number brought into 0 .. n - 1. -/
def arI (x n : Int) : Int := if n < 1 then 0 else (if x.tmod n < 0 then x.tmod n + n else x.tmod n)
theorem arI_bound {x n : Int} (h : 1 ≤ n) : 0 ≤ arI x n ∧ arI x n < n := by
 unfold arI
 rw [if_neg (by omega)]
 have h1 := Int.tmod_lt_of_pos x (show 0 < n by omega)
 have h2 := Int.lt_tmod_of_pos x (show 0 < n by omega)
 split <;> omega
theorem AtOk.around (sts : List StK) (x : Int) : AtOk sts (arI x (sts.length : Int)) := by
 cases sts with
 | nil => exact ⟨by unfold arI; rw [if_pos (by decide)]; exact Int.le_refl _, .inl rfl⟩
 | cons s l =>
  obtain ⟨h1, h2⟩ := arI_bound (x := x) (n := ((s :: l).length : Int)) (by rw [List.length_cons]; omega)
  exact ⟨h1, .inr h2⟩
section
variable {C : Cx} {F : Fx} {rs : List HP} {α : Type} [Rec α]
theorem rds_seen {b j : Nat} {l : List α} (s : Seen F.w F.h (some ⟨b, j, none⟩) (rc l)) : Rds C F rs ⟨b, j, none⟩ (rc l) := by
 have h := Rds.sn (C := C) (F := F) (rs := rs) (k := 0) (us := rc l) (Sn.old s) fun i v hv => by rw [Nat.zero_add]; exact hv
 exact h
end
/-- What is kept while a script of the outright statements is played. -/
def sightC (p q : Nat) (sv nv : Value) (a : Int) : List Value := [.pointer (some ⟨p, 0, none⟩), .pointer (some ⟨q, 0, none⟩), sv, nv, .int .i64 a]
theorem ar_ok {gl : Nat → Obj} (x n : Int) (h2 : n ≤ 4398046511104) : SpecV (cx gl) 39 [.int .i64 x, .int .i64 n] noPre (.int .i64 (arI x n)) := by
 refine Spec.enter (C := cx gl) Tryz.func39 rfl 17 rfl rfl fun w0 h0 hsep hsub hpre => ?_
 obtain rfl : h0 = Heap.none := hsep
 show St (cx gl) _ [(0, .int .i64 x), (1, .int .i64 n)] _ _
 refine rT (lA (k:=?_))
 refine L_nil (qT (rS (rT (lMv (k:=lP pLt (k:=?_))))))
 refine E_bool (t := 7) rfl (fun hn1 => ?_) (fun hn1 => ?_)
 ·skip
  have hn1 := of_decide_eq_true hn1
  refine lQ (cE 0 rfl (cE 1 rfl (cE 4 rfl (cE 7 rfl .nil)))) (kT (k:=rT (lA (k:=?_))))
  refine lQ (cE 0 rfl (cE 1 rfl (cE 4 rfl .nil))) (R_ret (Q_then_ret ?_))
  exact R_endV rfl rfl (.tmp rfl .nil) (by show Value.int .i64 _ = Value.int .i64 _; unfold arI; rw [if_pos hn1])
 ·skip
  have hn1 := of_decide_eq_false hn1
  have hlt := Int.tmod_lt_of_pos x (show 0 < n by omega)
  have hgt := Int.lt_tmod_of_pos x (show 0 < n by omega)
  refine lQ (cE 0 rfl (cE 1 rfl (cE 4 rfl (cE 7 rfl .nil)))) (kF (k:=R_skip (qT (rT (lMv (k:=lMv (k:=?_)))))))
  refine lP (P_rem rfl rfl rfl (by omega)) (k:=lA (k:=?_))
  refine lQ (cE 1 rfl (cE 4 rfl (cE 5 rfl .nil))) (rS (rT (lMv (k:=lP pLt (k:=?_)))))
  refine lQ (cE 1 rfl (cE 4 rfl (cE 5 rfl (cE 12 rfl .nil)))) ?_
  refine R_condP rfl (fun hy => ?_) (fun hy => ?_)
  ·skip
   refine rR (lMv (k:=lMv (k:=?_)))
   first | (refine L_val rfl rfl rfl (OpP.v (P_addN rfl rfl rfl (by simp only [fits]; omega))) ?_) | (refine L_val rfl rfl rfl (OpP.v (P_add rfl rfl rfl)) ?_)
   refine lA (k:=?_)
   refine lQ (cE 4 rfl (cE 5 rfl .nil)) (rT (lMv (k:=lA (k:=?_))))
   refine lQ (cE 4 rfl .nil) (R_ret ?_)
   exact R_endV rfl rfl (.tmp rfl .nil) (by show Value.int .i64 _ = Value.int .i64 _; unfold arI; rw [if_neg hn1]; first | rw [if_pos hy] | rw [if_neg hy])
  ·skip
   refine R_skip (qT (rT (lMv (k:=lA (k:=?_)))))
   refine lQ (cE 4 rfl .nil) (R_ret ?_)
   exact R_endV rfl rfl (.tmp rfl .nil) (by show Value.int .i64 _ = Value.int .i64 _; unfold arI; rw [if_neg hn1]; first | rw [if_pos hy] | rw [if_neg hy])
theorem state_ok {gl : Nat → Obj} (w p q : Nat) (sv : Value) (at_ : Int) (nb : Option Addr) (nc : Nat) (sts : List StK) (hnc : sts.length ≤ nc) (hns : sts.length ≤ 439804651110) (hat : AtOk sts at_) : SpecR (cx gl) 59 [.pointer (some ⟨w, 0, none⟩)] (fun wd hp => Seen wd hp nb (Go.Proofs.YtcngmkjdpoiiaaaGreatDoor.rc sts)) [blk w (sightC p q (sv) (.slice nb sts.length nc) (at_)) 135] (.agg (curS sts at_).j.cells.toArray) [blk w (sightC p q (sv) (.slice nb sts.length nc) (at_)) 135] := by
 refine Spec.enter (C := cx gl) Tryz.func59 rfl 20 rfl rfl fun w0 h0 hsep hsub hpre => ?_
 show St (cx gl) _ [(0, .pointer (some ⟨w, 0, none⟩))] _ _
 refine rT ?_
 refine lO (W_alloc rfl rfl rfl ty_ze_63 fun b2 => ?_)
 refine L_nil (qT (rS (rT (lMv (k:=lP pN (k:=lP (pF ty_fl_135_3) (k:=lV (vB ty_sc_95 .h1) (k:=lP (pL ty_sl_95) (k:=lP pEq (k:=?_))))))))))
 refine E_bool (t := 8) rfl (fun he => ?_) (fun he => ?_)
 ·skip
  have he : sts = [] := List.eq_nil_of_length_eq_zero (by have := of_decide_eq_true he; omega)
  have hcu : curS sts at_ = stz := by unfold curS; rw [he]; rfl
  refine lQ (cE 0 rfl (cE 2 rfl (cE 8 rfl .nil))) (kT (k:=rT ?_))
  refine lP (P_buildStruct rfl ty_pl_63 ty_ze_63 rfl rfl (rfl)) (k:=?_)
  refine E_as (t := 9) (v' := .agg stz.j.cells.toArray) rfl (rfl) ?_
  refine lO (W_storeAll rfl rfl rfl rfl ty_ag_63 (StJ.len stz.last) (StJ.one stz.last) .h0 (by rw [StJ.len stz.last]; rfl) ?_)
  refine lQ (cE 0 rfl (cE 2 rfl .nil)) (R_ret (Q_then_ret ?_))
  exact R_end (rs2 := _) rfl rfl (.cell rfl (Rds.loadVar ty_ag_63 (Rds.blk .h0) (StJ.len stz.last)) .nil) (⟨by rw [hcu]; rfl, rfl⟩) (Weak.drop (Weak.refl _))
 ·skip
  have he := of_decide_eq_false he
  have hlt : at_ < sts.length := hat.2.resolve_left (fun h9 => he (by rw [h9]; rfl))
  have hj := curS_at hat.1 hlt
  have hat0 := hat.1
  obtain ⟨pb, pj, rfl, hrow⟩ := hpre.row.some_ (by rw [rc_length]; show 0 < _ * 55; omega)
  refine lQ (cE 0 rfl (cE 2 rfl (cE 8 rfl .nil))) (kF (k:=R_skip (qT (rS ?_))))
  refine R_open [(0, 0), (1, 0), (2, 0), (3, 1), (4, 0), (5, 0), (6, 0), (7, 1), (8, 0), (9, 1), (10, 3)] mixed (by kernel_rfl) (QOk.then QOk.body) (oP rfl pM (k:=oP rfl pN (k:=oP rfl (pF ty_fl_135_3) (k:=oV rfl (vB ty_sc_95 .h1) (k:=oP rfl pM (k:=oP rfl pN (k:=oP rfl (pF ty_fl_135_4) (k:=oV rfl (vB ty_sc_3 .h1) (k:=?_)))))))))
  refine oP rfl (P_ixs (at_.toNat) rfl ty_sl_95 rfl rfl (by first | rfl | omega) (by omega)) (k:=?_)
  refine oV rfl (V_loadAgg rfl rfl ty_ag_63 (rds_rc (rds_seen hpre) hj) (StJ.len (curS sts at_).last)) (k:=?_)
  refine O_new rfl rfl (W_storeAll rfl rfl rfl rfl ty_ag_63 (StJ.len (curS sts at_).last) (StJ.one (curS sts at_).last) .h0 ((show (Rec.cells (curS sts at_)).length = 55 from StJ.len (curS sts at_).last).trans rfl) (K_new (O_nil ?_)))
  refine St.env (cE 2 rfl .nil) (qT (R_ret ?_))
  exact R_end (rs2 := _) rfl rfl (.cell rfl (Rds.loadVar ty_ag_63 (Rds.blk .h0) (StJ.len (curS sts at_).last)) .nil) (⟨rfl, rfl⟩) (Weak.drop (Weak.refl _))
theorem pnew_bad {gl : Nat → Obj} (n : Int) (h : n < 1 ∨ 65536 < n) : SpecV (cx gl) 32 [.int .i64 n] noPre (.tuple #[.pointer none, .int .i64 2]) := by
 refine Spec.enter (C := cx gl) Tryz.func32 rfl 15 rfl rfl fun w0 h0 hsep hsub hpre => ?_
 obtain rfl : h0 = Heap.none := hsep
 show St (cx gl) _ [(0, .int .i64 (n))] _ _
 refine rT (lA (k:=lA (k:=?_)))
 refine L_nil (qT (rS (rT (lMv (k:=lP pLt (k:=?_))))))
 refine E_bool (t := 5) rfl (fun h1 => ?_) (fun h1 => ?_)
 ·skip
  refine lMv (k:=lN (k:=lN (k:=lP pK (k:=?_))))
  refine lQ (cE 0 rfl (cE 2 rfl (cE 3 rfl (cE 9 rfl .nil)))) (kT (k:=rT (lA (k:=lA (k:=?_)))))
  refine lQ (cE 0 rfl (cE 2 rfl (cE 3 rfl .nil))) (R_ret (Q_then_ret ?_))
  exact R_endV rfl rfl (.tmp rfl (.tmp rfl .nil)) (rfl)
 ·skip
  have h1 := of_decide_eq_false h1
  refine lMv (k:=lMv (k:=lP pGt (k:=?_)))
  refine E_true (t := 8) rfl (decide_eq_true (by omega)) (lP pK (k:=?_))
  refine lQ (cE 0 rfl (cE 2 rfl (cE 3 rfl (cE 9 rfl .nil)))) (kT (k:=rT (lA (k:=lA (k:=?_)))))
  refine lQ (cE 0 rfl (cE 2 rfl (cE 3 rfl .nil))) (R_ret (Q_then_ret ?_))
  exact R_endV rfl rfl (.tmp rfl (.tmp rfl .nil)) (rfl)
theorem begun_ok {gl : Nat → Obj} (most : Int) (h1 : 1 ≤ most) (h2 : most ≤ 65536) (nb : Option Addr) (nc : Nat) (sts : List StK) (ov : Value) (hov : ov.oneCell' = true) : Spec (cx gl) 57 [.agg [.int .i64 most, .slice nb sts.length nc, ov].toArray] (fun _ _ => True) [] (fun v rs => ∃ w p q, v = .tuple #[.pointer (some ⟨w, 0, none⟩), .bool true] ∧ rs = [ownS 220 1 (.slice none 0 0) (([] : List (Int × Nat))).length (ptrs (([] : List (Int × Nat)))), POOL p most [], blk w (sightC p q (.slice none 0 0) (.slice nb sts.length nc) (0)) 135, REG q [] []]) := by
 refine Spec.enter (C := cx gl) Tryz.func57 rfl 37 rfl rfl fun w0 h0 hsep hsub hpre => ?_
 obtain rfl : h0 = Heap.none := hsep
 show St (cx gl) _ [(0, .agg [.int .i64 most, .slice nb sts.length nc, ov].toArray)] _ _
 refine rT ?_
 refine lO (W_box ([.int .i64 most, .slice nb sts.length nc, ov]) rfl rfl rfl rfl rfl fun b1 => lA (k:=lA (k:=?_)))
 refine lQ (cE 1 rfl (cE 2 rfl (cE 3 rfl .nil))) (rS ?_)
 refine R_open [(1, 0), (2, 1), (0, 2), (3, 0), (4, 2), (5, 0)] mixed (by kernel_rfl) (QOk.then QOk.body) (oP rfl (pF ty_fl_98_1) (k:=oV rfl (vB ty_sc_95 .h0) (k:=?_)))
 refine O_keep rfl rfl (W_call rfl rfl rfl rfl fn_ca_31 (snew_ok) (Split.nil _) (fun _ _ _ _ _ _ _ => trivial) fun v1 rs1 ⟨q, e1, e2⟩ => ?_)
 subst e1; subst e2
 refine K_keep (Weak.drop (Weak.refl _)) ?_
 refine oP rfl (P_buildStruct rfl ty_pl_135 ty_ze_135 rfl rfl (rfl)) (k:=?_)
 refine E_as (t := 10) (v' := .agg [.pointer none, .pointer (some ⟨q, 0, none⟩), .slice none 0 0, .slice nb sts.length nc, .int .i64 0].toArray) rfl (rfl) ?_
 refine O_keep rfl rfl (W_box ([.pointer none, .pointer (some ⟨q, 0, none⟩), .slice none 0 0, .slice nb sts.length nc, .int .i64 0]) rfl rfl rfl rfl rfl fun b11 => (K_keep (Weak.drop (Weak.refl _)) (oP rfl pA (k:=O_nil ?_))))
 refine St.env (cE 1 rfl (cE 2 rfl (cE 3 rfl (cE 4 rfl .nil)))) (qT (rT (lP (pF ty_fl_98_0) (k:=lV (vB ty_sc_3 .h2) (k:=?_)))))
 refine lO (W_call rfl rfl rfl rfl fn_ca_32 (pnew_ok most h1 h2) (Split.nil _) (fun _ _ _ _ _ _ _ => trivial) fun v2 rs2 ⟨p, e1, e2⟩ => ?_)
 subst e1; subst e2
 refine lMv (k:=lP pX (k:=lP pX (k:=lA (k:=lA (k:=?_)))))
 refine lQ (cE 2 rfl (cE 3 rfl (cE 4 rfl (cE 5 rfl (cE 6 rfl .nil))))) (rT (lMv (k:=lMv (k:=lP pN (k:=lP (pF ty_fl_135_0) (k:=?_))))))
 refine lO (W_store rfl rfl rfl rfl ty_sc_68 rfl .h1 (by first | decide | (simp [ints]; done) | (simp [ints]; omega)) ?_)
 refine lQ (cE 2 rfl (cE 3 rfl (cE 4 rfl (cE 5 rfl (cE 6 rfl .nil))))) (rT (lMv (k:=lMv (k:=?_))))
 refine lP (P_neNil rfl ty_ptr_68 rfl rfl) (k:=lMv (k:=lMv (k:=lP pN (k:=lP (pF ty_fl_135_1) (k:=lV (vB ty_sc_69 .h1) (k:=?_))))))
 refine lP (P_neNil rfl ty_ptr_69 rfl rfl) (k:=lP pK (k:=lMv (k:=lMv (k:=?_))))
 refine lO (W_callV rfl rfl rfl rfl fn_ca_33 (num_ok 0) (fun _ _ => trivial) (lP pEq (k:=?_)))
 refine E_true (t := 35) rfl (rfl) (lP pK (k:=lA (k:=lA (k:=?_))))
 refine lQ (cE 2 rfl (cE 3 rfl .nil)) (R_ret ?_)
 exact R_end (rs2 := _) rfl rfl (.tmp rfl (.tmp rfl .nil)) (⟨b11, p, q, rfl, rfl⟩) (Weak.trans (Weak.keep (Weak.keep (Weak.keep (Weak.nil _)))) (Weak.newNil (T := 220) (sz := 1)))
theorem begun_bad {gl : Nat → Obj} (most : Int) (hbad : most < 1 ∨ 65536 < most) (nb : Option Addr) (nc : Nat) (sts : List StK) (ov : Value) (hov : ov.oneCell' = true) : Spec (cx gl) 57 [.agg [.int .i64 most, .slice nb sts.length nc, ov].toArray] (fun _ _ => True) [] (fun v rs => ∃ w, v = .tuple #[.pointer (some ⟨w, 0, none⟩), .bool false] ∧ rs = []) := by
 refine Spec.enter (C := cx gl) Tryz.func57 rfl 37 rfl rfl fun w0 h0 hsep hsub hpre => ?_
 obtain rfl : h0 = Heap.none := hsep
 show St (cx gl) _ [(0, .agg [.int .i64 most, .slice nb sts.length nc, ov].toArray)] _ _
 refine rT ?_
 refine lO (W_box ([.int .i64 most, .slice nb sts.length nc, ov]) rfl rfl rfl rfl rfl fun b1 => lA (k:=lA (k:=?_)))
 refine lQ (cE 1 rfl (cE 2 rfl (cE 3 rfl .nil))) (rS ?_)
 refine R_open [(1, 0), (2, 1), (0, 2), (3, 0), (4, 2), (5, 0)] mixed (by kernel_rfl) (QOk.then QOk.body) (oP rfl (pF ty_fl_98_1) (k:=oV rfl (vB ty_sc_95 .h0) (k:=?_)))
 refine O_keep rfl rfl (W_call rfl rfl rfl rfl fn_ca_31 (snew_ok) (Split.nil _) (fun _ _ _ _ _ _ _ => trivial) fun v1 rs1 ⟨q, e1, e2⟩ => ?_)
 subst e1; subst e2
 refine K_keep (Weak.drop (Weak.refl _)) ?_
 refine oP rfl (P_buildStruct rfl ty_pl_135 ty_ze_135 rfl rfl (rfl)) (k:=?_)
 refine E_as (t := 10) (v' := .agg [.pointer none, .pointer (some ⟨q, 0, none⟩), .slice none 0 0, .slice nb sts.length nc, .int .i64 0].toArray) rfl (rfl) ?_
 refine O_keep rfl rfl (W_box ([.pointer none, .pointer (some ⟨q, 0, none⟩), .slice none 0 0, .slice nb sts.length nc, .int .i64 0]) rfl rfl rfl rfl rfl fun b11 => (K_keep (Weak.drop (Weak.refl _)) (oP rfl pA (k:=O_nil ?_))))
 refine St.env (cE 1 rfl (cE 2 rfl (cE 3 rfl (cE 4 rfl .nil)))) (qT (rT (lP (pF ty_fl_98_0) (k:=lV (vB ty_sc_3 .h2) (k:=?_)))))
 refine lO (W_callV rfl rfl rfl rfl fn_ca_32 (pnew_bad most hbad) (fun _ _ => trivial) (lMv (k:=lP pX (k:=lP pX (k:=lA (k:=lA (k:=?_)))))))
 refine lQ (cE 2 rfl (cE 3 rfl (cE 4 rfl (cE 5 rfl (cE 6 rfl .nil))))) (rT (lMv (k:=lMv (k:=lP pN (k:=lP (pF ty_fl_135_0) (k:=?_))))))
 refine lO (W_store rfl rfl rfl rfl ty_sc_68 rfl .h0 (by first | decide | (simp [ints]; done) | (simp [ints]; omega)) ?_)
 refine lQ (cE 2 rfl (cE 3 rfl (cE 4 rfl (cE 5 rfl (cE 6 rfl .nil))))) (rT (lMv (k:=lMv (k:=?_))))
 refine lP (P_neNil0 rfl ty_ptr_68 rfl rfl) (k:=lMv (k:=lN (k:=lN (k:=lN (k:=lN (k:=lN (k:=lP pK (k:=lMv (k:=lN (k:=lN (k:=lN (k:=lP pK (k:=lA (k:=lA (k:=?_)))))))))))))))
 refine lQ (cE 2 rfl (cE 3 rfl .nil)) (R_ret ?_)
 exact R_end (rs2 := _) rfl rfl (.tmp rfl (.tmp rfl .nil)) (⟨_, rfl, rfl⟩) (Weak.nil _)
end Go.Proofs.YtcngmkjdpoiiaaaGreatDoor

/- How plays are read. Printed by gen.py. -/
set_option maxRecDepth 100000
namespace Go.Proofs.YtcngmkjdpoiiaaaGreatDoor
open Go Go.RowKit Go.ChangeShapes Go.WideShapes Go.Proofs
theorem cells_op : Tryz.prog.cellsOf 110 = 58 := by kernel_rfl
theorem bytes_op : Tryz.prog.bytesOf 110 = 128 := by kernel_rfl
theorem bytes_st : Tryz.prog.bytesOf 63 = 320 := by kernel_rfl
theorem cells_pl : Tryz.prog.cellsOf 98 = 3 := by kernel_rfl
theorem fs_op : fsB Tryz.prog 110 [(3, 0, 1), (67, 1, 22), (3, 23, 1), (40, 24, 32), (3, 56, 1), (26, 57, 1)] = true := by kernel_rfl
theorem fs_pl : fsB Tryz.prog 98 [(3, 0, 1), (95, 1, 1), (96, 2, 1)] = true := by kernel_rfl
structure OpJ.ok (o : OpJ) : Prop where
 tx : o.tx.ok
 idb : IsB o.id
 idl : o.id.length = 32
 pr : u64 o.pr
def opOf (a : Int × Tx × Int × List Int × Int × Int × Unit) : OpJ := ⟨a.1, a.2.1, a.2.2.1, a.2.2.2.1, a.2.2.2.2.1, a.2.2.2.2.2.1⟩
def rd_op := PLift.up (Reads.as (cells' := OpJ.cells) (Hd' := fun _ o => o.ok) (bulk' := fun _ => 1) (Small' := fun _ => True) opOf (Reads.struct fs_op cells_op (ReadsF.cons (Reads.int ty_int_3) (ReadsF.cons rd_tx.down (ReadsF.cons (Reads.int ty_int_3) (ReadsF.cons (Reads.ints (k := .u8) ty_un_40 ty_int_5 cells_u8 cells_hs) (ReadsF.cons (Reads.int ty_int_3) (ReadsF.cons (Reads.int ty_int_26) ReadsF.nil))))))) (fun a => by simp [OpJ.cells, opOf]) (fun W a h => by
 obtain ⟨⟨_, ⟨h1, _⟩, _, ⟨⟨h3, h4⟩, _⟩, _, ⟨h5, _⟩, _⟩, _⟩ := h
 exact ⟨h1, fun z hz => by have := h4 z hz; simp only [fits] at this; omega, h3, fits64 h5⟩) (fun _ => by omega) (fun a h => trivial))
def rd_ops := PLift.up (Reads.slice ty_sl_96 cells_op bytes_op (fun _ => .inr trivial) rd_op.down)
def rd_sts := PLift.up (Reads.slice ty_sl_95 cells_st bytes_st (fun _ => .inr trivial) rd_st.down)
/-- A play, as it is read. -/
structure PlayJ where
 most : Int
 s : Sl StJ
 o : Sl OpJ
def PlayJ.cells (x : PlayJ) : List Value := [.int .i64 x.most, x.s.val, x.o.val]
def playOf (a : Int × Sl StJ × Sl OpJ × Unit) : PlayJ := ⟨a.1, a.2.1, a.2.2.1⟩
structure PlayJ.ok (W : World) (x : PlayJ) : Prop where
 hs : x.s.xs.length ≤ x.s.c
 ho : x.o.xs.length ≤ x.o.c
 rs : Row W x.s.b (x.s.xs.flatMap StJ.cells)
 ro : Row W x.o.b (x.o.xs.flatMap OpJ.cells)
 st : ∀ y ∈ x.s.xs, y.ok W
 op : ∀ y ∈ x.o.xs, y.ok
def PlayJ.small (x : PlayJ) : Prop := (x.s.xs.length * 320 ≤ reachBytes ∧ ∀ y ∈ x.s.xs, y.l.s.xs.length * 40 ≤ reachBytes ∧ y.l.r.xs.length * 32 ≤ reachBytes) ∧ x.o.xs.length * 128 ≤ reachBytes
def rd_play := PLift.up (Reads.as (cells' := PlayJ.cells) (Hd' := PlayJ.ok) (bulk' := fun _ => 1) (Small' := PlayJ.small) playOf (Reads.struct fs_pl cells_pl (ReadsF.cons (Reads.int ty_int_3) (ReadsF.cons rd_sts.down (ReadsF.cons rd_ops.down ReadsF.nil)))) (fun _ => rfl) (fun W a h => by
 obtain ⟨⟨_, ⟨⟨h1, _, h2, h3⟩, _⟩, ⟨⟨h4, _, h5, h6⟩, _⟩, _⟩, _⟩ := h
 exact ⟨h1, h4, h2, h5, fun y hy => (h3 y hy).1, fun y hy => (h6 y hy).1⟩) (fun _ => by omega) (fun a h => ⟨h.2.1, h.2.2.1.1⟩))
/-- States whose cells are as many as they are. -/
theorem sts_of {W : World} : ∀ {xs : List StJ}, (∀ x ∈ xs, x.ok W) → (∀ y ∈ xs, y.l.s.xs.length * 40 ≤ reachBytes ∧ y.l.r.xs.length * 32 ≤ reachBytes) → ∃ sts : List StK, sts.length = xs.length ∧ rc sts = xs.flatMap StJ.cells ∧ ∀ s ∈ sts, s.in_ W
 | [], _, _ => ⟨[], rfl, rfl, fun _ h => (nomatch h)⟩
 | x :: xs, h, hs => by
  obtain ⟨sts, e1, e2, e3⟩ := sts_of (xs := xs) (fun y hy => h y (List.mem_cons_of_mem _ hy)) fun y hy => hs y (List.mem_cons_of_mem _ hy)
  obtain ⟨g1, g2, g3, g4, ⟨q1, q2, q3, q4, q5, q6, q7, q8⟩⟩ := h x (List.mem_cons_self ..)
  obtain ⟨m1, m2⟩ := hs x (List.mem_cons_self ..)
  simp only [reachBytes] at m1 m2
  refine ⟨⟨x, g1, g2, g3, g4, q1, q2, q5, q6, q7, q8, by omega, by omega⟩ :: sts, by simp [e1], ?_, fun s hs => ?_⟩
  ·rw [List.flatMap_cons, ← e2]; rfl
  ·rcases List.mem_cons.1 hs with rfl | hs
   ·exact ⟨q3, q4⟩
   ·exact e3 s hs
theorem ops_of : ∀ {xs : List OpJ}, (∀ x ∈ xs, x.ok) → ∃ ops : List OpK, ops.length = xs.length ∧ rc ops = xs.flatMap OpJ.cells
 | [], _ => ⟨[], rfl, rfl⟩
 | x :: xs, h => by
  obtain ⟨ops, e1, e2⟩ := ops_of (xs := xs) fun y hy => h y (List.mem_cons_of_mem _ hy)
  have hx := h x (List.mem_cons_self ..)
  refine ⟨⟨x, hx.tx, hx.idb, hx.idl, hx.pr⟩ :: ops, by simp [e1], ?_⟩
  rw [List.flatMap_cons, ← e2]; rfl
end Go.Proofs.YtcngmkjdpoiiaaaGreatDoor

/- A pool: Add. Printed by gen.py. -/
set_option maxRecDepth 100000
namespace Go.Proofs.YtcngmkjdpoiiaaaGreatDoor
open Go Go.RowKit Go.Proofs
theorem lasts_ex (V : List TxR) : ∃ L, Lasts V L := by
 have key : ∀ n (V : List TxR), V.length = n → ∃ L, Lasts V L := by
  intro n
  induction n with
  | zero => intro V h; rw [List.length_eq_zero_iff.1 h]; exact ⟨[], Lasts.nil⟩
  | succ n ih =>
   intro V h
   obtain ⟨W, x, rfl⟩ : ∃ W x, V = W ++ [x] := ⟨V.dropLast, V.getLast (by intro e; rw [e] at h; cases h), (List.dropLast_concat_getLast _).symm⟩
   obtain ⟨L, d⟩ := ih W (by simpa using h)
   by_cases hx : ∃ y ∈ L, y.t.frm = x.t.frm ∧ ¬ y.t.non < x.t.non
   ·obtain ⟨y, hy, e, hn⟩ := hx
    exact ⟨L, d.keep hy e hn⟩
   ·exact ⟨_, d.put fun y hy e => Classical.byContradiction fun hn => hx ⟨y, hy, e, hn⟩⟩
 exact key _ V rfl
theorem least_ex (V : List TxR) : ∃ c, Least V c := by
 have key : ∀ n (V : List TxR), V.length = n → ∃ c, Least V c := by
  intro n
  induction n with
  | zero => intro V h; exact ⟨none, List.length_eq_zero_iff.1 h⟩
  | succ n ih =>
   intro V h
   obtain ⟨W, x, rfl⟩ : ∃ W x, V = W ++ [x] := ⟨V.dropLast, V.getLast (by intro e; rw [e] at h; cases h), (List.dropLast_concat_getLast _).symm⟩
   obtain ⟨c, d⟩ := ih W (by simpa using h)
   cases c with
   | none =>
    have d : W = [] := d
    subst d
    exact ⟨some x, Least.first x⟩
   | some c =>
    by_cases hx : 0 < cmpT x.t c.t
    ·exact ⟨_, d.take hx⟩
    ·exact ⟨_, d.keep hx⟩
 exact key _ V rfl
theorem cheap_ex {H : List TxR} (hP : PoolOk H) (but : Int) : ∃ c, CheapOf H but c := by
 obtain ⟨L, d⟩ := lasts_ex H
 obtain ⟨c, h⟩ := least_ex (noOf but L)
 exact ⟨c, cheap_best hP d (mem_noOf d.one but) (fun _ => Iff.rfl) h⟩
theorem cheap_one {H : List TxR} (hP : PoolOk H) {but : Int} : ∀ {c c' : Option TxR}, CheapOf H but c → CheapOf H but c' → c' = c
 | none, none, _, _ => rfl
 | none, some c', h, h' => absurd (h c' h'.1) h'.2.1
 | some c, none, h, h' => absurd (h' c h.1) h.2.1
 | some c, some c', ⟨h1, h2, h3, h4⟩, ⟨g1, g2, g3, g4⟩ => by
  have a := h4 c' g1 g2 g3
  have b := g4 c h1 h2 h3
  rw [cmpT_le] at a b
  rw [nodup_inj hP.keys g1 h1 (Prod.ext (by show c'.t.frm = c.t.frm; omega) (by show c'.t.non = c.t.non; omega))]
/-- What Add answers. -/
def addE (rc : List Rcd) (ch : List Int) (H : List TxR) (l : List Acc) (most : Int) (x : TxR) (c : Option TxR) : Int :=
 if addE0 rc ch H l x ≠ 0 then addE0 rc ch H l x else if (heldAt H (keyT x)).isSome = true ∨ (H.length : Int) < most then 0 else match c with
  | none => 94
  | some c => if x.t.fee ≤ c.t.fee then 94 else 0
def addH (rc : List Rcd) (ch : List Int) (H : List TxR) (l : List Acc) (most : Int) (x : TxR) (c : Option TxR) : List TxR :=
 if addE rc ch H l most x c ≠ 0 then H else if (heldAt H (keyT x)).isSome = true ∨ (H.length : Int) < most then putH x H else match c with
  | none => H
  | some c => putH x (dropH (keyT c) H)
section
variable {rc : List Rcd} {ch : List Int} {H : List TxR} {l : List Acc} {most : Int} {x : TxR} {c : Option TxR}
theorem addE_no (h : addE rc ch H l most x c ≠ 0) : addH rc ch H l most x c = H := if_pos h
theorem addE_first {e : Int} (h : addE0 rc ch H l x = e) (he : e ≠ 0) : addE rc ch H l most x c = e ∧ addH rc ch H l most x c = H := by
 have h1 : addE rc ch H l most x c = e := by unfold addE; rw [if_pos (by rw [h]; exact he), h]
 exact ⟨h1, addE_no (by rw [h1]; exact he)⟩
theorem addE_room (h : addE0 rc ch H l x = 0) (hr : (heldAt H (keyT x)).isSome = true ∨ (H.length : Int) < most) : addE rc ch H l most x c = 0 ∧ addH rc ch H l most x c = putH x H := by
 have h1 : addE rc ch H l most x c = 0 := by unfold addE; rw [if_neg (by rw [h]; simp), if_pos hr]
 exact ⟨h1, by unfold addH; rw [if_neg (by rw [h1]; simp), if_pos hr]⟩
theorem addE_low (h : addE0 rc ch H l x = 0) (hr : ¬ ((heldAt H (keyT x)).isSome = true ∨ (H.length : Int) < most)) (hl : ∀ c0, c = some c0 → x.t.fee ≤ c0.t.fee) : addE rc ch H l most x c = 94 ∧ addH rc ch H l most x c = H := by
 have h1 : addE rc ch H l most x c = 94 := by
  unfold addE; rw [if_neg (by rw [h]; simp), if_neg hr]
  cases c with
  | none => rfl
  | some c0 => exact if_pos (hl c0 rfl)
 exact ⟨h1, addE_no (by rw [h1]; decide)⟩
theorem addE_put (h : addE0 rc ch H l x = 0) (hr : ¬ ((heldAt H (keyT x)).isSome = true ∨ (H.length : Int) < most)) {c0 : TxR} (hc : c = some c0) (hl : ¬ x.t.fee ≤ c0.t.fee) : addE rc ch H l most x c = 0 ∧ addH rc ch H l most x c = putH x (dropH (keyT c0) H) := by
 subst hc
 have h1 : addE rc ch H l most x (some c0) = 0 := by
  unfold addE; rw [if_neg (by rw [h]; simp), if_neg hr]; exact if_neg hl
 exact ⟨h1, by unfold addH; rw [if_neg (by rw [h1]; simp), if_neg hr]⟩
end
set_option maxHeartbeats 1000000 in
theorem padd_ok {gl : Nat → Obj} (hG : Globs gl) (p : Nat) (most : Int) (H : List TxR) (hP : PoolOk H) (q : Nat) (sg : List (Int × Nat)) (rc : List Rcd) (base : Option Addr) (c : Nat) (l : List Acc) (hc : l.length ≤ c) (hm : l.length ≤ 5000000000000)(hok : ∀ x ∈ l, x.ok) (v : Value) (hv : v.oneCell' = true) (s : StR) (hcb : IsB s.ch) (x : TxR) (cp : Option TxR) (hC : CheapOf H x.t.frm cp) : SpecR (cx gl) 35 [.pointer (some ⟨p, 0, none⟩), .agg (s.cells (.slice base l.length c) v).toArray, .pointer (some ⟨q, 0, none⟩), .agg x.t.cells.toArray] (fun w hp => Seen w hp base (Go.Proofs.YtcngmkjdpoiiaaaGreatDoor.rc l)) [POOL p most (H), REG q sg rc] (.int .i64 (addE rc s.ch H l most x cp)) [POOL p most ((addH rc s.ch H l most x cp)), REG q sg rc] := by
 refine Spec.enter (C := cx gl) Tryz.func35 rfl 87 rfl rfl fun w0 h0 hsep hsub hpre => ?_
 show St (cx gl) _ [(0, .pointer (some ⟨p, 0, none⟩)), (1, .agg (s.cells (.slice base l.length c) v).toArray), (2, .pointer (some ⟨q, 0, none⟩)), (3, .agg x.t.cells.toArray)] _ _
 refine St.openP [] fun ⟨mh, mi⟩ _ => ?_
 refine St.unbundle [] (rT ?_)
 refine lO (W_box ((s.cells (.slice base l.length c) v)) rfl rfl rfl rfl rfl fun b5 => ?_)
 refine lO (W_box (x.t.cells) rfl rfl rfl rfl rfl fun b7 => lA (k:=?_))
 refine lQ (cE 0 rfl (cE 2 rfl (cE 5 rfl (cE 7 rfl (cE 8 rfl .nil))))) (rS (rS ?_))
 refine St.res (rs' := [blk p (poolC mh mi most) 78, mapK rec2K mh (hM (H)), mapK iK mi (iM (H)), REG q sg rc, blk b7 x.t.cells 67, blk b5 (s.cells (.slice base l.length c) v) 63]) (Weak.pick (p := [_, _]) (Weak.pick (p := [_, _]) (Weak.pick (p := [_, _]) (Weak.pick (p := [_, _]) (Weak.keep (Weak.keep (Weak.nil _))))))) (rR (lMv (k:=?_)))
 refine lO (W_callR rfl rfl rfl rfl fn_ca_109 (pmissing_ok p mh mi most) (Split.one (p := [])) (fun _ _ _ _ _ _ _ => trivial) ?_)
 refine E_false (t := 16) rfl (rfl) (lMv (k:=lMv (k:=?_)))
 refine lO (W_callR rfl rfl rfl rfl fn_ca_110 (unmade_ok q sg rc) (Weak.pick (p := [_, _, _]) (Weak.keep (Weak.keep (Weak.keep (Weak.keep (Weak.keep (Weak.nil _))))))) (fun _ _ _ _ _ _ _ => trivial) ?_)
 refine E_false (t := 19) rfl (rfl) (lP pK (k:=?_))
 refine lQ (cE 0 rfl (cE 2 rfl (cE 5 rfl (cE 7 rfl (cE 8 rfl (cE 20 rfl .nil)))))) (kF (k:=R_skip (qT (rS (rS ?_)))))
 refine St.res (rs' := [POOL p most (H), REG q sg rc, blk b7 x.t.cells 67, blk b5 (s.cells (.slice base l.length c) v) 63]) (Weak.trans (Weak.pick (p := [_]) (Weak.pick (p := [_]) (Weak.pick (p := [_]) (Weak.keep (Weak.keep (Weak.keep (Weak.nil _))))))) (pool_close (rs := [_, _, _]))) (rR (lMv (k:=?_)))
 refine lV (V_loadAgg rfl rfl ty_ag_63 (Rds.blk .h3) (s.len _ _)) (k:=lMv (k:=?_))
 refine lV (V_loadAgg rfl rfl ty_ag_67 (Rds.blk .h2) (x.ok.cellsLen)) (k:=?_)
 refine lO (W_callR rfl rfl rfl rfl fn_ca_111 (plook_ok hG p most H q sg rc s hcb (.slice base l.length c) v x) (Weak.refl _) (fun _ _ _ _ _ _ _ => trivial) (lA (k:=?_)))
 refine lQ (cE 0 rfl (cE 5 rfl (cE 7 rfl (cE 8 rfl (cE 9 rfl .nil))))) (rT (lMv (k:=lP pNe (k:=?_))))
 refine lQ (cE 0 rfl (cE 5 rfl (cE 7 rfl (cE 8 rfl (cE 9 rfl (cE 27 rfl .nil)))))) ?_
 refine R_condP rfl (fun h1 => ?_) (fun h1 => ?_)
 ·skip
  have ha9 := addE_first (most := most) (c := cp) (show addE0 rc s.ch H l x = lookE rc s.ch H x.t from if_pos h1) h1
  refine rT (lMv (k:=lA (k:=?_)))
  refine lQ (cE 0 rfl (cE 5 rfl (cE 7 rfl (cE 8 rfl .nil)))) (R_ret (Q_then_ret ?_))
  exact R_end (rs2 := _) rfl rfl (.tmp rfl .nil) (⟨by rw [ha9.1]; rfl, rfl⟩) (by rw [ha9.2]; exact Weak.keep (Weak.keep (Weak.nil _)))
 ·skip
  have h1 : lookE rc s.ch H x.t = 0 := Classical.not_not.1 h1
  obtain ⟨hpx, htx, hsx, hid⟩ := lookFine_of h1
  refine R_skip (qT (rS (rT (lMv (k:=?_)))))
  refine lV (V_loadAgg rfl rfl ty_ag_63 (Rds.blk .h3) (s.len _ _)) (k:=?_)
  refine lV (V_loadAgg rfl rfl ty_ag_67 (Rds.blk .h2) (x.ok.cellsLen)) (k:=?_)
  refine lO (W_callR rfl rfl rfl rfl fn_ca_112 (pfits_ok p most H hP base c l hc hm hok v hv s x hpx) (Split.one (p := [])) (Sn.pre (Sn.old hpre)) (lA (k:=?_)))
  refine lQ (cE 0 rfl (cE 7 rfl (cE 8 rfl (cE 10 rfl .nil)))) (rT (lMv (k:=lP pNe (k:=?_))))
  refine lQ (cE 0 rfl (cE 7 rfl (cE 8 rfl (cE 10 rfl (cE 34 rfl .nil))))) ?_
  refine R_condP rfl (fun h2 => ?_) (fun h2 => ?_)
  ·skip
   have ha9 := addE_first (most := most) (c := cp) (show addE0 rc s.ch H l x = fitE H l x by unfold addE0; rw [if_neg (by rw [h1]; simp), if_pos h2]) h2
   refine rT (lMv (k:=lA (k:=?_)))
   refine lQ (cE 0 rfl (cE 7 rfl (cE 8 rfl .nil))) (R_ret (Q_then_ret ?_))
   exact R_end (rs2 := _) rfl rfl (.tmp rfl .nil) (⟨by rw [ha9.1]; rfl, rfl⟩) (by rw [ha9.2]; exact Weak.keep (Weak.keep (Weak.nil _)))
  ·skip
   have h2 : fitE H l x = 0 := Classical.not_not.1 h2
   refine R_skip (qT ?_)
   refine R_joinE (G := List TxR) (cE 0 rfl (cE 7 rfl (cE 8 rfl .nil))) (fun g => []) (fun g => [POOL p most (g), REG q sg rc, blk b7 x.t.cells 67, blk b5 (s.cells (.slice base l.length c) v) 63]) (fun g => addE rc s.ch H l most x cp = 0 ∧ (addH rc s.ch H l most x cp) = putH x g ∧ PoolOk g ∧ hasId g (idH x.t) = false) ?_ ?_
   ·skip
    refine rS ?_
    refine St.openP [] fun ⟨mh, mi⟩ _ => ?_
    refine St.unbundle [] ?_
    refine R_open [(0, 0), (1, 0), (2, 0), (3, 1), (4, 0), (5, 1), (6, 0), (7, 1), (8, 0), (9, 1), (10, 0), (11, 0), (12, 0), (13, 2), (14, 3), (15, 0)] mixed (by kernel_rfl) (QOk.then (QOk.then QOk.body)) (oP rfl pM (k:=oP rfl pN (k:=oP rfl (pF ty_fl_78_1) (k:=oV rfl (vB ty_sc_75 .h0) (k:=oP rfl (pF ty_fl_67_1) (k:=oV rfl (vB ty_sc_26 .h4) (k:=oP rfl (pF ty_fl_67_5) (k:=oV rfl (vB ty_sc_23 .h4) (k:=?_)))))))))
    refine oP rfl (P_buildStruct rfl ty_pl_207 ty_ze_207 rfl rfl (rfl)) (k:=?_)
    refine E_as (t := 45) (v' := rec2K (keyT x)) rfl (rfl) ?_
    refine oV rfl (V_lookupK (k := keyT x) rfl ty_map_75 (keyRec2 rec2_key) rfl rfl (trivial) (fun _ _ => trivial) .h1 (run_zeroValue_of ty_zv_67)) (k:=oP rfl pM (k:=?_))
    refine E_as (t := 36) (v' := .tuple #[.agg ((heldAt H (keyT x)).getD txrz).t.cells.toArray, .bool (heldAt H (keyT x)).isSome]) rfl (by rw [look_held]) (oP rfl pX (k:=oP rfl pX (k:=?_)))
    refine O_keep rfl rfl (W_alloc rfl rfl rfl ty_ze_67 fun b11 => (K_keep (Weak.drop (Weak.refl _)) ?_))
    refine O_new rfl rfl (W_storeAll rfl rfl rfl rfl ty_ag_67 (((heldAt H (keyT x)).getD txrz).ok.cellsLen) (Tx.one _) .h0 (((heldAt H (keyT x)).getD txrz).ok.cellsLen) (K_new (oP rfl pA (k:=O_nil ?_))))
    refine St.env (cE 0 rfl (cE 7 rfl (cE 8 rfl (cE 11 rfl (cE 12 rfl .nil))))) (qT (rT (lMv (k:=?_))))
    refine lQ (cE 0 rfl (cE 7 rfl (cE 8 rfl (cE 11 rfl (cE 49 rfl .nil))))) ?_
    refine R_cond rfl (fun hs => ?_) (fun hs => ?_)
    ·skip
     obtain ⟨y, hy⟩ := Option.isSome_iff_exists.1 hs
     refine rT (lP (pF ty_fl_67_4) (k:=lV (vB ty_sc_23 .h5) (k:=lP (pF ty_fl_67_4) (k:=lV (vB ty_sc_23 .h0) (k:=?_)))))
     refine E_as (t := 53) (v' := .int .u64 (y.t.fee)) rfl (by rw [hy]; rfl) (lP pLe (k:=?_))
     refine lQ (cE 0 rfl (cE 7 rfl (cE 8 rfl (cE 54 rfl .nil)))) ?_
     refine R_condP rfl (fun h3 => ?_) (fun h3 => ?_)
     ·skip
      have ha9 := addE_first (most := most) (c := cp) (show addE0 rc s.ch H l x = 94 by unfold addE0; rw [if_neg (by rw [h1]; simp), if_neg (by rw [h2]; simp), if_pos ⟨hs, by rw [hy]; exact h3⟩]) (by decide)
      refine rT (lA (k:=?_))
      refine lQ (cE 0 rfl (cE 7 rfl (cE 8 rfl .nil))) (R_ret (Q_then_ret ?_))
      exact R_end (rs2 := _) rfl rfl (.tmp rfl .nil) (⟨by rw [ha9.1]; rfl, rfl⟩) (by rw [ha9.2]; exact Weak.trans (Weak.pick (p := [_]) (Weak.pick (p := [_]) (Weak.pick (p := [_]) (Weak.pick (p := [_]) (Weak.nil _))))) (pool_close (rs := [_])))
     ·skip
      refine R_skip ?_
      exact Q_meet (H) (by show addE rc s.ch H l most x cp = 0 ∧ (addH rc s.ch H l most x cp) = putH x (H) ∧ PoolOk (H) ∧ hasId (H) (idH x.t) = false; exact ⟨(addE_room (most := most) (c := cp) (by unfold addE0; rw [if_neg (by rw [h1]; simp), if_neg (by rw [h2]; simp)]; exact if_neg (by rintro ⟨_, h9⟩; rw [hy] at h9; exact h3 h9)) (.inl hs)).1, (addE_room (most := most) (c := cp) (by unfold addE0; rw [if_neg (by rw [h1]; simp), if_neg (by rw [h2]; simp)]; exact if_neg (by rintro ⟨_, h9⟩; rw [hy] at h9; exact h3 h9)) (.inl hs)).2, hP, hid⟩) (by repeat (first | exact .nil | refine .cons rfl ?_ | refine .consE rfl (by first | rfl | (congr 1; omega) | (congr 1; push_cast; omega)) ?_)) (Weak.trans (Weak.pick (p := [_]) (Weak.pick (p := [_]) (Weak.pick (p := [_]) (Weak.pick (p := [_]) (Weak.pick (p := [_]) (Weak.pick (p := [_]) (Weak.nil _))))))) (pool_close (rs := [_, _, _])))
    ·skip
     have hs : (heldAt H (keyT x)).isSome = false := hs
     have ha0 : addE0 rc s.ch H l x = 0 := (by unfold addE0; rw [if_neg (by rw [h1]; simp), if_neg (by rw [h2]; simp)]; exact if_neg (by rintro ⟨h9, _⟩; rw [hs] at h9; cases h9))
     refine rS ?_
     refine R_open [(0, 0), (1, 0), (2, 0), (3, 1), (4, 1), (5, 0), (6, 0), (7, 0), (8, 1), (9, 0)] mixed (by kernel_rfl) (QOk.then (QOk.then QOk.body)) (oP rfl pM (k:=oP rfl pN (k:=oP rfl (pF ty_fl_78_1) (k:=oV rfl (vB ty_sc_75 .h1) (k:=?_)))))
     refine oV rfl (V_lenMapK rfl ty_map_75 rfl .h2) (k:=oP rfl pM (k:=oP rfl pN (k:=oP rfl (pF ty_fl_78_0) (k:=oV rfl (vB ty_sc_3 .h1) (k:=oP rfl pGe (k:=O_nil ?_))))))
     refine St.env (cE 0 rfl (cE 7 rfl (cE 8 rfl (cE 64 rfl .nil)))) (qT ?_)
     refine R_condP rfl (fun h4 => ?_) (fun h4 => ?_)
     ·skip
      have hnr : ¬ ((heldAt H (keyT x)).isSome = true ∨ (H.length : Int) < most) := fun h9 => h9.elim (fun h8 => by rw [hs] at h8; cases h8) (fun h8 => by rw [hM_len] at h4; omega)
      refine rS ?_
      refine St.res (rs' := [POOL p most (H), REG q sg rc, blk b7 x.t.cells 67, blk b5 (s.cells (.slice base l.length c) v) 63]) (Weak.trans (Weak.pick (p := [_]) (Weak.pick (p := [_]) (Weak.pick (p := [_]) (Weak.pick (p := [_]) (Weak.pick (p := [_]) (Weak.pick (p := [_]) (Weak.nil _))))))) (pool_close (rs := [_, _, _]))) (rR (lMv (k:=lP (pF ty_fl_67_1) (k:=lV (vB ty_sc_26 .h2) (k:=?_)))))
      refine lO (W_call rfl rfl rfl rfl fn_ca_113 (cheap_ok p most H hP x.t.frm) (Split.nil _) (fun _ _ _ _ _ _ _ => trivial) fun v1 rs1 ⟨c1, hc1, e1, e2⟩ => ?_)
      subst e1; subst e2
      obtain rfl : cp = c1 := (cheap_one hP hC hc1).symm
      refine lMv (k:=lP pX (k:=lP pX (k:=?_)))
      refine lO (W_alloc rfl rfl rfl ty_ze_67 fun b13 => ?_)
      refine lO (W_storeAll rfl rfl rfl rfl ty_ag_67 ((cp.getD txrz).ok.cellsLen) (Tx.one _) .h0 ((cp.getD txrz).ok.cellsLen) (lA (k:=?_)))
      refine lQ (cE 0 rfl (cE 7 rfl (cE 8 rfl (cE 13 rfl (cE 14 rfl .nil))))) (rS (rT (lMv (k:=lP pO (k:=lMv (k:=?_))))))
      refine E_bool (t := 74) rfl (fun hn => ?_) (fun hn => ?_)
      ·skip
       have hlow : ∀ c0, cp = some c0 → x.t.fee ≤ c0.t.fee := fun c0 h9 => by rw [h9] at hn; cases hn
       refine lN (k:=lN (k:=lN (k:=lN (k:=lN (k:=lP pK (k:=?_))))))
       refine lQ (cE 0 rfl (cE 7 rfl (cE 8 rfl (cE 13 rfl (cE 80 rfl .nil))))) (kT (k:=rT (lA (k:=?_))))
       refine lQ (cE 0 rfl (cE 7 rfl (cE 8 rfl (cE 13 rfl .nil)))) (R_ret (Q_then_ret (Q_then_ret ?_)))
       exact R_end (rs2 := _) rfl rfl (.tmp rfl .nil) (⟨by rw [(addE_low ha0 hnr hlow).1]; rfl, rfl⟩) (by rw [(addE_low ha0 hnr hlow).2]; exact Weak.pick (p := [_]) (Weak.pick (p := [_]) (Weak.nil _)))
      ·skip
       obtain ⟨c0, hc9⟩ : ∃ c0, cp = some c0 := by cases cp with | none => cases hn | some x => exact ⟨x, rfl⟩
       have hcm : c0 ∈ H := by rw [hc9] at hC; exact hC.1
       refine lP (pF ty_fl_67_4) (k:=lV (vB ty_sc_23 .h3) (k:=lP (pF ty_fl_67_4) (k:=lV (vB ty_sc_23 .h0) (k:=?_))))
       refine E_as (t := 78) (v' := .int .u64 (c0.t.fee)) rfl (by rw [hc9]; rfl) (lP pLe (k:=lP pK (k:=?_)))
       refine lQ (cE 0 rfl (cE 7 rfl (cE 8 rfl (cE 13 rfl (cE 80 rfl .nil))))) ?_
       refine R_condP rfl (fun hlw => ?_) (fun hlw => ?_)
       ·skip
        have hlow : ∀ c0, cp = some c0 → x.t.fee ≤ c0.t.fee := fun c2 h9 => by rw [hc9] at h9; cases h9; exact hlw
        refine rT (lA (k:=?_))
        refine lQ (cE 0 rfl (cE 7 rfl (cE 8 rfl (cE 13 rfl .nil)))) (R_ret (Q_then_ret (Q_then_ret ?_)))
        exact R_end (rs2 := _) rfl rfl (.tmp rfl .nil) (⟨by rw [(addE_low ha0 hnr hlow).1]; rfl, rfl⟩) (by rw [(addE_low ha0 hnr hlow).2]; exact Weak.pick (p := [_]) (Weak.pick (p := [_]) (Weak.nil _)))
       ·skip
        refine R_skip (qT (rR (lMv (k:=?_))))
        refine lV (V_loadAgg rfl rfl ty_ag_67 (Rds.blk .h0) ((cp.getD txrz).ok.cellsLen)) (k:=?_)
        refine E_as (t := 82) (v' := .agg c0.t.cells.toArray) rfl (by rw [hc9]; rfl) ?_
        refine lO (W_callR rfl rfl rfl rfl fn_ca_114 (pdrop_ok p most H hG hP c0 hcm) (Split.one (p := [_])) (fun _ _ _ _ _ _ _ => trivial) ?_)
        refine lE (cE 0 rfl (cE 7 rfl (cE 8 rfl .nil))) ?_
        exact Q_meet (dropH (keyT c0) H) (by show addE rc s.ch H l most x cp = 0 ∧ (addH rc s.ch H l most x cp) = putH x (dropH (keyT c0) H) ∧ PoolOk (dropH (keyT c0) H) ∧ hasId (dropH (keyT c0) H) (idH x.t) = false; exact ⟨(addE_put ha0 hnr hc9 hlw).1, (addE_put ha0 hnr hc9 hlw).2, hP.sub (dropH_sub _ _), hasId_sub (dropH_sub _ _) hid⟩) (by repeat (first | exact .nil | refine .cons rfl ?_ | refine .consE rfl (by first | rfl | (congr 1; omega) | (congr 1; push_cast; omega)) ?_)) (Weak.keep (Weak.pick (p := [_]) (Weak.pick (p := [_]) (Weak.pick (p := [_]) (Weak.nil _)))))
     ·skip
      refine R_skip ?_
      exact Q_meet (H) (by show addE rc s.ch H l most x cp = 0 ∧ (addH rc s.ch H l most x cp) = putH x (H) ∧ PoolOk (H) ∧ hasId (H) (idH x.t) = false; exact ⟨(addE_room (most := most) (c := cp) ha0 (.inr (by rw [hM_len] at h4; omega))).1, (addE_room (most := most) (c := cp) ha0 (.inr (by rw [hM_len] at h4; omega))).2, hP, hid⟩) (by repeat (first | exact .nil | refine .cons rfl ?_ | refine .consE rfl (by first | rfl | (congr 1; omega) | (congr 1; push_cast; omega)) ?_)) (Weak.trans (Weak.pick (p := [_]) (Weak.pick (p := [_]) (Weak.pick (p := [_]) (Weak.pick (p := [_]) (Weak.pick (p := [_]) (Weak.pick (p := [_]) (Weak.nil _))))))) (pool_close (rs := [_, _, _])))
   ·intro H1 hinv
    replace hinv : addE rc s.ch H l most x cp = 0 ∧ (addH rc s.ch H l most x cp) = putH x H1 ∧ PoolOk H1 ∧ hasId H1 (idH x.t) = false := hinv
    show St (cx gl) _ _ [POOL p most (H1), REG q sg rc, blk b7 x.t.cells 67, blk b5 (s.cells (.slice base l.length c) v) 63] _
    obtain ⟨hae, hah, hP1, hid1⟩ := hinv
    refine rT (lMv (k:=?_))
    refine lV (V_loadAgg rfl rfl ty_ag_67 (Rds.blk .h2) (x.ok.cellsLen)) (k:=?_)
    refine lO (W_callR rfl rfl rfl rfl fn_ca_115 (pput_ok p most H1 hG hP1 x hid1) (Split.one (p := [])) (fun _ _ _ _ _ _ _ => trivial) ?_)
    refine lQ (cE 8 rfl .nil) (rT (lA (k:=?_)))
    refine L_nil (qT (R_ret ?_))
    exact R_end (rs2 := _) rfl rfl (.tmp rfl .nil) (⟨by rw [hae]; rfl, rfl⟩) (by rw [hah]; exact Weak.keep (Weak.keep (Weak.nil _)))
end Go.Proofs.YtcngmkjdpoiiaaaGreatDoor

/- A pool: Recheck. Printed by gen.py. -/
set_option maxRecDepth 100000
namespace Go.Proofs.YtcngmkjdpoiiaaaGreatDoor
open Go Go.RowKit Go.Proofs Go.Sort
/-- Can it not come any more? -/
def goneT (l : List Acc) (y : TxR) : Bool := decide (findE l y.t.frm = 0) && decide (y.t.non < (findX l y.t.frm).non)
def goneL (l : List Acc) (V : List TxR) : List TxR := V.filter (goneT l)
def keptH (l : List Acc) (H : List TxR) : List TxR := H.filter fun y => !goneT l y
def restH (G H : List TxR) : List TxR := H.filter fun x => !(G.any fun g => decide (keyT g = keyT x))
theorem gone_yes {l : List Acc} {H : List TxR} {I : List Nat} {i : Nat} {y : TxR} (h : H[i]? = some y) (hg : goneT l y = true) : goneL l (vis H (I ++ [i])) = goneL l (vis H I) ++ [y] := by
 rw [vis_snoc h]; unfold goneL; rw [List.filter_append, List.filter_cons_of_pos hg, List.filter_nil]
theorem gone_no {l : List Acc} {H : List TxR} {I : List Nat} {i : Nat} {y : TxR} (h : H[i]? = some y) (hg : goneT l y = false) : goneL l (vis H (I ++ [i])) = goneL l (vis H I) := by
 rw [vis_snoc h]; unfold goneL; rw [List.filter_append, List.filter_cons_of_neg (by rw [hg]; decide), List.filter_nil, List.append_nil]
theorem gone_len (l : List Acc) (V : List TxR) : (goneL l V).length ≤ V.length := List.length_filter_le _ _
theorem dropH_filter {k : Int × Int} : ∀ {H : List TxR}, (H.map keyT).Nodup → dropH k H = H.filter fun x => !decide (k = keyT x)
 | [], _ => rfl
 | x :: H, h => by
  rw [List.map_cons, List.nodup_cons] at h
  unfold dropH
  rw [List.eraseP_cons, List.filter_cons]
  by_cases e : keyT x = k
  ·rw [decide_eq_true e, decide_eq_true e.symm]
   refine ((List.filter_eq_self).2 fun y hy => ?_).symm
   have : ¬ k = keyT y := fun e2 => h.1 (List.mem_map.2 ⟨y, hy, by rw [← e2, e]⟩)
   rw [decide_eq_false this]; rfl
  ·have e2 : ¬ k = keyT x := fun e3 => e e3.symm
   rw [decide_eq_false e, decide_eq_false e2]
   exact congrArg (x :: ·) (dropH_filter h.2)
theorem rest_nil (H : List TxR) : restH [] H = H := List.filter_eq_self.2 fun _ _ => rfl
theorem rest_sub (G H : List TxR) : (restH G H).Sublist H := List.filter_sublist
theorem rest_snoc {G H : List TxR} (hP : PoolOk H) (g : TxR) : dropH (keyT g) (restH G H) = restH (G ++ [g]) H := by
 rw [dropH_filter (hP.sub (rest_sub G H)).keys]
 unfold restH
 rw [List.filter_filter]
 refine List.filter_congr fun x _ => ?_
 rw [List.any_append, List.any_cons, List.any_nil, Bool.or_false, Bool.not_or, Bool.and_comm]
theorem rest_next {G H : List TxR} (hP : PoolOk H) {j : Nat} {g : TxR} (h : G[j]? = some g) : dropH (keyT g) (restH (G.take j) H) = restH (G.take (j + 1)) H := by
 rw [rest_snoc hP, List.take_add_one, h]; rfl
theorem rest_in {G H : List TxR} (hk : (G.map keyT).Nodup) (hs : ∀ g ∈ G, g ∈ H) {j : Nat} {g : TxR} (h : G[j]? = some g) : g ∈ restH (G.take j) H := by
 unfold restH
 rw [List.mem_filter]
 refine ⟨hs g (List.mem_of_getElem? h), ?_⟩
 rw [Bool.not_eq_true', List.any_eq_false]
 intro z hz
 rw [decide_eq_true_eq]
 intro e
 obtain ⟨m, hm, e2⟩ := List.mem_take_iff_getElem.1 hz
 obtain ⟨hj, e3⟩ := List.getElem?_eq_some_iff.1 h
 have h4 := List.pairwise_iff_getElem.1 hk m j (by rw [List.length_map]; omega) (by rw [List.length_map]; omega) (by omega)
 rw [List.getElem_map, List.getElem_map, e2, e3] at h4
 exact h4 e
theorem rest_all {l : List Acc} {G H : List TxR} (hP : PoolOk H) (hG : ∀ g, g ∈ G ↔ g ∈ H ∧ goneT l g = true) : restH G H = keptH l H := by
 unfold restH keptH
 refine List.filter_congr fun x hx => ?_
 congr 1
 rw [Bool.eq_iff_iff, List.any_eq_true]
 constructor
 ·rintro ⟨g, hg, e⟩
  obtain ⟨h1, h2⟩ := (hG g).1 hg
  rw [← nodup_inj hP.keys h1 hx (of_decide_eq_true e)]; exact h2
 ·exact fun h => ⟨x, (hG x).2 ⟨hx, h⟩, decide_eq_true rfl⟩
set_option maxHeartbeats 1000000 in
theorem precheck_ok {gl : Nat → Obj} (hG : Globs gl) (p : Nat) (most : Int) (H : List TxR) (hP : PoolOk H) (hl : H.length ≤ 65536) (base : Option Addr) (c : Nat) (l : List Acc) (hc : l.length ≤ c) (hm : l.length ≤ 5000000000000)(hok : ∀ x ∈ l, x.ok) (v : Value) (hv : v.oneCell' = true) (s : StR) : Spec (cx gl) 45 [.pointer (some ⟨p, 0, none⟩), .agg (s.cells (.slice base l.length c) v).toArray] (fun w hp => Seen w hp base (Go.Proofs.YtcngmkjdpoiiaaaGreatDoor.rc l)) [POOL p most (H)] (fun v rs => ∃ (L : List TxR) (b : Option Addr) (c : Nat), v = .slice b L.length c ∧ Dear (goneL l H) L ∧ rs = [POOL p most (keptH l H), ownS 67 22 (.slice b L.length c) (L.length) (rc L)]) := by
 refine Spec.enter (C := cx gl) Tryz.func45 rfl 58 rfl rfl fun w0 h0 hsep hsub hpre => ?_
 show St (cx gl) _ [(0, .pointer (some ⟨p, 0, none⟩)), (1, .agg (s.cells (.slice base l.length c) v).toArray)] _ _
 refine St.openP [] fun ⟨mh, mi⟩ _ => ?_
 refine St.unbundle [] (rT ?_)
 refine lO (W_box ((s.cells (.slice base l.length c) v)) rfl rfl rfl rfl rfl fun b3 => lA (k:=?_))
 refine lQ (cE 0 rfl (cE 3 rfl (cE 4 rfl .nil))) (rS (rT (lMv (k:=?_))))
 refine lO (W_callR rfl rfl rfl rfl fn_ca_109 (pmissing_ok p mh mi most) (Split.one (p := [_])) (fun _ _ _ _ _ _ _ => trivial) ?_)
 refine E_false (t := 13) rfl (rfl) ?_
 refine lQ (cE 0 rfl (cE 3 rfl (cE 4 rfl (cE 13 rfl .nil)))) (kF (k:=R_skip (qT (rT (lA (k:=?_))))))
 refine lQ (cE 0 rfl (cE 3 rfl (cE 4 rfl (cE 5 rfl .nil)))) (rS (rS ?_))
 refine St.res (rs' := [blk p (poolC mh mi most) 78, mapK rec2K mh (hM (H)), mapK iK mi (iM (H)), blk b3 (s.cells (.slice base l.length c) v) 63]) (Weak.keep (Weak.pick (p := [_]) (Weak.pick (p := [_]) (Weak.keep (Weak.nil _))))) ?_
 refine St.openMap [_] fun es ck he hbo => ?_
 refine St.res (rs' := [blk p (poolC mh mi most) 78, mapH mh es ck, mapK iK mi (iM (H)), blk b3 (s.cells (.slice base l.length c) v) 63]) (Weak.refl _) (rR (lMv (k:=lP pN (k:=lP (pF ty_fl_78_1) (k:=lV (vB ty_sc_75 .h0) (k:=?_))))))
 refine lO (W_range rfl rfl rfl ty_map_75 rfl .h1 fun it => ?_)
 refine lQ (cE 0 rfl (cE 3 rfl (cE 4 rfl (cE 5 rfl (cE 18 rfl .nil))))) (R_block ?_)
 refine R_loopE (G := List Nat × Value) (cE 0 rfl (cE 3 rfl (cE 4 rfl (cE 18 rfl .nil)))) (fun g => [(5, g.2)]) (fun g => [ownS 67 22 (g.2) ((goneL l (vis H g.1)).length) (rc (goneL l (vis H g.1))), iterH it mh ck es (g.1), blk p (poolC mh mi most) 78, mapH mh es ck, mapK iK mi (iM (H)), blk b3 (s.cells (.slice base l.length c) v) 63]) (fun g => g.1.Nodup ∧ (∀ q9 ∈ g.1, q9 < H.length) ∧ g.1.length + leftN H.length g.1 ≤ H.length) (fun g => leftN H.length g.1) ([], .slice none 0 0) (by show ([]).Nodup ∧ (∀ q9 ∈ ([]), q9 < H.length) ∧ ([]).length + leftN H.length ([]) ≤ H.length; exact ⟨List.nodup_nil, fun _ h => (nomatch h), by have := left_nil H.length; simpa using this⟩) (by repeat (first | exact .nil | refine .cons rfl ?_ | refine .consE rfl (by first | rfl | (congr 1; omega) | (congr 1; push_cast; omega)) ?_)) (Weak.newNil) ?_
 rintro ⟨I, vo⟩ hinv
 replace hinv : I.Nodup ∧ (∀ q9 ∈ I, q9 < H.length) ∧ I.length + leftN H.length I ≤ H.length := hinv
 show St (cx gl) _ ((5, vo) :: _) [ownS 67 22 (vo) ((goneL l (vis H I)).length) (rc (goneL l (vis H I))), iterH it mh ck es (I), blk p (poolC mh mi most) 78, mapH mh es ck, mapK iK mi (iM (H)), blk b3 (s.cells (.slice base l.length c) v) 63] _
 obtain ⟨hI1, hI2, hI3⟩ := hinv
 refine rT ?_
 refine lO (W_next (key := rec2K) (L := hM H) he hbo (fun i hi => by rw [hM_len]; exact hI2 i hi) rfl rfl rfl rfl .h3 .h1 (fun I' => .h1) fun r hst => ?_)
 refine lP (P_more rfl rfl (fun i h => (hst.new i h).1)) (k:=?_)
 refine L_nil (qT (rS ?_))
 refine R_cond rfl (fun hr => ?_) (fun hr => ?_)
 ·skip
  obtain ⟨i, hr9⟩ := Option.isSome_iff_exists.1 hr
  subst hr9
  obtain ⟨hil, hin⟩ := hst.new i rfl
  rw [hM_len] at hil
  obtain ⟨y, hy⟩ : ∃ y, H[i]? = some y := ⟨_, List.getElem?_eq_getElem hil⟩
  have hvl := vis_len H I
  have hgl := gone_len l (vis H I)
  refine R_skip (qT (R_block (rT ?_)))
  refine lV (V_entry (key := rec2K) (L := hM H) he hbo (hM_at hy) rfl rfl .h3 .h1) (k:=lP pX (k:=lP pX (k:=?_)))
  refine lO (W_alloc rfl rfl rfl ty_ze_207 fun b6 => ?_)
  refine lO (W_alloc rfl rfl rfl ty_ze_67 fun b7 => ?_)
  refine lO (W_storeAll rfl rfl rfl rfl ty_ag_207 (rfl) (by intro v hv; simp only [List.mem_cons, List.not_mem_nil, or_false] at hv; rcases hv with rfl | rfl <;> rfl) .h1 (rfl) ?_)
  refine lO (W_storeAll rfl rfl rfl rfl ty_ag_67 (y.ok.cellsLen) (Tx.one _) .h0 (y.ok.cellsLen) ?_)
  refine L_nil (qT (rT (lP (pF ty_fl_63_9) (k:=?_))))
  refine lV (V_loadAgg rfl rfl ty_ag_30 ((Rds.blk .h7).part 51 (st_led s _ _)) (rfl)) (k:=lP (pF ty_fl_207_0) (k:=lV (vB ty_sc_26 .h1) (k:=?_)))
  refine lO (W_callV rfl rfl rfl rfl fn_ca_75 (find_ok base c l hc (by omega) v hv s.bu s.su y.t.frm) (fun w nw => (Sn.old hpre).rw_ w nw) (lMv (k:=lP pX (k:=lP pX (k:=?_)))))
  refine lO (W_alloc rfl rfl rfl ty_ze_50 fun b8 => ?_)
  refine lO (W_storeAll rfl rfl rfl rfl ty_ag_50 (rfl) (Rec.one (findX l y.t.frm)) .h0 (rfl) (lA (k:=?_)))
  refine L_nil (qT (rT (lMv (k:=lP pEq (k:=lMv (k:=?_))))))
  refine E_bool (t := 34) rfl (fun h1 => ?_) (fun h1 => ?_)
  ·skip
   have h1 := of_decide_eq_true h1
   refine lP (pF ty_fl_50_3) (k:=lV (vB ty_sc_23 .h0) (k:=lP (pF ty_fl_207_1) (k:=lV (vB ty_sc_23 .h2) (k:=?_))))
   refine E_as (t := 38) (v' := .int .u64 (y.t.non)) rfl (rfl) (lP pGt (k:=lP pK (k:=?_)))
   refine L_nil (qT ?_)
   refine R_condP rfl (fun h2 => ?_) (fun h2 => ?_)
   ·skip
    refine rR (lMv (k:=?_))
    refine lV (V_loadAgg rfl rfl ty_ag_67 (Rds.blk .h1) (y.ok.cellsLen)) (k:=?_)
    refine lO (W_lit (z := .nilIface) (y.t.cells) rfl rfl rfl ty_sl_92 ty_lz_92 rfl rfl rfl (by decide) (by decide) (by intro v hv; simp only [List.mem_singleton] at hv; subst hv; exact y.ok.cellsLen) (by simp [Value.cells]) fun b43 => ?_)
    refine lO (W_append (p := [_, _, _, _]) rfl rfl rfl ty_sl_92 ty_ap_92 ty_src_92 rfl rfl rfl (Src.slice (sz := 22) (m := 1) (news := y.t.cells) (Rds.blk .h0) y.ok.cellsLen (Tx.one _)) (by omega) (by simp only [maxLen]; omega) fun v44 => lA (k:=?_))
    refine L_nil (Q_block ?_)
    exact Q_round (I ++ [i], v44) (by show (I ++ [i]).Nodup ∧ (∀ q9 ∈ (I ++ [i]), q9 < H.length) ∧ (I ++ [i]).length + leftN H.length (I ++ [i]) ≤ H.length; exact ⟨nodup_snoc hI1 hin, bound_snoc hI2 hil, by have := leftN_lt hil hin; rw [List.length_append]; show I.length + 1 + _ ≤ _; omega⟩) (leftN_lt hil hin) (by repeat (first | exact .nil | refine .cons rfl ?_ | refine .consE rfl (by first | rfl | (congr 1; omega) | (congr 1; push_cast; omega)) ?_)) (Weak.drop (Weak.drop (Weak.drop (Weak.drop (by rw [gone_yes hy (by unfold goneT; rw [decide_eq_true h1, decide_eq_true h2]; rfl), List.length_append, rc_append, rc_tx]; exact Weak.refl _)))))
   ·skip
    refine R_skip (Q_block ?_)
    exact Q_round (I ++ [i], vo) (by show (I ++ [i]).Nodup ∧ (∀ q9 ∈ (I ++ [i]), q9 < H.length) ∧ (I ++ [i]).length + leftN H.length (I ++ [i]) ≤ H.length; exact ⟨nodup_snoc hI1 hin, bound_snoc hI2 hil, by have := leftN_lt hil hin; rw [List.length_append]; show I.length + 1 + _ ≤ _; omega⟩) (leftN_lt hil hin) (by repeat (first | exact .nil | refine .cons rfl ?_ | refine .consE rfl (by first | rfl | (congr 1; omega) | (congr 1; push_cast; omega)) ?_)) (Weak.drop (Weak.drop (Weak.drop (by rw [gone_no hy (by unfold goneT; rw [decide_eq_false h2, Bool.and_false])]; exact Weak.refl _))))
  ·skip
   have h1 := of_decide_eq_false h1
   refine lN (k:=lN (k:=lN (k:=lN (k:=lN (k:=lP pK (k:=?_))))))
   refine L_nil (qT (kF (k:=R_skip (Q_block ?_))))
   exact Q_round (I ++ [i], vo) (by show (I ++ [i]).Nodup ∧ (∀ q9 ∈ (I ++ [i]), q9 < H.length) ∧ (I ++ [i]).length + leftN H.length (I ++ [i]) ≤ H.length; exact ⟨nodup_snoc hI1 hin, bound_snoc hI2 hil, by have := leftN_lt hil hin; rw [List.length_append]; show I.length + 1 + _ ≤ _; omega⟩) (leftN_lt hil hin) (by repeat (first | exact .nil | refine .cons rfl ?_ | refine .consE rfl (by first | rfl | (congr 1; omega) | (congr 1; push_cast; omega)) ?_)) (Weak.drop (Weak.drop (Weak.drop (by rw [gone_no hy (by unfold goneT; rw [decide_eq_false h1, Bool.false_and])]; exact Weak.refl _))))
 ·skip
  have hr9 : r = none := by cases r with | none => rfl | some i => cases hr
  subst hr9
  have hvp := vis_perm hI1 hI2 (fun i hi => hst.over rfl i (by rw [hM_len]; exact hi))
  have hvl := vis_len H I
  have hgl := gone_len l (vis H I)
  obtain ⟨G, hG9⟩ : ∃ G, G = (goneL l (vis H I)) := ⟨_, rfl⟩
  rw [← hG9] at hgl ⊢
  have hgp : G.Perm (goneL l H) := by rw [hG9]; exact hvp.filter _
  have hgm : ∀ g, g ∈ G ↔ g ∈ H ∧ goneT l g = true := fun g => by rw [hgp.mem_iff]; exact List.mem_filter
  have hgk : (G.map keyT).Nodup := (hgp.map keyT).nodup_iff.2 (hP.keys.sublist (List.filter_sublist.map _))
  refine St.ownForm (p := []) fun ub uc huv huc => ?_
  subst huv
  refine St.res (rs' := [ownS 67 22 (.slice ub G.length uc) (G.length) (rc G), POOL p most (restH (G.take 0) H), blk b3 (s.cells (.slice base l.length c) v) 63]) (by rw [List.take_zero, rest_nil]; exact Weak.keep (Weak.trans (Weak.pick (p := [_, _]) (Weak.pick (p := [_]) (Weak.pick (p := [_]) (Weak.pick (p := [_]) (Weak.nil _))))) (Weak.trans (Weak.closeMap he hbo) (Weak.trans (Weak.pick (p := [_]) (Weak.keep (Weak.keep (Weak.keep (Weak.nil _))))) (pool_close (rs := [_])))))) (R_exit (Q_then_exit (Q_then_exit (Q_block_eq ?_))))
  refine St.env (cE 0 rfl (cE 4 rfl (cE 5 rfl .nil))) (qT (rS (rT (lMv (k:=lP (pL ty_sl_92) (k:=lMv (k:=?_)))))))
  refine L_nil (qT (R_block ?_))
  refine R_loopE (G := Nat) (cE 0 rfl (cE 4 rfl (cE 5 rfl (cE 45 rfl (cE 46 rfl .nil))))) (fun g => [(47, .int .i64 ((g : Int)))]) (fun g => [ownS 67 22 (.slice ub G.length uc) (G.length) (rc G), POOL p most (restH (G.take g) H), blk b3 (s.cells (.slice base l.length c) v) 63]) (fun g => g ≤ G.length) (fun g => G.length - g) (0) (Nat.zero_le _) (by repeat (first | exact .nil | refine .cons rfl ?_ | refine .consE rfl (by first | rfl | (congr 1; omega) | (congr 1; push_cast; omega)) ?_)) (Weak.refl _) ?_
  intro j hinv
  replace hinv : j ≤ G.length := hinv
  show St (cx gl) _ ((47, .int .i64 ((j : Int))) :: _) [ownS 67 22 (.slice ub G.length uc) (G.length) (rc G), POOL p most (restH (G.take j) H), blk b3 (s.cells (.slice base l.length c) v) 63] _
  refine rT (lP pLt (k:=?_))
  refine L_nil (qT (rS ?_))
  refine R_condP rfl (fun hj => ?_) (fun hj => ?_)
  ·skip
   have hj : j < G.length := by omega
   obtain ⟨g, hg⟩ : ∃ g, G[j]? = some g := ⟨_, List.getElem?_eq_getElem hj⟩
   have hgin := rest_in hgk (fun g h => ((hgm g).1 h).1) hg
   refine St.ownSome (p := []) (by omega) fun pb pc huv2 huc2 => ?_
   obtain ⟨rfl, rfl⟩ : ub = some ⟨pb, 0, none⟩ ∧ uc = pc := by injection huv2 with h1 h2 h3; exact ⟨h1, h3⟩
   refine R_skip (qT (rS (R_block (rT ?_))))
   refine lP (P_ixs (j) rfl ty_sl_92 rfl rfl (by first | rfl | omega) (by omega)) (k:=?_)
   refine lV (V_loadAgg rfl rfl ty_ag_67 (rds_rc (rds_own .h0) hg) (g.ok.cellsLen)) (k:=?_)
   refine lO (W_alloc rfl rfl rfl ty_ze_67 fun b11 => ?_)
   refine lO (W_storeAll rfl rfl rfl rfl ty_ag_67 (g.ok.cellsLen) (Tx.one _) .h0 (g.ok.cellsLen) ?_)
   refine L_nil (qT (rR (lMv (k:=?_))))
   refine lV (V_loadAgg rfl rfl ty_ag_67 (Rds.blk .h0) (g.ok.cellsLen)) (k:=?_)
   refine lO (W_callR rfl rfl rfl rfl fn_ca_114 (pdrop_ok p most (restH (G.take j) H) hG (hP.sub (rest_sub _ _)) g hgin) (Split.one (p := [_, _])) (fun _ _ _ _ _ _ _ => trivial) ?_)
   refine lE (cE 0 rfl (cE 4 rfl (cE 5 rfl (cE 11 rfl (cE 45 rfl (cE 46 rfl (cE 47 rfl (cE 48 rfl (cE 49 rfl (cE 50 rfl (cE 51 rfl (cE 52 rfl .nil)))))))))))) (Q_block (qT (rR ?_)))
   first | (refine L_val rfl rfl rfl (OpP.v (P_addN rfl rfl rfl (by simp only [fits]; omega))) ?_) | (refine L_val rfl rfl rfl (OpP.v (P_add rfl rfl rfl)) ?_)
   refine lMv (k:=?_)
   refine L_nil ?_
   exact Q_round (j + 1) (by show j + 1 ≤ G.length; omega) (by show G.length - (j + 1) < G.length - j; omega) (by repeat (first | exact .nil | refine .cons rfl ?_ | refine .consE rfl (by first | rfl | (congr 1; omega) | (congr 1; push_cast; omega)) ?_)) (by rw [← rest_next hP hg]; exact Weak.pick (p := [_, _]) (Weak.keep (Weak.pick (p := [_]) (Weak.nil _))))
  ·skip
   have hj9 : j = G.length := by have : j ≤ G.length := hinv; omega
   subst hj9
   rw [List.take_length, rest_all hP hgm]
   refine St.res (rs' := [ownS 67 22 (.slice ub G.toArray.size uc) (G.toArray.size) (rc G.toArray.toList), POOL p most (keptH l H), blk b3 (s.cells (.slice base l.length c) v) 63]) (Weak.refl _) (R_exit (Q_then_exit (Q_then_exit (Q_block_eq ?_))))
   refine St.env (cE 4 rfl (cE 5 rfl .nil)) (qT (rT (lMv (k:=?_))))
   refine lO (W_call rfl rfl rfl rfl fn_ca_141 (sortT_ok ub uc G.toArray (by show G.length < _; omega)) (Split.one (p := [])) (fun _ _ _ _ _ _ _ => trivial) fun vv rs1 ⟨z1, d2, hp2, hs2, z2⟩ => ?_)
   subst z1; subst z2
   have hde := dear_of (d := G.toArray) hgp hp2 hs2
   refine lQ (cE 4 rfl (cE 5 rfl .nil)) (rT (lMv (k:=lA (k:=?_))))
   refine lQ (cE 4 rfl .nil) (R_ret ?_)
   exact R_end (rs2 := [POOL p most (keptH l H), ownS 67 22 (.slice ub d2.toList.length uc) (d2.toList.length) (rc d2.toList)]) rfl rfl (.tmp rfl .nil) (⟨d2.toList, ub, uc, by rw [show d2.toList.length = G.toArray.size from hp2.1]; rfl, hde, rfl⟩) (by rw [show d2.toList.length = G.toArray.size from hp2.1]; exact Weak.pick (p := [_]) (Weak.keep (Weak.nil _)))
end Go.Proofs.YtcngmkjdpoiiaaaGreatDoor

/- What an Add changes. Printed by gen.py. -/
set_option maxRecDepth 100000
namespace Go.Proofs.YtcngmkjdpoiiaaaGreatDoor
open Go Go.RowKit Go.Proofs Go.Sort
theorem mem_dropH {H : List TxR} (hk : (H.map keyT).Nodup) {k : Int × Int} {y : TxR} : y ∈ dropH k H ↔ y ∈ H ∧ keyT y ≠ k := by
 rw [dropH_filter hk, List.mem_filter]
 refine ⟨fun ⟨h1, h2⟩ => ⟨h1, fun e => by rw [e] at h2; simp at h2⟩, fun ⟨h1, h2⟩ => ⟨h1, by rw [decide_eq_false (fun e => h2 e.symm)]; rfl⟩⟩
theorem mem_putH {H : List TxR} (hk : (H.map keyT).Nodup) {x y : TxR} : y ∈ putH x H ↔ (y ∈ H ∧ keyT y ≠ keyT x) ∨ y = x := by
 unfold putH
 rw [List.mem_append, mem_dropH hk, List.mem_singleton]
theorem dropH_len {H : List TxR} {k : Int × Int} {y : TxR} (hy : y ∈ H) (e : keyT y = k) : (dropH k H).length = H.length - 1 := List.length_eraseP_of_mem hy (by simp [e])
theorem dropH_le (k : Int × Int) (H : List TxR) : (dropH k H).length ≤ H.length := (dropH_sub k H).length_le
theorem putH_len (x : TxR) (H : List TxR) : (putH x H).length = (dropH (keyT x) H).length + 1 := by unfold putH; rw [List.length_append]; rfl
theorem held_of {H : List TxR} (hk : (H.map keyT).Nodup) {y : TxR} (hy : y ∈ H) : heldAt H (keyT y) = some y := by
 cases h : heldAt H (keyT y) with
 | none => exact absurd rfl (held_none h y hy)
 | some z =>
  obtain ⟨h1, h2⟩ := held_mem h
  rw [nodup_inj hk h1 hy h2]
theorem new_notin {H : List TxR} {x : TxR} (h : hasId H (idH x.t) = false) : x ∉ H := fun hm => by
 unfold hasId at h
 have := List.any_eq_false.1 h x hm
 simp at this
/-- What an Add that is answered OK tells. -/
structure AddOk (rc : List Rcd) (ch : List Int) (H : List TxR) (l : List Acc) (most : Int) (x : TxR) (c : Option TxR) (N : List TxR) : Prop where
 look : LookFine rc ch H x.t
 fit : fitE H l x = 0
 how : ((heldAt H (keyT x)).isSome = true ∨ (H.length : Int) < most) ∧ N = putH x H ∧ (∀ y, heldAt H (keyT x) = some y → y.t.fee < x.t.fee) ∨
  ¬ ((heldAt H (keyT x)).isSome = true ∨ (H.length : Int) < most) ∧ ∃ c0, c = some c0 ∧ c0.t.fee < x.t.fee ∧ N = putH x (dropH (keyT c0) H)
theorem addOk_of {rc : List Rcd} {ch : List Int} {H : List TxR} {l : List Acc} {most : Int} {x : TxR} {c : Option TxR} (he : addE rc ch H l most x c = 0) : AddOk rc ch H l most x c (addH rc ch H l most x c) := by
 have h0 : addE0 rc ch H l x = 0 := by
  unfold addE at he
  split at he
  ·rename_i h1; exact absurd he h1
  ·rename_i h1; exact Classical.not_not.1 h1
 have h1 : lookE rc ch H x.t = 0 := by
  unfold addE0 at h0
  split at h0
  ·rename_i h1; exact absurd h0 h1
  ·rename_i h1; exact Classical.not_not.1 h1
 have h2 : fitE H l x = 0 := by
  unfold addE0 at h0
  rw [if_neg (by rw [h1]; simp)] at h0
  split at h0
  ·rename_i h2; exact absurd h0 h2
  ·rename_i h2; exact Classical.not_not.1 h2
 have h3 : ∀ y, heldAt H (keyT x) = some y → y.t.fee < x.t.fee := fun y hy => by
  unfold addE0 at h0
  rw [if_neg (by rw [h1]; simp), if_neg (by rw [h2]; simp), hy] at h0
  split at h0
  ·omega
  ·rename_i h4
   have : ¬ x.t.fee ≤ y.t.fee := fun h5 => h4 ⟨rfl, h5⟩
   omega
 refine ⟨lookFine_of h1, h2, ?_⟩
 by_cases hr : (heldAt H (keyT x)).isSome = true ∨ (H.length : Int) < most
 ·exact .inl ⟨hr, (addE_room (c := c) h0 hr).2, h3⟩
 ·refine .inr ⟨hr, ?_⟩
  cases c with
  | none => rw [(addE_low (c := none) h0 hr (fun _ h => nomatch h)).1] at he; cases he
  | some c0 =>
   by_cases hl : x.t.fee ≤ c0.t.fee
   ·rw [(addE_low (c := some c0) h0 hr (fun c1 h => by cases h; exact hl)).1] at he; cases he
   ·exact ⟨c0, rfl, by omega, (addE_put h0 hr rfl hl).2⟩
theorem AddOk.facts {rc : List Rcd} {ch : List Int} {H : List TxR} {l : List Acc} {most : Int} {x : TxR} {c : Option TxR} {N : List TxR} (a : AddOk rc ch H l most x c N) (hP : PoolOk H) (hC : CheapOf H x.t.frm c) : AddFacts H N x most := by
 have hk := hP.keys
 have hxn := new_notin a.look.new
 rcases a.how with ⟨hr, rfl, hf⟩ | ⟨hr, c0, rfl, hf, rfl⟩
 ·have hg : ∀ y ∈ H, y ∉ putH x H → keyT y = keyT x := fun y hy hn => Classical.byContradiction fun e => hn ((mem_putH hk).2 (.inl ⟨hy, e⟩))
  refine ⟨(mem_putH hk).2 (.inr rfl), fun y hy hn => ⟨hf y (by rw [← hg y hy hn]; exact held_of hk hy), .inl (hg y hy hn)⟩, fun y hy hn z hz hn2 => nodup_inj hk hy hz ((hg y hy hn).trans (hg z hz hn2).symm), fun ha => ?_, fun ⟨y, hy, hn⟩ => ?_⟩
  ·rw [putH_len, dropH_none fun y hy e => ?_]
   rcases (mem_putH hk).1 (ha y hy) with h1 | h1
   ·exact h1.2 e
   ·exact hxn (h1 ▸ hy)
  ·rw [putH_len, dropH_len hy (hg y hy hn)]
   have := List.length_pos_of_mem hy; omega
 ·obtain ⟨c1, c2, c3, c4⟩ := hC
  have hk2 : ((dropH (keyT c0) H).map keyT).Nodup := (hP.sub (dropH_sub _ _)).keys
  have hno : ∀ y ∈ H, keyT y ≠ keyT x := by
   refine held_none (k := keyT x) ?_
   cases h9 : heldAt H (keyT x) with
   | none => rfl
   | some y => exact absurd (.inl (by rw [h9]; rfl)) hr
  have hmem : ∀ y ∈ H, y ≠ c0 → y ∈ putH x (dropH (keyT c0) H) := fun y hy hne => (mem_putH hk2).2 (.inl ⟨(mem_dropH hk).2 ⟨hy, fun e => hne (nodup_inj hk hy c1 e)⟩, hno y hy⟩)
  have hc0 : c0 ∉ putH x (dropH (keyT c0) H) := fun hm => by
   rcases (mem_putH hk2).1 hm with h1 | h1
   ·exact ((mem_dropH hk).1 h1.1).2 rfl
   ·exact c2 (by rw [h1])
  have hg : ∀ y ∈ H, y ∉ putH x (dropH (keyT c0) H) → y = c0 := fun y hy hn => Classical.byContradiction fun e => hn (hmem y hy e)
  refine ⟨(mem_putH hk2).2 (.inr rfl), fun y hy hn => ?_, fun y hy hn z hz hn2 => (hg y hy hn).trans (hg z hz hn2).symm, fun ha => absurd (ha c0 c1) hc0, fun _ => ?_⟩
  ·obtain rfl := hg y hy hn
   exact ⟨hf, .inr ⟨by omega, c2, c3⟩⟩
  ·rw [putH_len, dropH_none fun y hy => hno y ((mem_dropH hk).1 hy).1, dropH_len c1 rfl]
   have := List.length_pos_of_mem c1; omega
theorem AddFacts.perm {L L' N N' : List TxR} {x : TxR} {most : Int} (h : AddFacts L N x most) (hL : L'.Perm L) (hN : N'.Perm N) : AddFacts L' N' x most := by
 have m1 : ∀ y, y ∈ L' ↔ y ∈ L := fun y => hL.mem_iff
 have m2 : ∀ y, y ∈ N' ↔ y ∈ N := fun y => hN.mem_iff
 refine ⟨(m2 x).2 h.new, fun y hy hn => ?_, fun y hy hn z hz hn2 => h.one y ((m1 y).1 hy) (fun e => hn ((m2 y).2 e)) z ((m1 z).1 hz) (fun e => hn2 ((m2 z).2 e)), fun ha => ?_, fun ⟨y, hy, hn⟩ => ?_⟩
 ·obtain ⟨g1, g2⟩ := h.gone y ((m1 y).1 hy) (fun e => hn ((m2 y).2 e))
  exact ⟨g1, g2.imp id fun ⟨q1, q2, q3⟩ => ⟨by rw [hL.length_eq]; exact q1, q2, fun z hz => q3 z ((m1 z).1 hz)⟩⟩
 ·rw [hL.length_eq, hN.length_eq]; exact h.all fun y hy => (m2 y).1 (ha y ((m1 y).2 hy))
 ·rw [hL.length_eq, hN.length_eq]; exact h.some_ ⟨y, (m1 y).1 hy, fun e => hn ((m2 y).2 e)⟩
/-- What holds of a pool all the time. -/
structure PoolInv (most : Int) (H : List TxR) : Prop where
 ok : PoolOk H
 top : TopOk H
 few : (H.length : Int) ≤ most
theorem PoolInv.nil {most : Int} (h : 1 ≤ most) : PoolInv most [] := ⟨PoolOk.nil, TopOk.nil, by show (0 : Int) ≤ most; omega⟩
theorem TopOk.put {H : List TxR} (h : TopOk H) {x : TxR} (hx : x.t.non < 18446744073709551615) : TopOk (putH x H) := fun y hy => by
 unfold putH at hy
 rcases List.mem_append.1 hy with hy | hy
 ·exact h y ((dropH_sub _ _).subset hy)
 ·rw [List.mem_singleton] at hy; subst hy; exact hx
theorem AddOk.inv {rc : List Rcd} {ch : List Int} {H : List TxR} {l : List Acc} {most : Int} {x : TxR} {c : Option TxR} {N : List TxR} (a : AddOk rc ch H l most x c N) (h : PoolInv most H) (hC : CheapOf H x.t.frm c) : PoolInv most N := by
 have hx := fitE_top a.fit
 have hp := a.look.plain
 have hi := a.look.new
 rcases a.how with ⟨hr, rfl, hf⟩ | ⟨hr, c0, rfl, hf, rfl⟩
 ·refine ⟨h.ok.put hp hi, h.top.put hx, ?_⟩
  rw [putH_len]
  cases h9 : heldAt H (keyT x) with
  | none =>
   have hl := hr.resolve_left (by rw [h9]; decide)
   rw [dropH_none (held_none h9)]; omega
  | some y =>
   obtain ⟨h1, h2⟩ := held_mem h9
   rw [dropH_len h1 h2]
   have := List.length_pos_of_mem h1; have := h.few; omega
 ·have hd := h.ok.sub (dropH_sub (keyT c0) H)
  refine ⟨hd.put hp (hasId_sub (dropH_sub _ _) hi), (h.top.sub (dropH_sub _ _)).put hx, ?_⟩
  rw [putH_len]
  have h1 := dropH_le (keyT x) (dropH (keyT c0) H)
  have h2 := dropH_len hC.1 (rfl : keyT c0 = keyT c0)
  have h3 := List.length_pos_of_mem hC.1
  have := h.few; omega
theorem add_inv {rc : List Rcd} {ch : List Int} {H : List TxR} {l : List Acc} {most : Int} {x : TxR} {c : Option TxR} (h : PoolInv most H) (hC : CheapOf H x.t.frm c) : PoolInv most (addH rc ch H l most x c) := by
 by_cases he : addE rc ch H l most x c = 0
 ·exact (addOk_of he).inv h hC
 ·rw [addE_no he]; exact h
theorem PoolInv.sub {most : Int} {H H' : List TxR} (h : PoolInv most H) (s : H'.Sublist H) : PoolInv most H' := ⟨h.ok.sub s, h.top.sub s, by have := s.length_le; have := h.few; omega⟩
theorem PoolInv.kept {most : Int} {H : List TxR} (h : PoolInv most H) (l : List Acc) : PoolInv most (keptH l H) := h.sub List.filter_sublist
/-! ### The list, the dearest first -/
theorem Dear.keys {H L : List TxR} (h : Dear H L) (hP : (H.map keyT).Nodup) : (L.map keyT).Nodup := (h.perm.map keyT).nodup_iff.2 hP
theorem Dear.lt {H L : List TxR} (h : Dear H L) (hP : (H.map keyT).Nodup) {i j : Nat} {x y : TxR} (hi : L[i]? = some x) (hj : L[j]? = some y) (hij : i < j) : cmpT x.t y.t < 0 := by
 obtain ⟨q1, q2⟩ := List.getElem?_eq_some_iff.1 hi
 obtain ⟨q3, q4⟩ := List.getElem?_eq_some_iff.1 hj
 have h1 := List.pairwise_iff_getElem.1 h.sorted i j q1 q3 hij
 rw [q2, q4] at h1
 unfold nearer at h1
 have h2 := List.pairwise_iff_getElem.1 (h.keys hP) i j (by rw [List.length_map]; exact q1) (by rw [List.length_map]; exact q3) hij
 rw [List.getElem_map, List.getElem_map, q2, q4] at h2
 rw [cmpT_neg] at h1 ⊢
 refine Classical.byContradiction fun h3 => h2 (Prod.ext (show x.t.frm = y.t.frm by omega) (show x.t.non = y.t.non by omega))
theorem Dear.filter {H L : List TxR} (h : Dear H L) (p : TxR → Bool) : Dear (H.filter p) (L.filter p) := ⟨h.perm.filter p, h.sorted.sublist List.filter_sublist⟩
theorem keys_nodup {L : List TxR} (h : (L.map keyT).Nodup) : L.Nodup := List.Pairwise.of_map keyT (fun _ _ h e => h (by rw [e])) h
theorem has_of {H : List TxR} {x : TxR} (h : x ∈ H) : hasId H (idH x.t) = true := by
 unfold hasId
 exact List.any_eq_true.2 ⟨x, h, decide_eq_true rfl⟩
end Go.Proofs.YtcngmkjdpoiiaaaGreatDoor

/- The outright statements: sound. Printed by gen.py. -/
set_option maxRecDepth 100000
namespace Go.Proofs.YtcngmkjdpoiiaaaGreatDoor
open Go Go.RowKit Go.Proofs Go.Sort
set_option maxHeartbeats 1000000 in
theorem sound_ok {gl : Nat → Obj} (hG : Globs gl) (p : Nat) (most : Int) (H : List TxR) (hI : PoolInv most H) (hl : H.length ≤ 65536) (w q : Nat) (sv : Value) (at_ : Int) (nb : Option Addr) (nc : Nat) (sts : List StK) (hnc : sts.length ≤ nc) (hns : sts.length ≤ 439804651110) : SpecR (cx gl) 62 [.pointer (some ⟨w, 0, none⟩), .int .i64 most] (fun _ _ => True) [POOL p most (H), blk w (sightC p q (sv) (.slice nb sts.length nc) (at_)) 135] (.bool true) [POOL p most (H), blk w (sightC p q (sv) (.slice nb sts.length nc) (at_)) 135] := by
 refine Spec.enter (C := cx gl) Tryz.func62 rfl 101 rfl rfl fun w0 h0 hsep hsub hpre => ?_
 show St (cx gl) _ [(0, .pointer (some ⟨w, 0, none⟩)), (1, .int .i64 (most))] _ _
 refine rT (lA (k:=?_))
 refine L_nil (qT (rT (lMv (k:=lP pN (k:=lP (pF ty_fl_135_0) (k:=lV (vB ty_sc_68 .h1) (k:=?_)))))))
 refine lO (W_call rfl rfl rfl rfl fn_ca_47 (plist_ok p most H hl) (Split.one (p := [])) (fun _ _ _ _ _ _ _ => trivial) fun v1 rs1 ⟨L, lb, lc, e1, hD, e2⟩ => ?_)
 subst e1; subst e2
 refine St.res (rs' := [POOL p most (H), blk w (sightC p q (sv) (.slice nb sts.length nc) (at_)) 135, ownS 67 22 (.slice lb L.length lc) L.length (rc L)]) (Weak.keep (Weak.pick (p := [_]) (Weak.keep (Weak.nil _)))) ?_
 have hlen := hD.perm.length_eq
 have hkn := hD.keys hI.ok.keys
 have hfew := hI.few
 refine lA (k:=?_)
 refine lQ (cE 0 rfl (cE 1 rfl (cE 4 rfl (cE 5 rfl .nil)))) (rS (rT (lMv (k:=lP (pL ty_sl_92) (k:=lMv (k:=lP pN (k:=lP (pF ty_fl_135_0) (k:=lV (vB ty_sc_68 .h1) (k:=?_)))))))))
 refine lO (W_callR rfl rfl rfl rfl fn_ca_51 (plen_ok p most H) (Split.one (p := [])) (fun _ _ _ _ _ _ _ => trivial) (lP pNe (k:=?_)))
 refine E_false (t := 22) rfl (decide_eq_false (fun h9 => h9 (by rw [hlen]))) (lMv (k:=lMv (k:=lP (pL ty_sl_92) (k:=lMv (k:=lP pGt (k:=?_))))))
 refine E_false (t := 27) rfl (decide_eq_false (by omega)) (lP pK (k:=?_))
 refine lQ (cE 0 rfl (cE 4 rfl (cE 5 rfl (cE 28 rfl .nil)))) (kF (k:=R_skip (qT (rS (rT (lA (k:=?_)))))))
 refine lQ (cE 0 rfl (cE 4 rfl (cE 5 rfl (cE 6 rfl .nil)))) (R_block ?_)
 refine R_loopE (G := Nat) (cE 0 rfl (cE 4 rfl (cE 5 rfl .nil))) (fun g => [(6, .int .i64 ((g : Nat) : Int))]) (fun g => [POOL p most (H), blk w (sightC p q (sv) (.slice nb sts.length nc) (at_)) 135, ownS 67 22 (.slice lb L.length lc) L.length (rc L)]) (fun g => g ≤ L.length) (fun g => L.length - g) (0) (Nat.zero_le _) (by repeat (first | exact .nil | refine .cons rfl ?_ | refine .consE rfl (by first | rfl | (congr 1; omega) | (congr 1; push_cast; omega)) ?_)) (Weak.refl _) ?_
 intro i hinv
 replace hinv : i ≤ L.length := hinv
 show St (cx gl) _ ((6, .int .i64 ((i : Nat) : Int)) :: _) [POOL p most (H), blk w (sightC p q (sv) (.slice nb sts.length nc) (at_)) 135, ownS 67 22 (.slice lb L.length lc) L.length (rc L)] _
 have hi := hinv
 refine rS (rT (lMv (k:=lMv (k:=lP (pL ty_sl_92) (k:=lP pLt (k:=?_))))))
 refine L_nil (qT ?_)
 refine R_condP rfl (fun hlt => ?_) (fun hlt => ?_)
 ·skip
  have him : i < L.length := by omega
  obtain ⟨x, hx⟩ : ∃ q, L[i]? = some q := ⟨_, List.getElem?_eq_getElem (by omega)⟩
  have hxH := hD.perm.mem_iff.1 (List.mem_of_getElem? hx)
  have hpl := hI.ok.plain x hxH
  refine St.ownSome (p := [_, _]) (by omega) fun ob oc hq _ => ?_
  simp only [Value.slice.injEq] at hq
  obtain ⟨rfl, _, rfl⟩ := hq
  refine R_skip (qT (rS (R_block (rT (lMv (k:=lMv (k:=?_)))))))
  refine lP (P_ixs (i) rfl ty_sl_92 rfl rfl (by first | rfl | omega) (by omega)) (k:=?_)
  refine lV (V_loadAgg rfl rfl ty_ag_67 (rds_rc (rds_own .h2) hx) (x.ok.cellsLen)) (k:=?_)
  refine lO (W_callV rfl rfl rfl rfl fn_ca_147 (txId_ok hG x.t x.ok) (fun _ _ => trivial) (lMv (k:=lP pX (k:=lP pX (k:=?_)))))
  refine lO (W_alloc rfl rfl rfl ty_ze_40 fun b7 => ?_)
  refine lO (W_storeAll rfl rfl rfl rfl ty_ag_40 (by rw [ints_length, idH_len]) (ints_one) .h0 (by rw [ints_length, idH_len]; rfl) (lA (k:=?_)))
  refine L_nil (qT (rS (rS ?_)))
  refine R_open [(0, 0), (1, 2), (2, 0), (3, 0), (4, 0), (5, 0), (6, 0), (7, 1), (8, 1), (9, 2), (10, 0), (11, 0), (12, 0), (13, 0), (14, 0), (15, 0), (16, 0), (17, 0), (18, 0), (19, 0), (20, 1), (21, 0), (22, 0), (23, 0), (24, 1), (25, 2), (26, 0), (27, 0), (28, 0)] mixed (by kernel_rfl) (QOk.then (QOk.then (QOk.block (QOk.then (QOk.then (QOk.block (QOk.then QOk.body))))))) (oP rfl pM (k:=?_))
  refine O_keep rfl rfl (W_callV rfl rfl rfl rfl fn_ca_33 (num_ok (plainE x.t)) (fun _ _ => trivial) (K_keep (Weak.refl _) (oP rfl pNe (k:=?_))))
  refine E_false (t := 45) rfl (decide_eq_false (fun h9 => h9 hpl)) (oP rfl pM (k:=oP rfl pM (k:=oP rfl pN (k:=oP rfl (pF ty_fl_135_0) (k:=oV rfl (vB ty_sc_68 .h2) (k:=?_))))))
  refine oV rfl (V_loadAgg rfl rfl ty_ag_40 (Rds.blk .h0) (by rw [ints_length, idH_len])) (k:=?_)
  refine O_keep rfl rfl (W_callR rfl rfl rfl rfl fn_ca_108 (phas_ok p most H (idN x.t)) (Split.one (p := [_])) (fun _ _ _ _ _ _ _ => trivial) (K_keep (Weak.pick (p := [_]) (Weak.keep (Weak.keep (Weak.keep (Weak.nil _))))) ?_))
  refine E_true (t := 52) rfl (has_of hxH) (oP rfl pO (k:=oP rfl pK (k:=oP rfl pM (k:=oP rfl pM (k:=oP rfl pGt (k:=?_))))))
  refine E_bool (t := 57) rfl (fun hi0 => ?_) (fun hi0 => ?_)
  ·skip
   have hi0 : 0 < i := by have := of_decide_eq_true hi0; omega
   obtain ⟨z, hz⟩ : ∃ q, L[i - 1]? = some q := ⟨_, List.getElem?_eq_getElem (by omega)⟩
   have hzx := hD.lt hI.ok.keys hz hx (by omega)
   refine oP rfl pM (k:=oP rfl pM (k:=oP rfl pM (k:=?_)))
   refine oP rfl (P_subN rfl rfl rfl (by simp only [fits]; omega)) (k:=?_)
   refine oP rfl (P_ixs (i - 1) rfl ty_sl_92 rfl rfl (by first | rfl | omega) (by omega)) (k:=?_)
   refine oV rfl (V_loadAgg rfl rfl ty_ag_67 (rds_rc (rds_own .h3) hz) (z.ok.cellsLen)) (k:=oP rfl pM (k:=oP rfl pM (k:=?_)))
   refine oP rfl (P_ixs (i) rfl ty_sl_92 rfl rfl (by first | rfl | omega) (by omega)) (k:=?_)
   refine oV rfl (V_loadAgg rfl rfl ty_ag_67 (rds_rc (rds_own .h3) hx) (x.ok.cellsLen)) (k:=?_)
   refine O_keep rfl rfl (W_callV rfl rfl rfl rfl fn_ca_148 (dearer_ok z.t x.t) (fun _ _ => trivial) (K_keep (Weak.refl _) ?_))
   refine E_true (t := 68) rfl (decide_eq_true hzx) (oP rfl pO (k:=oP rfl pK (k:=oP rfl pK (k:=O_nil (qT (kF (k:=R_skip (qT (rT (lA (k:=?_)))))))))))
   refine L_nil (qT (R_block ?_))
   refine R_loopE (G := Nat) (cE 0 rfl (cE 4 rfl (cE 5 rfl (cE 6 rfl (cE 7 rfl (cE 8 rfl (cE 29 rfl (cE 30 rfl (cE 31 rfl (cE 32 rfl (cE 35 rfl (cE 36 rfl (cE 37 rfl (cE 38 rfl (cE 39 rfl (cE 40 rfl (cE 41 rfl (cE 42 rfl (cE 43 rfl (cE 44 rfl (cE 45 rfl (cE 46 rfl (cE 47 rfl (cE 48 rfl (cE 49 rfl (cE 50 rfl (cE 51 rfl (cE 52 rfl (cE 53 rfl (cE 54 rfl (cE 55 rfl (cE 56 rfl (cE 57 rfl (cE 58 rfl (cE 59 rfl (cE 60 rfl (cE 61 rfl (cE 62 rfl (cE 63 rfl (cE 64 rfl (cE 65 rfl (cE 66 rfl (cE 67 rfl (cE 68 rfl (cE 69 rfl (cE 70 rfl (cE 71 rfl .nil))))))))))))))))))))))))))))))))))))))))))))))) (fun g => [(9, .int .i64 ((g : Nat) : Int))]) (fun g => [POOL p most (H), blk b7 (ints .u8 (idH x.t)) 40, blk w (sightC p q (sv) (.slice nb sts.length nc) (at_)) 135, ownS 67 22 (.slice (some ⟨ob, 0, none⟩) L.length lc) L.length (rc L)]) (fun g => g ≤ i) (fun g => i - g) (0) (Nat.zero_le _) (by repeat (first | exact .nil | refine .cons rfl ?_ | refine .consE rfl (by first | rfl | (congr 1; omega) | (congr 1; push_cast; omega)) ?_)) (Weak.refl _) ?_
   intro j hinv
   replace hinv : j ≤ i := hinv
   show St (cx gl) _ ((9, .int .i64 ((j : Nat) : Int)) :: _) [POOL p most (H), blk b7 (ints .u8 (idH x.t)) 40, blk w (sightC p q (sv) (.slice nb sts.length nc) (at_)) 135, ownS 67 22 (.slice (some ⟨ob, 0, none⟩) L.length lc) L.length (rc L)] _
   have hj := hinv
   refine rS (rT (lMv (k:=lMv (k:=lP pLt (k:=?_)))))
   refine L_nil (qT ?_)
   refine R_condP rfl (fun hlt2 => ?_) (fun hlt2 => ?_)
   ·skip
    have hji : j < i := by omega
    obtain ⟨z, hz⟩ : ∃ q, L[j]? = some q := ⟨_, List.getElem?_eq_getElem (by omega)⟩
    refine R_skip (qT (rS (R_block (rS ?_))))
    refine R_open [(0, 0), (1, 0), (2, 0), (3, 0), (4, 1), (5, 0), (6, 0), (7, 0), (8, 0), (9, 1), (10, 0), (11, 0), (12, 0), (13, 0), (14, 0), (15, 0), (16, 1), (17, 0), (18, 0), (19, 0), (20, 0), (21, 1), (22, 0), (23, 0)] mixed (by kernel_rfl) (QOk.then (QOk.block (QOk.then (QOk.then (QOk.block (QOk.block (QOk.then (QOk.then (QOk.block (QOk.then QOk.body)))))))))) (oP rfl pM (k:=oP rfl pM (k:=?_)))
    refine oP rfl (P_ixs (i) rfl ty_sl_92 rfl rfl (by first | rfl | omega) (by omega)) (k:=oP rfl (pG ty_fl_67_1) (k:=?_))
    refine oV rfl (V_load rfl rfl ty_sc_26 (rd_rc (rds_own .h3) hx rfl)) (k:=oP rfl pM (k:=oP rfl pM (k:=?_)))
    refine oP rfl (P_ixs (j) rfl ty_sl_92 rfl rfl (by first | rfl | omega) (by omega)) (k:=oP rfl (pG ty_fl_67_1) (k:=?_))
    refine oV rfl (V_load rfl rfl ty_sc_26 (rd_rc (rds_own .h3) hz rfl)) (k:=oP rfl pEq (k:=?_))
    refine E_bool (t := 87) rfl (fun q1 => ?_) (fun q1 => ?_)
    ·skip
     have q1 := of_decide_eq_true q1
     refine oP rfl pM (k:=oP rfl pM (k:=oP rfl pM (k:=?_)))
     refine oP rfl (P_ixs (i) rfl ty_sl_92 rfl rfl (by first | rfl | omega) (by omega)) (k:=oP rfl (pG ty_fl_67_5) (k:=?_))
     refine oV rfl (V_load rfl rfl ty_sc_23 (rd_rc (rds_own .h3) hx rfl)) (k:=oP rfl pM (k:=oP rfl pM (k:=?_)))
     refine oP rfl (P_ixs (j) rfl ty_sl_92 rfl rfl (by first | rfl | omega) (by omega)) (k:=oP rfl (pG ty_fl_67_5) (k:=?_))
     refine oV rfl (V_load rfl rfl ty_sc_23 (rd_rc (rds_own .h3) hz rfl)) (k:=oP rfl pEq (k:=?_))
     refine E_false (t := 99) rfl (decide_eq_false (fun q2 => by have h9 := hD.lt hI.ok.keys hz hx hji; rw [cmpT_neg] at h9; obtain ⟨g1, g2⟩ := List.getElem?_eq_some_iff.1 hz; obtain ⟨g3, g4⟩ := List.getElem?_eq_some_iff.1 hx; have h8 := List.pairwise_iff_getElem.1 hkn j i (by rw [List.length_map]; exact g1) (by rw [List.length_map]; exact g3) hji; rw [List.getElem_map, List.getElem_map, g2, g4] at h8; exact h8 (Prod.ext q1.symm q2.symm))) ?_
     refine oP rfl pK (k:=O_nil (qT (kF (k:=R_skip (Q_block (qT (rR (lMv (k:=?_)))))))))
     first | (refine L_val rfl rfl rfl (OpP.v (P_addN rfl rfl rfl (by simp only [fits]; omega))) ?_) | (refine L_val rfl rfl rfl (OpP.v (P_add rfl rfl rfl)) ?_)
     refine lA (k:=?_)
     refine L_nil ?_
     exact Q_round (j + 1) (by show j + 1 ≤ i; omega) (by show i - (j + 1) < i - j; omega) (by repeat (first | exact .nil | refine .cons rfl ?_ | refine .consE rfl (by first | rfl | (congr 1; omega) | (congr 1; push_cast; omega)) ?_)) (Weak.refl _)
    ·skip
     refine oP rfl pM (k:=?_)
     refine O_no rfl rfl rfl rfl ?_
     refine O_no rfl rfl rfl rfl ?_
     refine O_no rfl rfl rfl rfl ?_
     refine O_no rfl rfl rfl rfl ?_
     refine O_noX rfl rfl rfl rfl ?_
     refine O_no rfl rfl rfl rfl ?_
     refine O_no rfl rfl rfl rfl ?_
     refine O_no rfl rfl rfl rfl ?_
     refine O_no rfl rfl rfl rfl ?_
     refine O_noX rfl rfl rfl rfl ?_
     refine O_no rfl rfl rfl rfl (oP rfl pK (k:=O_nil (qT (kF (k:=R_skip (Q_block (qT (rR (lMv (k:=?_))))))))))
     first | (refine L_val rfl rfl rfl (OpP.v (P_addN rfl rfl rfl (by simp only [fits]; omega))) ?_) | (refine L_val rfl rfl rfl (OpP.v (P_add rfl rfl rfl)) ?_)
     refine lA (k:=?_)
     refine L_nil ?_
     exact Q_round (j + 1) (by show j + 1 ≤ i; omega) (by show i - (j + 1) < i - j; omega) (by repeat (first | exact .nil | refine .cons rfl ?_ | refine .consE rfl (by first | rfl | (congr 1; omega) | (congr 1; push_cast; omega)) ?_)) (Weak.refl _)
   ·skip
    refine R_exit (Q_then_exit (Q_then_exit (Q_block_eq (Q_block (qT (rR (lMv (k:=?_))))))))
    first | (refine L_val rfl rfl rfl (OpP.v (P_addN rfl rfl rfl (by simp only [fits]; omega))) ?_) | (refine L_val rfl rfl rfl (OpP.v (P_add rfl rfl rfl)) ?_)
    refine lA (k:=?_)
    refine L_nil ?_
    exact Q_round (i + 1) (by show i + 1 ≤ L.length; omega) (by show L.length - (i + 1) < L.length - i; omega) (by repeat (first | exact .nil | refine .cons rfl ?_ | refine .consE rfl (by first | rfl | (congr 1; omega) | (congr 1; push_cast; omega)) ?_)) (Weak.keep (Weak.pick (p := [_]) (Weak.pick (p := [_]) (Weak.nil _))))
  ·skip
   refine oP rfl pM (k:=?_)
   refine O_no rfl rfl rfl rfl ?_
   refine O_no rfl rfl rfl rfl ?_
   refine O_no rfl rfl rfl rfl ?_
   refine O_no rfl rfl rfl rfl ?_
   refine O_noX rfl rfl rfl rfl ?_
   refine O_no rfl rfl rfl rfl ?_
   refine O_no rfl rfl rfl rfl ?_
   refine O_no rfl rfl rfl rfl ?_
   refine O_noX rfl rfl rfl rfl ?_
   refine O_no2 rfl rfl rfl rfl ?_
   refine O_no rfl rfl rfl rfl (oP rfl pK (k:=oP rfl pK (k:=O_nil (qT (kF (k:=R_skip (qT (rT (lA (k:=?_))))))))))
   refine L_nil (qT (R_block ?_))
   refine R_loopE (G := Nat) (cE 0 rfl (cE 4 rfl (cE 5 rfl (cE 6 rfl (cE 7 rfl (cE 8 rfl (cE 29 rfl (cE 30 rfl (cE 31 rfl (cE 32 rfl (cE 35 rfl (cE 36 rfl (cE 37 rfl (cE 38 rfl (cE 39 rfl (cE 40 rfl (cE 41 rfl (cE 42 rfl (cE 43 rfl (cE 44 rfl (cE 45 rfl (cE 46 rfl (cE 47 rfl (cE 48 rfl (cE 49 rfl (cE 50 rfl (cE 51 rfl (cE 52 rfl (cE 53 rfl (cE 54 rfl (cE 55 rfl (cE 56 rfl (cE 57 rfl (cE 58 rfl (cE 59 rfl (cE 60 rfl (cE 61 rfl (cE 62 rfl (cE 63 rfl (cE 64 rfl (cE 65 rfl (cE 66 rfl (cE 67 rfl (cE 68 rfl (cE 69 rfl (cE 70 rfl (cE 71 rfl .nil))))))))))))))))))))))))))))))))))))))))))))))) (fun g => [(9, .int .i64 ((g : Nat) : Int))]) (fun g => [POOL p most (H), blk b7 (ints .u8 (idH x.t)) 40, blk w (sightC p q (sv) (.slice nb sts.length nc) (at_)) 135, ownS 67 22 (.slice (some ⟨ob, 0, none⟩) L.length lc) L.length (rc L)]) (fun g => g ≤ i) (fun g => i - g) (0) (Nat.zero_le _) (by repeat (first | exact .nil | refine .cons rfl ?_ | refine .consE rfl (by first | rfl | (congr 1; omega) | (congr 1; push_cast; omega)) ?_)) (Weak.refl _) ?_
   intro j hinv
   replace hinv : j ≤ i := hinv
   show St (cx gl) _ ((9, .int .i64 ((j : Nat) : Int)) :: _) [POOL p most (H), blk b7 (ints .u8 (idH x.t)) 40, blk w (sightC p q (sv) (.slice nb sts.length nc) (at_)) 135, ownS 67 22 (.slice (some ⟨ob, 0, none⟩) L.length lc) L.length (rc L)] _
   have hj := hinv
   refine rS (rT (lMv (k:=lMv (k:=lP pLt (k:=?_)))))
   refine L_nil (qT ?_)
   refine R_condP rfl (fun hlt2 => ?_) (fun hlt2 => ?_)
   ·skip
    have hji : j < i := by omega
    obtain ⟨z, hz⟩ : ∃ q, L[j]? = some q := ⟨_, List.getElem?_eq_getElem (by omega)⟩
    refine R_skip (qT (rS (R_block (rS ?_))))
    refine R_open [(0, 0), (1, 0), (2, 0), (3, 0), (4, 1), (5, 0), (6, 0), (7, 0), (8, 0), (9, 1), (10, 0), (11, 0), (12, 0), (13, 0), (14, 0), (15, 0), (16, 1), (17, 0), (18, 0), (19, 0), (20, 0), (21, 1), (22, 0), (23, 0)] mixed (by kernel_rfl) (QOk.then (QOk.block (QOk.then (QOk.then (QOk.block (QOk.block (QOk.then (QOk.then (QOk.block (QOk.then QOk.body)))))))))) (oP rfl pM (k:=oP rfl pM (k:=?_)))
    refine oP rfl (P_ixs (i) rfl ty_sl_92 rfl rfl (by first | rfl | omega) (by omega)) (k:=oP rfl (pG ty_fl_67_1) (k:=?_))
    refine oV rfl (V_load rfl rfl ty_sc_26 (rd_rc (rds_own .h3) hx rfl)) (k:=oP rfl pM (k:=oP rfl pM (k:=?_)))
    refine oP rfl (P_ixs (j) rfl ty_sl_92 rfl rfl (by first | rfl | omega) (by omega)) (k:=oP rfl (pG ty_fl_67_1) (k:=?_))
    refine oV rfl (V_load rfl rfl ty_sc_26 (rd_rc (rds_own .h3) hz rfl)) (k:=oP rfl pEq (k:=?_))
    refine E_bool (t := 87) rfl (fun q1 => ?_) (fun q1 => ?_)
    ·skip
     have q1 := of_decide_eq_true q1
     refine oP rfl pM (k:=oP rfl pM (k:=oP rfl pM (k:=?_)))
     refine oP rfl (P_ixs (i) rfl ty_sl_92 rfl rfl (by first | rfl | omega) (by omega)) (k:=oP rfl (pG ty_fl_67_5) (k:=?_))
     refine oV rfl (V_load rfl rfl ty_sc_23 (rd_rc (rds_own .h3) hx rfl)) (k:=oP rfl pM (k:=oP rfl pM (k:=?_)))
     refine oP rfl (P_ixs (j) rfl ty_sl_92 rfl rfl (by first | rfl | omega) (by omega)) (k:=oP rfl (pG ty_fl_67_5) (k:=?_))
     refine oV rfl (V_load rfl rfl ty_sc_23 (rd_rc (rds_own .h3) hz rfl)) (k:=oP rfl pEq (k:=?_))
     refine E_false (t := 99) rfl (decide_eq_false (fun q2 => by have h9 := hD.lt hI.ok.keys hz hx hji; rw [cmpT_neg] at h9; obtain ⟨g1, g2⟩ := List.getElem?_eq_some_iff.1 hz; obtain ⟨g3, g4⟩ := List.getElem?_eq_some_iff.1 hx; have h8 := List.pairwise_iff_getElem.1 hkn j i (by rw [List.length_map]; exact g1) (by rw [List.length_map]; exact g3) hji; rw [List.getElem_map, List.getElem_map, g2, g4] at h8; exact h8 (Prod.ext q1.symm q2.symm))) ?_
     refine oP rfl pK (k:=O_nil (qT (kF (k:=R_skip (Q_block (qT (rR (lMv (k:=?_)))))))))
     first | (refine L_val rfl rfl rfl (OpP.v (P_addN rfl rfl rfl (by simp only [fits]; omega))) ?_) | (refine L_val rfl rfl rfl (OpP.v (P_add rfl rfl rfl)) ?_)
     refine lA (k:=?_)
     refine L_nil ?_
     exact Q_round (j + 1) (by show j + 1 ≤ i; omega) (by show i - (j + 1) < i - j; omega) (by repeat (first | exact .nil | refine .cons rfl ?_ | refine .consE rfl (by first | rfl | (congr 1; omega) | (congr 1; push_cast; omega)) ?_)) (Weak.refl _)
    ·skip
     refine oP rfl pM (k:=?_)
     refine O_no rfl rfl rfl rfl ?_
     refine O_no rfl rfl rfl rfl ?_
     refine O_no rfl rfl rfl rfl ?_
     refine O_no rfl rfl rfl rfl ?_
     refine O_noX rfl rfl rfl rfl ?_
     refine O_no rfl rfl rfl rfl ?_
     refine O_no rfl rfl rfl rfl ?_
     refine O_no rfl rfl rfl rfl ?_
     refine O_no rfl rfl rfl rfl ?_
     refine O_noX rfl rfl rfl rfl ?_
     refine O_no rfl rfl rfl rfl (oP rfl pK (k:=O_nil (qT (kF (k:=R_skip (Q_block (qT (rR (lMv (k:=?_))))))))))
     first | (refine L_val rfl rfl rfl (OpP.v (P_addN rfl rfl rfl (by simp only [fits]; omega))) ?_) | (refine L_val rfl rfl rfl (OpP.v (P_add rfl rfl rfl)) ?_)
     refine lA (k:=?_)
     refine L_nil ?_
     exact Q_round (j + 1) (by show j + 1 ≤ i; omega) (by show i - (j + 1) < i - j; omega) (by repeat (first | exact .nil | refine .cons rfl ?_ | refine .consE rfl (by first | rfl | (congr 1; omega) | (congr 1; push_cast; omega)) ?_)) (Weak.refl _)
   ·skip
    refine R_exit (Q_then_exit (Q_then_exit (Q_block_eq (Q_block (qT (rR (lMv (k:=?_))))))))
    first | (refine L_val rfl rfl rfl (OpP.v (P_addN rfl rfl rfl (by simp only [fits]; omega))) ?_) | (refine L_val rfl rfl rfl (OpP.v (P_add rfl rfl rfl)) ?_)
    refine lA (k:=?_)
    refine L_nil ?_
    exact Q_round (i + 1) (by show i + 1 ≤ L.length; omega) (by show L.length - (i + 1) < L.length - i; omega) (by repeat (first | exact .nil | refine .cons rfl ?_ | refine .consE rfl (by first | rfl | (congr 1; omega) | (congr 1; push_cast; omega)) ?_)) (Weak.keep (Weak.pick (p := [_]) (Weak.pick (p := [_]) (Weak.nil _))))
 ·skip
  refine R_exit (Q_then_exit (Q_then_exit (Q_block_eq ?_)))
  refine St.env (cE 4 rfl .nil) (qT (rT (lA (k:=?_))))
  refine L_nil (qT (R_ret ?_))
  exact R_end (rs2 := _) rfl rfl (.tmp rfl .nil) (⟨rfl, rfl⟩) (Weak.keep (Weak.keep (Weak.nil _)))
end Go.Proofs.YtcngmkjdpoiiaaaGreatDoor

/- The outright statements: sign. Printed by gen.py. -/
set_option maxRecDepth 100000
namespace Go.Proofs.YtcngmkjdpoiiaaaGreatDoor
open Go Go.RowKit Go.Proofs Go.Sort
/-- What sign answers, and what is signed behind it. -/
def sigX (ch : List Int) (x : Tx) : Tx := if txbE ch x = 0 ∧ x.frm ≠ 0 then withSeal x (sealH x.frm (txbB ch x)) else x
def sigR (ch : List Int) (x : Tx) (rc : List Rcd) : List Rcd := if txbE ch x = 0 ∧ x.frm ≠ 0 then addR rc (x.frm, txbB ch x) else rc
theorem sigX_no {ch : List Int} {x : Tx} (h : txbE ch x ≠ 0 ∨ x.frm = 0) : sigX ch x = x := if_neg fun h1 => h.elim (fun h2 => h2 h1.1) fun h2 => h1.2 h2
theorem sigR_no {ch : List Int} {x : Tx} {rc : List Rcd} (h : txbE ch x ≠ 0 ∨ x.frm = 0) : sigR ch x rc = rc := if_neg fun h1 => h.elim (fun h2 => h2 h1.1) fun h2 => h1.2 h2
theorem sigX_yes {ch : List Int} {x : Tx} (h : txbE ch x = 0) (h0 : x.frm ≠ 0) : sigX ch x = withSeal x (sealH x.frm (txbB ch x)) := if_pos ⟨h, h0⟩
theorem sigR_yes {ch : List Int} {x : Tx} {rc : List Rcd} (h : txbE ch x = 0) (h0 : x.frm ≠ 0) : sigR ch x rc = addR rc (x.frm, txbB ch x) := if_pos ⟨h, h0⟩
theorem sigX_ok (ch : List Int) {x : Tx} (h : x.ok) : (sigX ch x).ok := by
 unfold sigX; split
 ·exact ⟨h.kind, h.frm, h.to, h.amt, h.fee, h.non, sealH_b _ _, sealH_length _ _⟩
 ·exact h
theorem sigR_len (ch : List Int) (x : Tx) (rc : List Rcd) : (sigR ch x rc).length ≤ rc.length + 1 := by
 unfold sigR; split
 ·exact addR_length _ _
 ·omega
/-- Nobody without an address is entered. -/
def SgOk (sg : List (Int × Nat)) : Prop := ∀ y ∈ sg, y.1 ≠ 0
theorem SgOk.nil : SgOk [] := fun _ h => (nomatch h)
theorem SgOk.snoc {sg : List (Int × Nat)} (h : SgOk sg) {a : Int} (ha : a ≠ 0) (s : Nat) : SgOk (sg ++ [(a, s)]) := fun y hy => by
 rcases List.mem_append.1 hy with hy | hy
 ·exact h y hy
 ·rw [List.mem_singleton] at hy; subst hy; exact ha
theorem notIn {sg : List (Int × Nat)} {a : Int} (h : ∀ (j : Nat) (y : Int × Nat), j < sg.length → sg[j]? = some y → y.1 ≠ a) : isIn sg a = false := by
 unfold isIn sgP
 have : sg.find? (fun x => decide (x.1 = a)) = none := List.find?_eq_none.2 fun x hx => by
  obtain ⟨j, hj, e⟩ := List.mem_iff_getElem.1 hx
  have := h j x hj (by rw [List.getElem?_eq_getElem hj, e])
  simpa using this
 rw [this]; rfl
theorem kk_zero {sg : List (Int × Nat)} (hso : SgOk sg) {a : Int} (hz : a = 0) {i : Nat} {kk : Int} (h : (kk = -1 ∧ ∀ (j : Nat) (q9 : Int × Nat), j < i → sg[j]? = some q9 → q9.1 ≠ a) ∨ (∃ (j : Nat) (s9 : Nat), kk = (j : Int) ∧ sg[j]? = some (a, s9))) : kk < 0 := by
 rcases h with ⟨h8, _⟩ | ⟨j, s9, h7, h8⟩
 ·omega
 ·exact absurd hz (hso _ (List.mem_of_getElem? h8))
theorem kk_none {sg : List (Int × Nat)} {a : Int} {i : Nat} {kk : Int} (h : (kk = -1 ∧ ∀ (j : Nat) (q9 : Int × Nat), j < i → sg[j]? = some q9 → q9.1 ≠ a) ∨ (∃ (j : Nat) (s9 : Nat), kk = (j : Int) ∧ sg[j]? = some (a, s9))) (hk : kk < 0) : ∀ (j : Nat) (q9 : Int × Nat), j < i → sg[j]? = some q9 → q9.1 ≠ a := by
 rcases h with ⟨_, h8⟩ | ⟨j, s9, h7, h8⟩
 ·exact h8
 ·omega
theorem kk_some {sg : List (Int × Nat)} {a : Int} {i : Nat} {kk : Int} (h : (kk = -1 ∧ ∀ (j : Nat) (q9 : Int × Nat), j < i → sg[j]? = some q9 → q9.1 ≠ a) ∨ (∃ (j : Nat) (s9 : Nat), kk = (j : Int) ∧ sg[j]? = some (a, s9))) (hk : ¬ kk < 0) : ∃ (j : Nat) (s9 : Nat), kk = (j : Int) ∧ sg[j]? = some (a, s9) := by
 rcases h with ⟨h8, _⟩ | h8
 ·omega
 ·exact h8
set_option maxHeartbeats 1000000 in
theorem sign_zero {gl : Nat → Obj} (hG : Globs gl) (w p q : Nat) (sv : Value) (at_ : Int) (nb : Option Addr) (nc : Nat) (sts : List StK) (hnc : sts.length ≤ nc) (hns : sts.length ≤ 439804651110) (hat : AtOk sts at_) (sg : List (Int × Nat)) (rc : List Rcd) (hgl : sg.length ≤ 4398046511104) (hrc : rc.length ≤ 4398046511104) (hso : SgOk sg) (x : Tx) (hx : x.ok) (hz : x.frm = 0) : Spec (cx gl) 58 [.pointer (some ⟨w, 0, none⟩), .agg x.cells.toArray] (fun wd hp => Seen wd hp nb (Go.Proofs.YtcngmkjdpoiiaaaGreatDoor.rc sts)) [blk w (sightC p q (sv) (.slice nb sts.length nc) (at_)) 135, REG q sg rc, ownS 220 1 (sv) (sg).length (ptrs (sg))] (fun v rs => ∃ sg' sv', v = .agg (sigX (curS sts at_).j.ch x).cells.toArray ∧ sg'.length ≤ sg.length + 1 ∧ SgOk sg' ∧ rs = [blk w (sightC p q (sv') (.slice nb sts.length nc) (at_)) 135, REG q sg' (sigR (curS sts at_).j.ch x rc), ownS 220 1 (sv') (sg').length (ptrs (sg'))]) := by
 refine Spec.enter (C := cx gl) Tryz.func58 rfl 94 rfl rfl fun w0 h0 hsep hsub hpre => ?_
 show St (cx gl) _ [(0, .pointer (some ⟨w, 0, none⟩)), (1, .agg x.cells.toArray)] _ _
 refine rT ?_
 refine lO (W_box (x.cells) rfl rfl rfl rfl rfl fun b3 => ?_)
 refine lO (W_alloc rfl rfl rfl ty_ze_67 fun b4 => ?_)
 refine lQ (cE 0 rfl (cE 3 rfl (cE 4 rfl .nil))) (rS ?_)
 refine St.res (rs' := [blk w (sightC p q (sv) (.slice nb sts.length nc) (at_)) 135, REG q sg rc, ownS 220 1 (sv) (sg).length (ptrs (sg)), blk b3 x.cells 67, blk b4 txz.cells 67]) (Weak.pick (p := [_, _]) (Weak.pick (p := [_, _]) (Weak.pick (p := [_, _]) (Weak.pick (p := [_]) (Weak.keep (Weak.nil _)))))) ?_
 refine R_open [(0, 0), (3, 1), (1, 2), (2, 0), (4, 2), (5, 0), (6, 0), (7, 0), (8, 0), (9, 0)] mixed (by kernel_rfl) (QOk.then QOk.body) (oP rfl pM (k:=?_))
 refine oV rfl (V_loadAgg rfl rfl ty_ag_67 (Rds.blk .h3) (hx.cellsLen)) (k:=?_)
 refine O_keep rfl rfl (W_callR rfl rfl rfl rfl fn_ca_59 (state_ok w p q sv at_ nb nc sts hnc hns hat) (Split.one (p := [])) (Sn.pre (Sn.old hpre)) (K_keep (Weak.refl _) ?_))
 refine oP rfl (P_field rfl ty_fld_63_0 ty_sc_9 rfl (rfl)) (k:=?_)
 refine O_keep rfl rfl (W_call rfl rfl rfl rfl fn_ca_144 (txBytes_ok (curS sts at_).j.ch (curS sts at_).ch x hx) (Split.nil _) (fun _ _ _ _ _ _ _ => trivial) fun v1 rs1 ⟨u, e1, e2⟩ => ?_)
 subst e1; subst e2
 refine St.ownForm (p := []) fun ub uc huv huc => ?_
 subst huv
 refine K_keep (Weak.drop (Weak.refl _)) (oP rfl pM (k:=oP rfl pX (k:=oP rfl pX (k:=oP rfl pA (k:=oP rfl pA (k:=O_nil ?_))))))
 refine St.env (cE 0 rfl (cE 3 rfl (cE 4 rfl (cE 5 rfl (cE 6 rfl .nil))))) (qT (rS (rS ?_)))
 refine St.res (rs' := [blk w (sightC p q (sv) (.slice nb sts.length nc) (at_)) 135, REG q sg rc, ownS 220 1 (sv) (sg).length (ptrs (sg)), blk b3 x.cells 67, blk b4 txz.cells 67, ownS 5 1 (.slice ub (txbB (curS sts at_).j.ch x).length uc) ((txbB (curS sts at_).j.ch x).length) (ints .u8 (txbB (curS sts at_).j.ch x))]) (Weak.pick (p := [_]) (Weak.pick (p := [_]) (Weak.pick (p := [_]) (Weak.pick (p := [_]) (Weak.pick (p := [_]) (Weak.keep (Weak.nil _))))))) (rR (lMv (k:=?_)))
 refine lO (W_callV rfl rfl rfl rfl fn_ca_33 (num_ok (txbE (curS sts at_).j.ch x)) (fun _ _ => trivial) (lP pNe (k:=?_)))
 refine E_bool (t := 21) rfl (fun he => ?_) (fun he => ?_)
 ·skip
  have he : (txbE (curS sts at_).j.ch x) ≠ 0 := of_decide_eq_true he
  refine lQ (cE 0 rfl (cE 3 rfl (cE 4 rfl (cE 5 rfl (cE 21 rfl .nil))))) (kT (k:=rT ?_))
  refine lV (V_loadAgg rfl rfl ty_ag_67 (Rds.blk .h3) (hx.cellsLen)) (k:=?_)
  refine lO (W_storeAll rfl rfl rfl rfl ty_ag_67 (hx.cellsLen) (Tx.one x) .h4 (hx.cellsLen) ?_)
  refine lQ (cE 0 rfl (cE 3 rfl (cE 4 rfl (cE 5 rfl .nil)))) (R_ret (Q_then_ret ?_))
  exact R_end (rs2 := _) rfl rfl (.cell rfl (Rds.loadVar ty_ag_67 (Rds.blk .h4) hx.cellsLen) .nil) (⟨sg, sv, by rw [sigX_no (.inl he)]; rfl, Nat.le_succ _, hso, rfl⟩) (by rw [sigR_no (.inl he)]; exact Weak.keep (Weak.keep (Weak.keep (Weak.nil _))))
 ·skip
  have he : (txbE (curS sts at_).j.ch x) = 0 := by have h9 := of_decide_eq_false he; omega
  have htl := txbB_len (curS sts at_).j.ch x
  refine lQ (cE 0 rfl (cE 3 rfl (cE 4 rfl (cE 5 rfl (cE 21 rfl .nil))))) (kF (k:=R_skip (qT (rT (lA (k:=?_))))))
  refine lQ (cE 0 rfl (cE 3 rfl (cE 4 rfl (cE 5 rfl (cE 7 rfl .nil))))) (rS (rT (lA (k:=?_))))
  refine L_nil (qT (R_block ?_))
  refine R_loopE (G := Nat × Int) (cE 0 rfl (cE 3 rfl (cE 4 rfl (cE 5 rfl .nil)))) (fun g => [(7, .int .i64 (g.2)), (8, .int .i64 ((g.1 : Nat) : Int))]) (fun g => [blk w (sightC p q (sv) (.slice nb sts.length nc) (at_)) 135, REG q sg rc, ownS 220 1 (sv) (sg).length (ptrs (sg)), blk b3 x.cells 67, blk b4 txz.cells 67, ownS 5 1 (.slice ub (txbB (curS sts at_).j.ch x).length uc) ((txbB (curS sts at_).j.ch x).length) (ints .u8 (txbB (curS sts at_).j.ch x))]) (fun g => g.1 ≤ sg.length ∧ ((g.2 = -1 ∧ ∀ (j : Nat) (q9 : Int × Nat), j < g.1 → sg[j]? = some q9 → q9.1 ≠ x.frm) ∨ (∃ (j : Nat) (s9 : Nat), g.2 = (j : Int) ∧ sg[j]? = some (x.frm, s9)))) (fun g => sg.length - g.1) (0, -1) (by show (0) ≤ sg.length ∧ (((-1) = -1 ∧ ∀ (j : Nat) (q9 : Int × Nat), j < (0) → sg[j]? = some q9 → q9.1 ≠ x.frm) ∨ (∃ (j : Nat) (s9 : Nat), (-1) = (j : Int) ∧ sg[j]? = some (x.frm, s9))); exact ⟨Nat.zero_le _, .inl ⟨rfl, fun j _ h => absurd h (Nat.not_lt_zero j)⟩⟩) (by repeat (first | exact .nil | refine .cons rfl ?_ | refine .consE rfl (by first | rfl | (congr 1; omega) | (congr 1; push_cast; omega)) ?_)) (Weak.refl _) ?_
  rintro ⟨i, kk⟩ hinv
  replace hinv : i ≤ sg.length ∧ ((kk = -1 ∧ ∀ (j : Nat) (q9 : Int × Nat), j < i → sg[j]? = some q9 → q9.1 ≠ x.frm) ∨ (∃ (j : Nat) (s9 : Nat), kk = (j : Int) ∧ sg[j]? = some (x.frm, s9))) := hinv
  show St (cx gl) _ ((7, .int .i64 (kk)) :: (8, .int .i64 ((i : Nat) : Int)) :: _) [blk w (sightC p q (sv) (.slice nb sts.length nc) (at_)) 135, REG q sg rc, ownS 220 1 (sv) (sg).length (ptrs (sg)), blk b3 x.cells 67, blk b4 txz.cells 67, ownS 5 1 (.slice ub (txbB (curS sts at_).j.ch x).length uc) ((txbB (curS sts at_).j.ch x).length) (ints .u8 (txbB (curS sts at_).j.ch x))] _
  obtain ⟨hi, hkk⟩ := hinv
  refine rS (rT (lMv (k:=lMv (k:=lP pN (k:=lP (pF ty_fl_135_2) (k:=lV (vB ty_sc_104 .h0) (k:=?_)))))))
  refine lV (V_lenOwn .h2 rfl ty_sl_104 rfl) (k:=lP pLt (k:=?_))
  refine L_nil (qT ?_)
  refine R_condP rfl (fun hlt => ?_) (fun hlt => ?_)
  ·skip
   have hil : i < sg.length := by omega
   obtain ⟨⟨a, s⟩, hs⟩ : ∃ y, sg[i]? = some y := ⟨_, List.getElem?_eq_getElem hil⟩
   refine St.ownSome (p := [_, _]) (by omega) fun svb svc hq _ => ?_
   subst hq
   refine R_skip (qT (rS (R_block (rS ?_))))
   refine R_open [(0, 0), (1, 0), (2, 0), (3, 1), (4, 0), (5, 0), (6, 1), (8, 0), (9, 1), (7, 2), (10, 0)] mixed (by kernel_rfl) (QOk.then (QOk.block (QOk.then (QOk.then (QOk.block (QOk.then QOk.body)))))) (oP rfl pM (k:=oP rfl pN (k:=oP rfl (pF ty_fl_135_2) (k:=oV rfl (vB ty_sc_104 .h0) (k:=oP rfl pM (k:=?_))))))
   refine oP rfl (P_ixs (i) rfl ty_sl_104 rfl rfl (by first | rfl | omega) (by omega)) (k:=?_)
   refine oV rfl (V_load rfl rfl ty_sc_220 (rd_own1 .h2 (ptrs_at hs))) (k:=oP rfl (pF ty_fl_67_1) (k:=oV rfl (vB ty_sc_26 .h3) (k:=?_)))
   refine O_keep rfl rfl (W_callR rfl rfl rfl rfl fn_ca_145 (addr_ok q sg rc i a s hs) (Split.one (p := [_])) (fun _ _ _ _ _ _ _ => trivial) (K_keep (Weak.pick (p := [_]) (Weak.keep (Weak.keep (Weak.keep (Weak.keep (Weak.keep (Weak.nil _))))))) (oP rfl pEq (k:=O_nil (qT ?_)))))
   refine R_condP rfl (fun hne => ?_) (fun hne => ?_)
   ·skip
    refine rR (lMv (k:=lA (k:=?_)))
    refine L_nil (Q_block (qT (rR (lMv (k:=?_)))))
    first | (refine L_val rfl rfl rfl (OpP.v (P_addN rfl rfl rfl (by simp only [fits]; omega))) ?_) | (refine L_val rfl rfl rfl (OpP.v (P_add rfl rfl rfl)) ?_)
    refine lA (k:=?_)
    refine L_nil ?_
    exact Q_round (i + 1, (i : Int)) (by show (i + 1) ≤ sg.length ∧ ((((i : Int)) = -1 ∧ ∀ (j : Nat) (q9 : Int × Nat), j < (i + 1) → sg[j]? = some q9 → q9.1 ≠ x.frm) ∨ (∃ (j : Nat) (s9 : Nat), ((i : Int)) = (j : Int) ∧ sg[j]? = some (x.frm, s9))); exact ⟨by omega, .inr ⟨i, s, rfl, by rw [hs, hne]⟩⟩) (by show sg.length - (i + 1) < sg.length - i; omega) (by repeat (first | exact .nil | refine .cons rfl ?_ | refine .consE rfl (by first | rfl | (congr 1; omega) | (congr 1; push_cast; omega)) ?_)) (Weak.pick (p := [_]) (Weak.keep (Weak.keep (Weak.keep (Weak.keep (Weak.keep (Weak.nil _)))))))
   ·skip
    refine R_skip (Q_block (qT (rR (lMv (k:=?_)))))
    first | (refine L_val rfl rfl rfl (OpP.v (P_addN rfl rfl rfl (by simp only [fits]; omega))) ?_) | (refine L_val rfl rfl rfl (OpP.v (P_add rfl rfl rfl)) ?_)
    refine lA (k:=?_)
    refine L_nil ?_
    exact Q_round (i + 1, kk) (by show (i + 1) ≤ sg.length ∧ (((kk) = -1 ∧ ∀ (j : Nat) (q9 : Int × Nat), j < (i + 1) → sg[j]? = some q9 → q9.1 ≠ x.frm) ∨ (∃ (j : Nat) (s9 : Nat), (kk) = (j : Int) ∧ sg[j]? = some (x.frm, s9))); exact ⟨by omega, hkk.imp (fun ⟨h8, h9⟩ => ⟨h8, fun j q9 hj hq => by rcases Nat.lt_succ_iff_lt_or_eq.1 hj with h7 | h7; exact h9 j q9 h7 hq; subst h7; rw [hs] at hq; cases hq; exact hne⟩) id⟩) (by show sg.length - (i + 1) < sg.length - i; omega) (by repeat (first | exact .nil | refine .cons rfl ?_ | refine .consE rfl (by first | rfl | (congr 1; omega) | (congr 1; push_cast; omega)) ?_)) (Weak.pick (p := [_]) (Weak.keep (Weak.keep (Weak.keep (Weak.keep (Weak.keep (Weak.nil _)))))))
  ·skip
   obtain rfl : i = sg.length := by omega
   refine R_exit (Q_then_exit (Q_then_exit (Q_block_eq ?_)))
   refine St.env (cE 0 rfl (cE 3 rfl (cE 4 rfl (cE 5 rfl (cE 7 rfl .nil))))) (qT (rS (rT (lMv (k:=lP pLt (k:=?_))))))
   refine lQ (cE 0 rfl (cE 3 rfl (cE 4 rfl (cE 5 rfl (cE 7 rfl (cE 45 rfl .nil)))))) ?_
   refine R_condP rfl (fun _ => rS ?_) (fun hx => absurd (kk_zero hso hz hkk) hx)
   refine R_open [(0, 0), (1, 0), (2, 0), (3, 1), (4, 0), (5, 1), (6, 2), (7, 0), (8, 0), (9, 0), (10, 0), (11, 0)] mixed (by kernel_rfl) (QOk.then (QOk.then QOk.body)) (oP rfl pM (k:=oP rfl pN (k:=oP rfl (pF ty_fl_135_1) (k:=oV rfl (vB ty_sc_69 .h0) (k:=oP rfl (pF ty_fl_67_1) (k:=oV rfl (vB ty_sc_26 .h3) (k:=?_)))))))
   refine E_as (t := 52) (v' := .int .u64 (0)) rfl (by rw [hz]) ?_
   refine O_keep rfl rfl (W_callR rfl rfl rfl rfl fn_ca_146 (enter_zero q sg rc) (Split.one (p := [_])) (fun _ _ _ _ _ _ _ => trivial) (K_keep (Weak.pick (p := [_]) (Weak.keep (Weak.keep (Weak.keep (Weak.keep (Weak.keep (Weak.nil _))))))) (oP rfl pM (k:=oP rfl pX (k:=oP rfl pX (k:=oP rfl pA (k:=oP rfl pA (k:=O_nil ?_))))))))
   refine St.env (cE 0 rfl (cE 3 rfl (cE 4 rfl (cE 5 rfl (cE 7 rfl (cE 9 rfl (cE 10 rfl .nil))))))) (qT (rS (rT (lMv (k:=?_)))))
   refine lP (P_eqNil0 rfl ty_ptr_220 rfl rfl) (k:=lMv (k:=lN (k:=lN (k:=lN (k:=lP pK (k:=?_))))))
   refine lQ (cE 0 rfl (cE 3 rfl (cE 4 rfl (cE 5 rfl (cE 7 rfl (cE 9 rfl (cE 62 rfl .nil))))))) (kT (k:=rS ?_))
   refine St.res (rs' := [blk w (sightC p q (sv) (.slice nb sts.length nc) (at_)) 135, REG q sg rc, ownS 220 1 (sv) (sg).length (ptrs (sg)), blk b3 x.cells 67, blk b4 txz.cells 67, ownS 5 1 (.slice ub (txbB (curS sts at_).j.ch x).length uc) ((txbB (curS sts at_).j.ch x).length) (ints .u8 (txbB (curS sts at_).j.ch x))]) (Weak.pick (p := [_]) (Weak.keep (Weak.keep (Weak.keep (Weak.keep (Weak.keep (Weak.nil _))))))) (rR ?_)
   refine lV (V_loadAgg rfl rfl ty_ag_67 (Rds.blk .h3) (hx.cellsLen)) (k:=?_)
   refine lO (W_storeAll rfl rfl rfl rfl ty_ag_67 (hx.cellsLen) (Tx.one x) .h4 (hx.cellsLen) ?_)
   refine lQ (cE 0 rfl (cE 3 rfl (cE 4 rfl (cE 5 rfl (cE 7 rfl (cE 9 rfl .nil)))))) (R_ret (Q_then_ret (Q_then_ret ?_)))
   exact R_end (rs2 := _) rfl rfl (.cell rfl (Rds.loadVar ty_ag_67 (Rds.blk .h4) hx.cellsLen) .nil) (⟨sg, sv, by rw [sigX_no (.inr hz)]; rfl, Nat.le_succ _, hso, rfl⟩) (by rw [sigR_no (.inr hz)]; exact Weak.keep (Weak.keep (Weak.keep (Weak.nil _))))
set_option maxHeartbeats 1000000 in
theorem sign_pos {gl : Nat → Obj} (hG : Globs gl) (w p q : Nat) (sv : Value) (at_ : Int) (nb : Option Addr) (nc : Nat) (sts : List StK) (hnc : sts.length ≤ nc) (hns : sts.length ≤ 439804651110) (hat : AtOk sts at_) (sg : List (Int × Nat)) (rc : List Rcd) (hgl : sg.length ≤ 4398046511104) (hrc : rc.length ≤ 4398046511104) (hso : SgOk sg) (x : Tx) (hx : x.ok) (hz : x.frm ≠ 0) : Spec (cx gl) 58 [.pointer (some ⟨w, 0, none⟩), .agg x.cells.toArray] (fun wd hp => Seen wd hp nb (Go.Proofs.YtcngmkjdpoiiaaaGreatDoor.rc sts)) [blk w (sightC p q (sv) (.slice nb sts.length nc) (at_)) 135, REG q sg rc, ownS 220 1 (sv) (sg).length (ptrs (sg))] (fun v rs => ∃ sg' sv', v = .agg (sigX (curS sts at_).j.ch x).cells.toArray ∧ sg'.length ≤ sg.length + 1 ∧ SgOk sg' ∧ rs = [blk w (sightC p q (sv') (.slice nb sts.length nc) (at_)) 135, REG q sg' (sigR (curS sts at_).j.ch x rc), ownS 220 1 (sv') (sg').length (ptrs (sg'))]) := by
 refine Spec.enter (C := cx gl) Tryz.func58 rfl 94 rfl rfl fun w0 h0 hsep hsub hpre => ?_
 show St (cx gl) _ [(0, .pointer (some ⟨w, 0, none⟩)), (1, .agg x.cells.toArray)] _ _
 refine rT ?_
 refine lO (W_box (x.cells) rfl rfl rfl rfl rfl fun b3 => ?_)
 refine lO (W_alloc rfl rfl rfl ty_ze_67 fun b4 => ?_)
 refine lQ (cE 0 rfl (cE 3 rfl (cE 4 rfl .nil))) (rS ?_)
 refine St.res (rs' := [blk w (sightC p q (sv) (.slice nb sts.length nc) (at_)) 135, REG q sg rc, ownS 220 1 (sv) (sg).length (ptrs (sg)), blk b3 x.cells 67, blk b4 txz.cells 67]) (Weak.pick (p := [_, _]) (Weak.pick (p := [_, _]) (Weak.pick (p := [_, _]) (Weak.pick (p := [_]) (Weak.keep (Weak.nil _)))))) ?_
 refine R_open [(0, 0), (3, 1), (1, 2), (2, 0), (4, 2), (5, 0), (6, 0), (7, 0), (8, 0), (9, 0)] mixed (by kernel_rfl) (QOk.then QOk.body) (oP rfl pM (k:=?_))
 refine oV rfl (V_loadAgg rfl rfl ty_ag_67 (Rds.blk .h3) (hx.cellsLen)) (k:=?_)
 refine O_keep rfl rfl (W_callR rfl rfl rfl rfl fn_ca_59 (state_ok w p q sv at_ nb nc sts hnc hns hat) (Split.one (p := [])) (Sn.pre (Sn.old hpre)) (K_keep (Weak.refl _) ?_))
 refine oP rfl (P_field rfl ty_fld_63_0 ty_sc_9 rfl (rfl)) (k:=?_)
 refine O_keep rfl rfl (W_call rfl rfl rfl rfl fn_ca_144 (txBytes_ok (curS sts at_).j.ch (curS sts at_).ch x hx) (Split.nil _) (fun _ _ _ _ _ _ _ => trivial) fun v1 rs1 ⟨u, e1, e2⟩ => ?_)
 subst e1; subst e2
 refine St.ownForm (p := []) fun ub uc huv huc => ?_
 subst huv
 refine K_keep (Weak.drop (Weak.refl _)) (oP rfl pM (k:=oP rfl pX (k:=oP rfl pX (k:=oP rfl pA (k:=oP rfl pA (k:=O_nil ?_))))))
 refine St.env (cE 0 rfl (cE 3 rfl (cE 4 rfl (cE 5 rfl (cE 6 rfl .nil))))) (qT (rS (rS ?_)))
 refine St.res (rs' := [blk w (sightC p q (sv) (.slice nb sts.length nc) (at_)) 135, REG q sg rc, ownS 220 1 (sv) (sg).length (ptrs (sg)), blk b3 x.cells 67, blk b4 txz.cells 67, ownS 5 1 (.slice ub (txbB (curS sts at_).j.ch x).length uc) ((txbB (curS sts at_).j.ch x).length) (ints .u8 (txbB (curS sts at_).j.ch x))]) (Weak.pick (p := [_]) (Weak.pick (p := [_]) (Weak.pick (p := [_]) (Weak.pick (p := [_]) (Weak.pick (p := [_]) (Weak.keep (Weak.nil _))))))) (rR (lMv (k:=?_)))
 refine lO (W_callV rfl rfl rfl rfl fn_ca_33 (num_ok (txbE (curS sts at_).j.ch x)) (fun _ _ => trivial) (lP pNe (k:=?_)))
 refine E_bool (t := 21) rfl (fun he => ?_) (fun he => ?_)
 ·skip
  have he : (txbE (curS sts at_).j.ch x) ≠ 0 := of_decide_eq_true he
  refine lQ (cE 0 rfl (cE 3 rfl (cE 4 rfl (cE 5 rfl (cE 21 rfl .nil))))) (kT (k:=rT ?_))
  refine lV (V_loadAgg rfl rfl ty_ag_67 (Rds.blk .h3) (hx.cellsLen)) (k:=?_)
  refine lO (W_storeAll rfl rfl rfl rfl ty_ag_67 (hx.cellsLen) (Tx.one x) .h4 (hx.cellsLen) ?_)
  refine lQ (cE 0 rfl (cE 3 rfl (cE 4 rfl (cE 5 rfl .nil)))) (R_ret (Q_then_ret ?_))
  exact R_end (rs2 := _) rfl rfl (.cell rfl (Rds.loadVar ty_ag_67 (Rds.blk .h4) hx.cellsLen) .nil) (⟨sg, sv, by rw [sigX_no (.inl he)]; rfl, Nat.le_succ _, hso, rfl⟩) (by rw [sigR_no (.inl he)]; exact Weak.keep (Weak.keep (Weak.keep (Weak.nil _))))
 ·skip
  have he : (txbE (curS sts at_).j.ch x) = 0 := by have h9 := of_decide_eq_false he; omega
  have htl := txbB_len (curS sts at_).j.ch x
  refine lQ (cE 0 rfl (cE 3 rfl (cE 4 rfl (cE 5 rfl (cE 21 rfl .nil))))) (kF (k:=R_skip (qT (rT (lA (k:=?_))))))
  refine lQ (cE 0 rfl (cE 3 rfl (cE 4 rfl (cE 5 rfl (cE 7 rfl .nil))))) (rS (rT (lA (k:=?_))))
  refine L_nil (qT (R_block ?_))
  refine R_loopE (G := Nat × Int) (cE 0 rfl (cE 3 rfl (cE 4 rfl (cE 5 rfl .nil)))) (fun g => [(7, .int .i64 (g.2)), (8, .int .i64 ((g.1 : Nat) : Int))]) (fun g => [blk w (sightC p q (sv) (.slice nb sts.length nc) (at_)) 135, REG q sg rc, ownS 220 1 (sv) (sg).length (ptrs (sg)), blk b3 x.cells 67, blk b4 txz.cells 67, ownS 5 1 (.slice ub (txbB (curS sts at_).j.ch x).length uc) ((txbB (curS sts at_).j.ch x).length) (ints .u8 (txbB (curS sts at_).j.ch x))]) (fun g => g.1 ≤ sg.length ∧ ((g.2 = -1 ∧ ∀ (j : Nat) (q9 : Int × Nat), j < g.1 → sg[j]? = some q9 → q9.1 ≠ x.frm) ∨ (∃ (j : Nat) (s9 : Nat), g.2 = (j : Int) ∧ sg[j]? = some (x.frm, s9)))) (fun g => sg.length - g.1) (0, -1) (by show (0) ≤ sg.length ∧ (((-1) = -1 ∧ ∀ (j : Nat) (q9 : Int × Nat), j < (0) → sg[j]? = some q9 → q9.1 ≠ x.frm) ∨ (∃ (j : Nat) (s9 : Nat), (-1) = (j : Int) ∧ sg[j]? = some (x.frm, s9))); exact ⟨Nat.zero_le _, .inl ⟨rfl, fun j _ h => absurd h (Nat.not_lt_zero j)⟩⟩) (by repeat (first | exact .nil | refine .cons rfl ?_ | refine .consE rfl (by first | rfl | (congr 1; omega) | (congr 1; push_cast; omega)) ?_)) (Weak.refl _) ?_
  rintro ⟨i, kk⟩ hinv
  replace hinv : i ≤ sg.length ∧ ((kk = -1 ∧ ∀ (j : Nat) (q9 : Int × Nat), j < i → sg[j]? = some q9 → q9.1 ≠ x.frm) ∨ (∃ (j : Nat) (s9 : Nat), kk = (j : Int) ∧ sg[j]? = some (x.frm, s9))) := hinv
  show St (cx gl) _ ((7, .int .i64 (kk)) :: (8, .int .i64 ((i : Nat) : Int)) :: _) [blk w (sightC p q (sv) (.slice nb sts.length nc) (at_)) 135, REG q sg rc, ownS 220 1 (sv) (sg).length (ptrs (sg)), blk b3 x.cells 67, blk b4 txz.cells 67, ownS 5 1 (.slice ub (txbB (curS sts at_).j.ch x).length uc) ((txbB (curS sts at_).j.ch x).length) (ints .u8 (txbB (curS sts at_).j.ch x))] _
  obtain ⟨hi, hkk⟩ := hinv
  refine rS (rT (lMv (k:=lMv (k:=lP pN (k:=lP (pF ty_fl_135_2) (k:=lV (vB ty_sc_104 .h0) (k:=?_)))))))
  refine lV (V_lenOwn .h2 rfl ty_sl_104 rfl) (k:=lP pLt (k:=?_))
  refine L_nil (qT ?_)
  refine R_condP rfl (fun hlt => ?_) (fun hlt => ?_)
  ·skip
   have hil : i < sg.length := by omega
   obtain ⟨⟨a, s⟩, hs⟩ : ∃ y, sg[i]? = some y := ⟨_, List.getElem?_eq_getElem hil⟩
   refine St.ownSome (p := [_, _]) (by omega) fun svb svc hq _ => ?_
   subst hq
   refine R_skip (qT (rS (R_block (rS ?_))))
   refine R_open [(0, 0), (1, 0), (2, 0), (3, 1), (4, 0), (5, 0), (6, 1), (8, 0), (9, 1), (7, 2), (10, 0)] mixed (by kernel_rfl) (QOk.then (QOk.block (QOk.then (QOk.then (QOk.block (QOk.then QOk.body)))))) (oP rfl pM (k:=oP rfl pN (k:=oP rfl (pF ty_fl_135_2) (k:=oV rfl (vB ty_sc_104 .h0) (k:=oP rfl pM (k:=?_))))))
   refine oP rfl (P_ixs (i) rfl ty_sl_104 rfl rfl (by first | rfl | omega) (by omega)) (k:=?_)
   refine oV rfl (V_load rfl rfl ty_sc_220 (rd_own1 .h2 (ptrs_at hs))) (k:=oP rfl (pF ty_fl_67_1) (k:=oV rfl (vB ty_sc_26 .h3) (k:=?_)))
   refine O_keep rfl rfl (W_callR rfl rfl rfl rfl fn_ca_145 (addr_ok q sg rc i a s hs) (Split.one (p := [_])) (fun _ _ _ _ _ _ _ => trivial) (K_keep (Weak.pick (p := [_]) (Weak.keep (Weak.keep (Weak.keep (Weak.keep (Weak.keep (Weak.nil _))))))) (oP rfl pEq (k:=O_nil (qT ?_)))))
   refine R_condP rfl (fun hne => ?_) (fun hne => ?_)
   ·skip
    refine rR (lMv (k:=lA (k:=?_)))
    refine L_nil (Q_block (qT (rR (lMv (k:=?_)))))
    first | (refine L_val rfl rfl rfl (OpP.v (P_addN rfl rfl rfl (by simp only [fits]; omega))) ?_) | (refine L_val rfl rfl rfl (OpP.v (P_add rfl rfl rfl)) ?_)
    refine lA (k:=?_)
    refine L_nil ?_
    exact Q_round (i + 1, (i : Int)) (by show (i + 1) ≤ sg.length ∧ ((((i : Int)) = -1 ∧ ∀ (j : Nat) (q9 : Int × Nat), j < (i + 1) → sg[j]? = some q9 → q9.1 ≠ x.frm) ∨ (∃ (j : Nat) (s9 : Nat), ((i : Int)) = (j : Int) ∧ sg[j]? = some (x.frm, s9))); exact ⟨by omega, .inr ⟨i, s, rfl, by rw [hs, hne]⟩⟩) (by show sg.length - (i + 1) < sg.length - i; omega) (by repeat (first | exact .nil | refine .cons rfl ?_ | refine .consE rfl (by first | rfl | (congr 1; omega) | (congr 1; push_cast; omega)) ?_)) (Weak.pick (p := [_]) (Weak.keep (Weak.keep (Weak.keep (Weak.keep (Weak.keep (Weak.nil _)))))))
   ·skip
    refine R_skip (Q_block (qT (rR (lMv (k:=?_)))))
    first | (refine L_val rfl rfl rfl (OpP.v (P_addN rfl rfl rfl (by simp only [fits]; omega))) ?_) | (refine L_val rfl rfl rfl (OpP.v (P_add rfl rfl rfl)) ?_)
    refine lA (k:=?_)
    refine L_nil ?_
    exact Q_round (i + 1, kk) (by show (i + 1) ≤ sg.length ∧ (((kk) = -1 ∧ ∀ (j : Nat) (q9 : Int × Nat), j < (i + 1) → sg[j]? = some q9 → q9.1 ≠ x.frm) ∨ (∃ (j : Nat) (s9 : Nat), (kk) = (j : Int) ∧ sg[j]? = some (x.frm, s9))); exact ⟨by omega, hkk.imp (fun ⟨h8, h9⟩ => ⟨h8, fun j q9 hj hq => by rcases Nat.lt_succ_iff_lt_or_eq.1 hj with h7 | h7; exact h9 j q9 h7 hq; subst h7; rw [hs] at hq; cases hq; exact hne⟩) id⟩) (by show sg.length - (i + 1) < sg.length - i; omega) (by repeat (first | exact .nil | refine .cons rfl ?_ | refine .consE rfl (by first | rfl | (congr 1; omega) | (congr 1; push_cast; omega)) ?_)) (Weak.pick (p := [_]) (Weak.keep (Weak.keep (Weak.keep (Weak.keep (Weak.keep (Weak.nil _)))))))
  ·skip
   obtain rfl : i = sg.length := by omega
   refine R_exit (Q_then_exit (Q_then_exit (Q_block_eq ?_)))
   refine St.env (cE 0 rfl (cE 3 rfl (cE 4 rfl (cE 5 rfl (cE 7 rfl .nil))))) (qT ?_)
   refine R_joinE (G := List (Int × Nat) × Value × Nat × Nat) (cE 0 rfl (cE 3 rfl (cE 4 rfl (cE 5 rfl .nil)))) (fun g => [(7, .int .i64 ((g.2.2.1 : Nat) : Int))]) (fun g => [blk w (sightC p q (g.2.1) (.slice nb sts.length nc) (at_)) 135, REG q g.1 rc, ownS 220 1 (g.2.1) (g.1).length (ptrs (g.1)), blk b3 x.cells 67, blk b4 txz.cells 67, ownS 5 1 (.slice ub (txbB (curS sts at_).j.ch x).length uc) ((txbB (curS sts at_).j.ch x).length) (ints .u8 (txbB (curS sts at_).j.ch x))]) (fun g => g.1[g.2.2.1]? = some (x.frm, g.2.2.2) ∧ g.1.length ≤ sg.length + 1 ∧ SgOk g.1) ?_ ?_
   ·skip
    refine rT (lMv (k:=lP pLt (k:=?_)))
    refine lQ (cE 0 rfl (cE 3 rfl (cE 4 rfl (cE 5 rfl (cE 7 rfl (cE 45 rfl .nil)))))) ?_
    refine R_condP rfl (fun hk => ?_) (fun hk => ?_)
    ·skip
     have hno : ∀ (j : Nat) (y : Int × Nat), j < sg.length → sg[j]? = some y → y.1 ≠ x.frm := kk_none hkk hk
     refine rS ?_
     refine R_open [(0, 0), (1, 0), (2, 0), (3, 1), (4, 0), (5, 1), (6, 3), (7, 0), (8, 0), (9, 0), (10, 0), (11, 0)] mixed (by kernel_rfl) (QOk.then (QOk.then QOk.body)) (oP rfl pM (k:=oP rfl pN (k:=oP rfl (pF ty_fl_135_1) (k:=oV rfl (vB ty_sc_69 .h0) (k:=oP rfl (pF ty_fl_67_1) (k:=oV rfl (vB ty_sc_26 .h3) (k:=?_)))))))
     refine O_new rfl rfl (W_call rfl rfl rfl rfl fn_ca_146 (enter_new q sg rc x.frm hz (notIn hno)) (Split.one (p := [_])) (fun _ _ _ _ _ _ _ => trivial) fun v2 rs2 ⟨s, e1, e2⟩ => ?_)
     subst e1; subst e2
     refine K_new (oP rfl pM (k:=oP rfl pX (k:=oP rfl pX (k:=oP rfl pA (k:=oP rfl pA (k:=O_nil ?_))))))
     refine St.env (cE 0 rfl (cE 3 rfl (cE 4 rfl (cE 5 rfl (cE 7 rfl (cE 9 rfl (cE 10 rfl .nil))))))) (qT (rS (rT (lMv (k:=?_)))))
     refine lP (P_eqNil rfl ty_ptr_220 rfl rfl) (k:=lMv (k:=lMv (k:=?_)))
     refine lO (W_callV rfl rfl rfl rfl fn_ca_33 (num_ok 0) (fun _ _ => trivial) (lP pNe (k:=?_)))
     refine E_false (t := 61) rfl (rfl) (lP pK (k:=?_))
     refine lQ (cE 0 rfl (cE 3 rfl (cE 4 rfl (cE 5 rfl (cE 7 rfl (cE 9 rfl (cE 62 rfl .nil))))))) (kF (k:=R_skip (qT (rS ?_))))
     refine St.res (rs' := [blk w (sightC p q (sv) (.slice nb sts.length nc) (at_)) 135, REG q (sg ++ [(x.frm, s)]) rc, ownS 220 1 (sv) (sg).length (ptrs (sg)), blk b3 x.cells 67, blk b4 txz.cells 67, ownS 5 1 (.slice ub (txbB (curS sts at_).j.ch x).length uc) ((txbB (curS sts at_).j.ch x).length) (ints .u8 (txbB (curS sts at_).j.ch x))]) (Weak.pick (p := [_]) (Weak.keep (Weak.keep (Weak.keep (Weak.keep (Weak.keep (Weak.nil _))))))) (rR (lMv (k:=lMv (k:=lP pN (k:=lP (pF ty_fl_135_2) (k:=lV (vB ty_sc_104 .h0) (k:=lMv (k:=?_))))))))
     refine lO (W_lit (z := .nilIface) ([.pointer (some ⟨s, 0, none⟩)]) rfl rfl rfl ty_sl_104 ty_lz_104 rfl rfl rfl (by decide) (by decide) (by simp [Value.cells]) (rfl) fun b70 => ?_)
     refine lO (W_append (p := [_, _, _]) rfl rfl rfl ty_sl_104 ty_ap_104 ty_src_104 rfl rfl rfl (Src.slice (sz := 1) (m := 1) (news := [.pointer (some ⟨s, 0, none⟩)]) (Rds.blk .h0) rfl (by intro v hv; rw [List.mem_singleton] at hv; subst hv; rfl)) (by omega) (by simp only [maxLen]; omega) fun v71 => ?_)
     refine St.ownForm (p := [_, _, _]) fun mb mc hmv hmc => ?_
     subst hmv
     refine lP pN (k:=lP (pF ty_fl_135_2) (k:=?_))
     refine lO (W_store rfl rfl rfl rfl ty_sc_104 rfl .h1 (by show (2 : Nat) < 5; decide) ?_)
     refine lQ (cE 0 rfl (cE 3 rfl (cE 4 rfl (cE 5 rfl (cE 7 rfl .nil))))) ?_
     refine St.res (rs' := [blk w (sightC p q (.slice mb (sg.length + 1) mc) (.slice nb sts.length nc) (at_)) 135, REG q (sg ++ [(x.frm, s)]) rc, ownS 220 1 (.slice mb (sg.length + 1) mc) (sg ++ [(x.frm, s)]).length (ptrs (sg ++ [(x.frm, s)])), blk b3 x.cells 67, blk b4 txz.cells 67, ownS 5 1 (.slice ub (txbB (curS sts at_).j.ch x).length uc) ((txbB (curS sts at_).j.ch x).length) (ints .u8 (txbB (curS sts at_).j.ch x))]) (Weak.drop (Weak.keep (Weak.keep (ownS.to1 (by rw [List.length_append]; rfl) (by unfold ptrs; rw [List.map_append]; rfl))))) (rR (lMv (k:=lP pN (k:=lP (pF ty_fl_135_2) (k:=lV (vB ty_sc_104 .h0) (k:=?_))))))
     refine lV (V_lenOwn .h2 rfl ty_sl_104 rfl) (k:=?_)
     refine lP (P_subN rfl rfl rfl (by simp only [fits, List.length_append, List.length_singleton]; omega)) (k:=?_)
     refine E_as (t := 79) (v' := .int .i64 ((sg.length : Nat) : Int)) rfl (by congr 1; rw [List.length_append, List.length_singleton]; omega) (lA (k:=?_))
     refine lE (cE 0 rfl (cE 3 rfl (cE 4 rfl (cE 5 rfl (cE 7 rfl .nil))))) ?_
     exact Q_meet (sg ++ [(x.frm, s)], .slice mb (sg.length + 1) mc, sg.length, s) (by show (sg ++ [(x.frm, s)])[(sg.length)]? = some (x.frm, (s)) ∧ (sg ++ [(x.frm, s)]).length ≤ sg.length + 1 ∧ SgOk (sg ++ [(x.frm, s)]); exact ⟨by rw [List.getElem?_append_right (Nat.le_refl _), Nat.sub_self]; rfl, Nat.le_of_eq (by rw [List.length_append, List.length_singleton]), hso.snoc hz s⟩) (by repeat (first | exact .nil | refine .cons rfl ?_ | refine .consE rfl (by first | rfl | (congr 1; omega) | (congr 1; push_cast; omega)) ?_)) (Weak.refl _)
    ·skip
     obtain ⟨ix, s2, hkx, hs2⟩ : ∃ (j : Nat) (s9 : Nat), kk = (j : Int) ∧ sg[j]? = some (x.frm, s9) := kk_some hkk hk
     refine R_skip ?_
     refine E_as (t := 7) (v' := .int .i64 ((ix : Nat) : Int)) rfl (by rw [hkx]) ?_
     exact Q_meet (sg, sv, ix, s2) (by show (sg)[(ix)]? = some (x.frm, (s2)) ∧ (sg).length ≤ sg.length + 1 ∧ SgOk (sg); exact ⟨hs2, by omega, hso⟩) (by repeat (first | exact .nil | refine .cons rfl ?_ | refine .consE rfl (by first | rfl | (congr 1; omega) | (congr 1; push_cast; omega)) ?_)) (Weak.refl _)
   ·rintro ⟨sg2, sv2, ix, s2⟩ hinv
    replace hinv : sg2[ix]? = some (x.frm, s2) ∧ sg2.length ≤ sg.length + 1 ∧ SgOk sg2 := hinv
    show St (cx gl) _ ((7, .int .i64 ((ix : Nat) : Int)) :: _) [blk w (sightC p q (sv2) (.slice nb sts.length nc) (at_)) 135, REG q sg2 rc, ownS 220 1 (sv2) (sg2).length (ptrs (sg2)), blk b3 x.cells 67, blk b4 txz.cells 67, ownS 5 1 (.slice ub (txbB (curS sts at_).j.ch x).length uc) ((txbB (curS sts at_).j.ch x).length) (ints .u8 (txbB (curS sts at_).j.ch x))] _
    obtain ⟨hs2, hsl, hso2⟩ := hinv
    have hix := (List.getElem?_eq_some_iff.1 hs2).1
    refine St.ownSome (p := [_, _]) (by omega) fun svb svc hq _ => ?_
    subst hq
    refine rT (lMv (k:=lP pN (k:=lP (pF ty_fl_135_2) (k:=lV (vB ty_sc_104 .h0) (k:=lMv (k:=?_))))))
    refine lP (P_ixs (ix) rfl ty_sl_104 rfl rfl (by first | rfl | omega) (by omega)) (k:=?_)
    refine lV (V_load rfl rfl ty_sc_220 (rd_own1 .h2 (ptrs_at hs2))) (k:=lMv (k:=?_))
    refine lO (W_callR rfl rfl rfl rfl fn_ca_125 (sign_any hG q sg2 rc ix x.frm s2 hs2 ub uc (txbB (curS sts at_).j.ch x) (txbB_b (curS sts at_).ch hx) (by omega) hrc) (Split.one (p := [_])) (Sn.pre (Sn.own .h4 rfl)) (lMv (k:=lP pX (k:=lP pX (k:=lP (pF ty_fl_67_6) (k:=?_))))))
    refine lO (W_storeAgg rfl rfl rfl rfl ty_ag_65 (by rw [ints_length, sealH_length]) (ints_one) .h3 (by rw [ints_length, sealH_length, hx.cellsLen]; decide) ?_)
    refine lQ (cE 3 rfl (cE 4 rfl .nil)) (rS ?_)
    have hxo := sigX_ok (curS sts at_).j.ch hx
    have hso9 := sigX_yes he hz
    refine St.res (rs' := [blk w (sightC p q (.slice (some ⟨svb, 0, none⟩) sg2.length svc) (.slice nb sts.length nc) (at_)) 135, REG q sg2 (sigR (curS sts at_).j.ch x rc), ownS 220 1 (.slice (some ⟨svb, 0, none⟩) sg2.length svc) (sg2).length (ptrs (sg2)), blk b3 (sigX (curS sts at_).j.ch x).cells 67, blk b4 txz.cells 67, ownS 5 1 (.slice ub (txbB (curS sts at_).j.ch x).length uc) ((txbB (curS sts at_).j.ch x).length) (ints .u8 (txbB (curS sts at_).j.ch x))]) (by rw [sigR_yes he hz, sigX_yes he hz, ← withSeal_cells x _ hx.len (sealH_length _ _)]; exact Weak.pick (p := [_]) (Weak.keep (Weak.keep (Weak.keep (Weak.keep (Weak.keep (Weak.nil _))))))) (rR ?_)
    refine lV (V_loadAgg rfl rfl ty_ag_67 (Rds.blk .h3) (hxo.cellsLen)) (k:=?_)
    refine lO (W_storeAll rfl rfl rfl rfl ty_ag_67 (hxo.cellsLen) (Tx.one _) .h4 (hxo.cellsLen) ?_)
    refine lQ (cE 4 rfl .nil) (R_ret ?_)
    exact R_end (rs2 := _) rfl rfl (.cell rfl (Rds.loadVar ty_ag_67 (Rds.blk .h4) hxo.cellsLen) .nil) (⟨sg2, _, rfl, hsl, hso2, rfl⟩) (Weak.keep (Weak.keep (Weak.keep (Weak.nil _))))
theorem sign_ok {gl : Nat → Obj} (hG : Globs gl) (w p q : Nat) (sv : Value) (at_ : Int) (nb : Option Addr) (nc : Nat) (sts : List StK) (hnc : sts.length ≤ nc) (hns : sts.length ≤ 439804651110) (hat : AtOk sts at_) (sg : List (Int × Nat)) (rc : List Rcd) (hgl : sg.length ≤ 4398046511104) (hrc : rc.length ≤ 4398046511104) (hso : SgOk sg) (x : Tx) (hx : x.ok) : Spec (cx gl) 58 [.pointer (some ⟨w, 0, none⟩), .agg x.cells.toArray] (fun wd hp => Seen wd hp nb (Go.Proofs.YtcngmkjdpoiiaaaGreatDoor.rc sts)) [blk w (sightC p q (sv) (.slice nb sts.length nc) (at_)) 135, REG q sg rc, ownS 220 1 (sv) (sg).length (ptrs (sg))] (fun v rs => ∃ sg' sv', v = .agg (sigX (curS sts at_).j.ch x).cells.toArray ∧ sg'.length ≤ sg.length + 1 ∧ SgOk sg' ∧ rs = [blk w (sightC p q (sv') (.slice nb sts.length nc) (at_)) 135, REG q sg' (sigR (curS sts at_).j.ch x rc), ownS 220 1 (sv') (sg').length (ptrs (sg'))]) := by
 by_cases hz : x.frm = 0
 ·exact sign_zero hG w p q sv at_ nb nc sts hnc hns hat sg rc hgl hrc hso x hx hz
 ·exact sign_pos hG w p q sv at_ nb nc sts hnc hns hat sg rc hgl hrc hso x hx hz
end Go.Proofs.YtcngmkjdpoiiaaaGreatDoor

/- PoolKeeps: the walk. Printed by gen.py. -/
set_option maxRecDepth 100000
namespace Go.Proofs.YtcngmkjdpoiiaaaGreatDoor
open Go Go.RowKit Go.Proofs Go.Sort
theorem poolKeeps_bad {gl : Nat → Obj} (most : Int) (nb : Option Addr) (nc : Nat) (sts : List StK) (hnc : sts.length ≤ nc) (hns : sts.length ≤ 439804651110) (ob : Option Addr) (oc : Nat) (ops : List OpK) (hoc : ops.length ≤ oc) (hno : ops.length ≤ 1099511627776) (hbad : most < 1 ∨ 65536 < most) : SpecV (cx gl) 12 [.agg ([.int .i64 most, .slice nb sts.length nc, .slice ob ops.length oc]).toArray] (fun w => Row w nb (Go.Proofs.YtcngmkjdpoiiaaaGreatDoor.rc sts) ∧ (∀ s ∈ sts, s.in_ w) ∧ Row w ob (Go.Proofs.YtcngmkjdpoiiaaaGreatDoor.rc ops)) (.bool true) := by
 refine Spec.enter (C := cx gl) Tryz.func12 rfl 153 rfl rfl fun w0 h0 hsep hsub hpre => ?_
 obtain rfl : h0 = Heap.none := hsep
 show St (cx gl) _ [(0, .agg ([.int .i64 most, .slice nb sts.length nc, .slice ob ops.length oc]).toArray)] _ _
 refine rT ?_
 refine lO (W_box ([.int .i64 most, .slice nb sts.length nc, .slice ob ops.length oc]) rfl rfl rfl rfl rfl fun b1 => lA (k:=?_))
 refine lQ (cE 1 rfl (cE 2 rfl .nil)) (rT (lV (vG ty_ag_98 .h0) (k:=?_)))
 refine lO (W_call rfl rfl rfl rfl fn_ca_57 (begun_bad most hbad nb nc sts (.slice ob ops.length oc) rfl) (Split.nil _) (fun _ _ _ _ _ _ _ => trivial) fun v1 rs1 ⟨w, e1, e2⟩ => ?_)
 subst e1; subst e2
 refine lMv (k:=lP pX (k:=lP pX (k:=?_)))
 refine E_false (t := 16) rfl (rfl) (lA (k:=lA (k:=?_)))
 refine lQ (cE 1 rfl (cE 2 rfl (cE 3 rfl (cE 4 rfl .nil)))) (rS (rT (lMv (k:=lP pO (k:=?_)))))
 refine lQ (cE 1 rfl (cE 2 rfl (cE 3 rfl (cE 18 rfl .nil)))) (kT (k:=rT (lP (pF ty_fl_98_0) (k:=lV (vB ty_sc_3 .h0) (k:=lP pLt (k:=?_))))))
 refine E_bool (t := 21) rfl (fun h1 => ?_) (fun h1 => ?_)
 ·skip
  refine lMv (k:=lN (k:=lN (k:=lN (k:=lP pK (k:=lA (k:=?_))))))
  refine lQ (cE 1 rfl (cE 2 rfl (cE 3 rfl .nil))) (R_ret (Q_then_ret ?_))
  exact R_endV rfl rfl (.tmp rfl .nil) (rfl)
 ·skip
  have h1 := of_decide_eq_false h1
  refine lMv (k:=lP (pF ty_fl_98_0) (k:=lV (vB ty_sc_3 .h0) (k:=lP pGt (k:=?_))))
  refine E_true (t := 25) rfl (decide_eq_true (by omega)) (lP pK (k:=lA (k:=?_)))
  refine lQ (cE 1 rfl (cE 2 rfl (cE 3 rfl .nil))) (R_ret (Q_then_ret ?_))
  exact R_endV rfl rfl (.tmp rfl .nil) (rfl)
set_option maxHeartbeats 4000000 in
theorem poolKeeps_good {gl : Nat → Obj} (hG : Globs gl) (most : Int) (nb : Option Addr) (nc : Nat) (sts : List StK) (hnc : sts.length ≤ nc) (hns : sts.length ≤ 439804651110) (ob : Option Addr) (oc : Nat) (ops : List OpK) (hoc : ops.length ≤ oc) (hno : ops.length ≤ 1099511627776) (h1 : 1 ≤ most) (h2 : most ≤ 65536) : SpecV (cx gl) 12 [.agg ([.int .i64 most, .slice nb sts.length nc, .slice ob ops.length oc]).toArray] (fun w => Row w nb (Go.Proofs.YtcngmkjdpoiiaaaGreatDoor.rc sts) ∧ (∀ s ∈ sts, s.in_ w) ∧ Row w ob (Go.Proofs.YtcngmkjdpoiiaaaGreatDoor.rc ops)) (.bool true) := by
 refine Spec.enter (C := cx gl) Tryz.func12 rfl 153 rfl rfl fun w0 h0 hsep hsub hpre => ?_
 obtain rfl : h0 = Heap.none := hsep
 show St (cx gl) _ [(0, .agg ([.int .i64 most, .slice nb sts.length nc, .slice ob ops.length oc]).toArray)] _ _
 refine rT ?_
 refine lO (W_box ([.int .i64 most, .slice nb sts.length nc, .slice ob ops.length oc]) rfl rfl rfl rfl rfl fun b1 => lA (k:=?_))
 refine lQ (cE 1 rfl (cE 2 rfl .nil)) (rT (lV (vG ty_ag_98 .h0) (k:=?_)))
 refine lO (W_call rfl rfl rfl rfl fn_ca_57 (begun_ok most h1 h2 nb nc sts (.slice ob ops.length oc) rfl) (Split.nil _) (fun _ _ _ _ _ _ _ => trivial) fun v1 rs1 ⟨w, p, q, e1, e2⟩ => ?_)
 subst e1; subst e2
 refine St.res (rs' := [POOL p most ([]), blk w (sightC p q (.slice none 0 0) (.slice nb sts.length nc) (0)) 135, REG q [] [], ownS 220 1 (.slice none 0 0) (([] : List (Int × Nat))).length (ptrs (([] : List (Int × Nat)))), blk b1 [.int .i64 most, .slice nb sts.length nc, .slice ob ops.length oc] 98]) (Weak.pick (p := [_]) (Weak.pick (p := [_]) (Weak.pick (p := [_]) (Weak.keep (Weak.keep (Weak.nil _)))))) (lMv (k:=lP pX (k:=lP pX (k:=?_))))
 refine E_true (t := 16) rfl (rfl) (lA (k:=lA (k:=?_)))
 refine lQ (cE 1 rfl (cE 2 rfl (cE 3 rfl (cE 4 rfl .nil)))) (rS (rT (lMv (k:=lP pO (k:=?_)))))
 refine lQ (cE 1 rfl (cE 2 rfl (cE 3 rfl (cE 18 rfl .nil)))) (kF (k:=R_skip (qT (rS (rT (lA (k:=?_)))))))
 refine lQ (cE 1 rfl (cE 2 rfl (cE 3 rfl (cE 5 rfl .nil)))) (R_block ?_)
 refine R_loopE (G := Nat × List TxR × List (Int × Nat) × List Rcd × Value × Int) (cE 1 rfl (cE 2 rfl (cE 3 rfl .nil))) (fun g => [(5, .int .i64 ((g.1 : Nat) : Int))]) (fun g => [POOL p most (g.2.1), blk w (sightC p q (g.2.2.2.2.1) (.slice nb sts.length nc) (g.2.2.2.2.2)) 135, REG q g.2.2.1 g.2.2.2.1, ownS 220 1 (g.2.2.2.2.1) (g.2.2.1).length (ptrs (g.2.2.1)), blk b1 [.int .i64 most, .slice nb sts.length nc, .slice ob ops.length oc] 98]) (fun g => g.1 ≤ ops.length ∧ PoolInv most g.2.1 ∧ g.2.2.1.length ≤ g.1 ∧ g.2.2.2.1.length ≤ g.1 ∧ SgOk g.2.2.1 ∧ AtOk sts g.2.2.2.2.2) (fun g => ops.length - g.1) (0, [], [], [], .slice none 0 0, 0) (by show (0) ≤ ops.length ∧ PoolInv most ([]) ∧ ([]).length ≤ (0) ∧ ([]).length ≤ (0) ∧ SgOk ([]) ∧ AtOk sts (0); exact ⟨Nat.zero_le _, PoolInv.nil h1, Nat.le_refl _, Nat.le_refl _, SgOk.nil, AtOk.zero sts⟩) (by repeat (first | exact .nil | refine .cons rfl ?_ | refine .consE rfl (by first | rfl | (congr 1; omega) | (congr 1; push_cast; omega)) ?_)) (Weak.refl _) ?_
 rintro ⟨i, H, sg, rc, sv, at_⟩ hinv
 replace hinv : i ≤ ops.length ∧ PoolInv most H ∧ sg.length ≤ i ∧ rc.length ≤ i ∧ SgOk sg ∧ AtOk sts at_ := hinv
 show St (cx gl) _ ((5, .int .i64 ((i : Nat) : Int)) :: _) [POOL p most (H), blk w (sightC p q (sv) (.slice nb sts.length nc) (at_)) 135, REG q sg rc, ownS 220 1 (sv) (sg).length (ptrs (sg)), blk b1 [.int .i64 most, .slice nb sts.length nc, .slice ob ops.length oc] 98] _
 obtain ⟨hi, hI, hgl, hrl, hso, hat⟩ := hinv
 refine rS (rT (lMv (k:=lP (pF ty_fl_98_2) (k:=lV (vB ty_sc_96 .h4) (k:=lP (pL ty_sl_96) (k:=lP pLt (k:=?_)))))))
 refine L_nil (qT ?_)
 refine R_condP rfl (fun hlt => ?_) (fun hlt => ?_)
 ·skip
  have him : i < ops.length := by omega
  obtain ⟨o, ho⟩ : ∃ y, ops[i]? = some y := ⟨_, List.getElem?_eq_getElem him⟩
  obtain ⟨obb, obj, rfl, hrow⟩ := hpre.2.2.some_ (by rw [rc_length]; show 0 < _ * 58; omega)
  have hfew := hI.few
  have hl : H.length ≤ 65536 := by omega
  obtain ⟨hr1, hr2⟩ := curS_in hpre.2.1 at_
  refine R_skip (qT (rS (R_block (rT (lP (pF ty_fl_98_2) (k:=lV (vB ty_sc_96 .h4) (k:=lMv (k:=?_))))))))
  refine lP (P_ixs (i) rfl ty_sl_96 rfl rfl (by first | rfl | omega) (by omega)) (k:=?_)
  refine lV (V_loadAgg rfl rfl ty_ag_110 (rds_rc (Rds.row hrow rfl) ho) (OpK.len o)) (k:=?_)
  refine lO (W_alloc rfl rfl rfl ty_ze_110 fun b6 => ?_)
  refine lO (W_storeAll rfl rfl rfl rfl ty_ag_110 (OpK.len o) (OpK.one o) .h0 ((show (Rec.cells o).length = 58 from OpK.len o).trans rfl) ?_)
  refine L_nil (qT (rT (lMv (k:=lP pN (k:=lP (pF ty_fl_135_0) (k:=lV (vB ty_sc_68 .h2) (k:=?_)))))))
  refine lO (W_call rfl rfl rfl rfl fn_ca_47 (plist_ok p most H hl) (Split.one (p := [_])) (fun _ _ _ _ _ _ _ => trivial) fun vL rsL ⟨L, lb, lc, e1, hDL, e2⟩ => ?_)
  subst e1; subst e2
  refine St.res (rs' := [POOL p most (H), blk w (sightC p q (sv) (.slice nb sts.length nc) (at_)) 135, REG q sg rc, ownS 220 1 (sv) (sg).length (ptrs (sg)), blk b6 o.o.cells 110, ownS 67 22 (.slice lb L.length lc) L.length (Go.Proofs.YtcngmkjdpoiiaaaGreatDoor.rc L), blk b1 [.int .i64 most, .slice nb sts.length nc, .slice (some ⟨obb, obj, none⟩) ops.length oc] 98]) (Weak.keep (Weak.pick (p := [_, _]) (Weak.pick (p := [_, _]) (Weak.pick (p := [_, _]) (Weak.pick (p := [_]) (Weak.keep (Weak.keep (Weak.nil _)))))))) ?_
  have hlen := hDL.perm.length_eq
  refine lA (k:=?_)
  refine L_nil (qT ?_)
  refine R_joinE (G := List TxR × List (Int × Nat) × List Rcd × Value × Int) (cE 1 rfl (cE 2 rfl (cE 3 rfl (cE 5 rfl (cE 6 rfl (cE 7 rfl (cE 27 rfl (cE 28 rfl (cE 29 rfl (cE 30 rfl (cE 31 rfl (cE 34 rfl (cE 35 rfl (cE 36 rfl (cE 37 rfl (cE 38 rfl (cE 39 rfl (cE 40 rfl (cE 41 rfl (cE 42 rfl (cE 43 rfl .nil))))))))))))))))))))) (fun g => []) (fun g => [POOL p most (g.1), blk w (sightC p q (g.2.2.2.1) (.slice nb sts.length nc) (g.2.2.2.2)) 135, REG q g.2.1 g.2.2.1, ownS 220 1 (g.2.2.2.1) (g.2.1).length (ptrs (g.2.1)), blk b1 [.int .i64 most, .slice nb sts.length nc, .slice (some ⟨obb, obj, none⟩) ops.length oc] 98]) (fun g => PoolInv most g.1 ∧ g.2.1.length ≤ i + 1 ∧ g.2.2.1.length ≤ i + 1 ∧ SgOk g.2.1 ∧ AtOk sts g.2.2.2.2) ?_ ?_
  ·skip
   refine rT (lP (pF ty_fl_110_0) (k:=lV (vB ty_sc_3 .h4) (k:=?_)))
   refine L_nil (qT (R_block (rT (lP pEq (k:=?_)))))
   refine E_bool (t := 47) rfl (fun k7 => ?_) (fun k7 => ?_)
   ·skip
    refine lA (k:=?_)
    refine L_nil (qT (kT (k:=?_)))
    refine R_open [(0, 0), (1, 0), (2, 1), (3, 0), (4, 0), (5, 0), (6, 1), (7, 0), (8, 2), (9, 0), (10, 0), (11, 3)] mixed (by kernel_rfl) (QOk.block (QOk.then (QOk.block (QOk.then (QOk.then (QOk.block (QOk.then QOk.body))))))) (oP rfl pM (k:=oP rfl (pF ty_fl_110_4) (k:=?_)))
    refine oV rfl (V_load rfl rfl ty_sc_3 (Rd.blk .h4 (op_end o 0 _ rfl))) (k:=oP rfl pM (k:=oP rfl pN (k:=oP rfl (pF ty_fl_135_3) (k:=oV rfl (vB ty_sc_95 .h1) (k:=oP rfl (pL ty_sl_95) (k:=?_))))))
    refine O_keep rfl rfl (W_callV rfl rfl rfl rfl fn_ca_39 (ar_ok o.o.at_ (sts.length : Int) (by omega)) (fun _ _ => trivial) (K_keep (Weak.refl _) (oP rfl pN (k:=oP rfl (pF ty_fl_135_4) (k:=?_)))))
    refine O_new rfl rfl (W_store rfl rfl rfl rfl ty_sc_3 rfl .h1 (by show (4 : Nat) < 5; decide) (K_new (O_nil (Q_block ?_))))
    exact Q_meet (H, sg, rc, sv, arI o.o.at_ (sts.length : Int)) (by show PoolInv most (H) ∧ (sg).length ≤ i + 1 ∧ (rc).length ≤ i + 1 ∧ SgOk (sg) ∧ AtOk sts (arI o.o.at_ (sts.length : Int)); exact ⟨hI, by omega, by omega, hso, AtOk.around sts _⟩) (by repeat (first | exact .nil | refine .cons rfl ?_ | refine .consE rfl (by first | rfl | (congr 1; omega) | (congr 1; push_cast; omega)) ?_)) (Weak.keep (Weak.keep (Weak.keep (Weak.keep (Weak.pick (p := [_, _]) (Weak.nil _))))))
   ·skip
    refine lA (k:=?_)
    refine L_nil (qT (kF (k:=rT (lP pEq (k:=?_)))))
    refine E_bool (t := 60) rfl (fun k1 => ?_) (fun k1 => ?_)
    ·skip
     refine lA (k:=?_)
     refine L_nil (qT (kT (k:=rT (lP (pF ty_fl_110_1) (k:=?_)))))
     refine lV (V_loadAgg rfl rfl ty_ag_67 ((Rds.blk .h4).part 1 (op_tx o)) (o.tx.cellsLen)) (k:=?_)
     refine lO (W_alloc rfl rfl rfl ty_ze_67 fun b8 => ?_)
     refine lO (W_storeAll rfl rfl rfl rfl ty_ag_67 (o.tx.cellsLen) (Tx.one _) .h0 (o.tx.cellsLen) ?_)
     refine L_nil (qT ?_)
     refine R_joinE (G := TxR × List (Int × Nat) × List Rcd × Value) (cE 1 rfl (cE 2 rfl (cE 3 rfl (cE 5 rfl (cE 6 rfl (cE 7 rfl (cE 8 rfl (cE 27 rfl (cE 28 rfl (cE 29 rfl (cE 30 rfl (cE 31 rfl (cE 34 rfl (cE 35 rfl (cE 36 rfl (cE 37 rfl (cE 38 rfl (cE 39 rfl (cE 40 rfl (cE 41 rfl (cE 42 rfl (cE 43 rfl (cE 44 rfl (cE 45 rfl (cE 46 rfl (cE 47 rfl (cE 59 rfl (cE 60 rfl (cE 61 rfl (cE 62 rfl .nil)))))))))))))))))))))))))))))) (fun g => []) (fun g => [blk b8 g.1.t.cells 67, POOL p most (H), blk w (sightC p q (g.2.2.2) (.slice nb sts.length nc) (at_)) 135, REG q g.2.1 g.2.2.1, ownS 220 1 (g.2.2.2) (g.2.1).length (ptrs (g.2.1)), blk b6 o.o.cells 110, ownS 67 22 (.slice lb L.length lc) L.length (Go.Proofs.YtcngmkjdpoiiaaaGreatDoor.rc L), blk b1 [.int .i64 most, .slice nb sts.length nc, .slice (some ⟨obb, obj, none⟩) ops.length oc] 98]) (fun g => g.2.1.length ≤ i + 1 ∧ g.2.2.1.length ≤ i + 1 ∧ SgOk g.2.1) ?_ ?_
     ·skip
      refine rT (lP (pF ty_fl_110_2) (k:=?_))
      refine lV (V_load rfl rfl ty_sc_3 (Rd.blk .h5 (op_tw o))) (k:=lP pEq (k:=?_))
      refine L_nil (qT ?_)
      refine R_condP rfl (fun ktw => ?_) (fun ktw => ?_)
      ·skip
       refine rR (lMv (k:=?_))
       refine lV (V_loadAgg rfl rfl ty_ag_67 (Rds.blk .h0) (o.tx.cellsLen)) (k:=?_)
       refine lO (W_call rfl rfl rfl rfl fn_ca_58 (sign_ok hG w p q sv at_ nb nc sts hnc hns hat sg rc (by omega) (by omega) hso o.o.tx o.tx) (Weak.pick (p := [_, _]) (Weak.pick (p := [_, _]) (Weak.pick (p := [_, _]) (Weak.keep (Weak.keep (Weak.keep (Weak.keep (Weak.keep (Weak.nil _))))))))) (Sn.pre (Sn.row hpre.1 rfl)) fun v3 rs3 ⟨sg2, sv2, e1, hsl, hso2, e2⟩ => ?_)
       subst e1; subst e2
       have hrl9 := sigR_len (curS sts at_).j.ch o.o.tx rc
       have hxo := sigX_ok (curS sts at_).j.ch o.tx
       refine lO (W_storeAll rfl rfl rfl rfl ty_ag_67 (hxo.cellsLen) (Tx.one _) .h3 (hxo.cellsLen.trans o.tx.cellsLen.symm) ?_)
       refine L_nil ?_
       exact Q_meet (⟨sigX (curS sts at_).j.ch o.o.tx, hxo⟩, sg2, sigR (curS sts at_).j.ch o.o.tx rc, sv2) (by show (sg2).length ≤ i + 1 ∧ (sigR (curS sts at_).j.ch o.o.tx rc).length ≤ i + 1 ∧ SgOk (sg2); exact ⟨by omega, by omega, hso2⟩) (by repeat (first | exact .nil | refine .cons rfl ?_ | refine .consE rfl (by first | rfl | (congr 1; omega) | (congr 1; push_cast; omega)) ?_)) (Weak.pick (p := [_, _, _]) (Weak.pick (p := [_, _, _]) (Weak.keep (Weak.keep (Weak.keep (Weak.keep (Weak.keep (Weak.keep (Weak.nil _)))))))))
      ·skip
       refine R_skip ?_
       exact Q_meet (⟨o.o.tx, o.tx⟩, sg, rc, sv) (by show (sg).length ≤ i + 1 ∧ (rc).length ≤ i + 1 ∧ SgOk (sg); exact ⟨by omega, by omega, hso⟩) (by repeat (first | exact .nil | refine .cons rfl ?_ | refine .consE rfl (by first | rfl | (congr 1; omega) | (congr 1; push_cast; omega)) ?_)) (Weak.refl _)
     ·rintro ⟨xr, sg2, rc2, sv2⟩ hinv
      replace hinv : sg2.length ≤ i + 1 ∧ rc2.length ≤ i + 1 ∧ SgOk sg2 := hinv
      show St (cx gl) _ _ [blk b8 xr.t.cells 67, POOL p most (H), blk w (sightC p q (sv2) (.slice nb sts.length nc) (at_)) 135, REG q sg2 rc2, ownS 220 1 (sv2) (sg2).length (ptrs (sg2)), blk b6 o.o.cells 110, ownS 67 22 (.slice lb L.length lc) L.length (Go.Proofs.YtcngmkjdpoiiaaaGreatDoor.rc L), blk b1 [.int .i64 most, .slice nb sts.length nc, .slice (some ⟨obb, obj, none⟩) ops.length oc] 98] _
      obtain ⟨hgl2, hrl2, hso2⟩ := hinv
      obtain ⟨cp, hC⟩ := cheap_ex hI.ok xr.t.frm
      refine rS ?_
      refine R_open [(0, 0), (1, 0), (2, 0), (3, 1), (4, 0), (6, 0), (7, 0), (8, 0), (9, 1), (10, 1), (5, 2), (11, 3), (12, 0)] mixed (by kernel_rfl) (QOk.then (QOk.block (QOk.then (QOk.block (QOk.then (QOk.then (QOk.block (QOk.then QOk.body)))))))) (oP rfl pM (k:=oP rfl pN (k:=oP rfl (pF ty_fl_135_0) (k:=oV rfl (vB ty_sc_68 .h2) (k:=oP rfl pM (k:=oP rfl pM (k:=oP rfl pN (k:=oP rfl (pF ty_fl_135_1) (k:=oV rfl (vB ty_sc_69 .h2) (k:=?_))))))))))
      refine oV rfl (V_loadAgg rfl rfl ty_ag_67 (Rds.blk .h0) (xr.ok.cellsLen)) (k:=?_)
      refine O_keep rfl rfl (W_callR rfl rfl rfl rfl fn_ca_59 (state_ok w p q sv2 at_ nb nc sts hnc hns hat) (Split.one (p := [_, _])) (Sn.pre (Sn.row hpre.1 rfl)) (K_keep (Weak.pick (p := [_]) (Weak.pick (p := [_]) (Weak.keep (Weak.keep (Weak.keep (Weak.keep (Weak.keep (Weak.keep (Weak.nil _))))))))) ?_))
      refine O_new rfl rfl (W_callR rfl rfl rfl rfl fn_ca_35 (padd_ok hG p most H hI.ok q sg2 rc2 (curS sts at_).j.l.s.b (curS sts at_).j.l.s.c (curS sts at_).j.l.s.xs (curS sts at_).hc (by have := (curS sts at_).hm; omega) (curS sts at_).ok (curS sts at_).j.l.r.val rfl (curS sts at_).r (curS sts at_).ch xr cp hC) (Weak.pick (p := [_, _]) (Weak.pick (p := [_, _]) (Weak.keep (Weak.keep (Weak.keep (Weak.keep (Weak.keep (Weak.keep (Weak.nil _))))))))) (Sn.pre (Sn.row hr1 rfl)) (K_new (oP rfl pA (k:=O_nil (qT (rS ?_))))))
      have hA1 := @addOk_of rc2 (curS sts at_).r.ch H (curS sts at_).j.l.s.xs most xr cp
      have hA2 := addE_no (rc := rc2) (ch := (curS sts at_).r.ch) (H := H) (l := (curS sts at_).j.l.s.xs) (most := most) (x := xr) (c := cp)
      have hI2 := add_inv (rc := rc2) (ch := (curS sts at_).r.ch) (l := (curS sts at_).j.l.s.xs) hI hC
      generalize addE rc2 (curS sts at_).r.ch H (curS sts at_).j.l.s.xs most xr cp = ae at hA1 hA2 ⊢
      generalize addH rc2 (curS sts at_).r.ch H (curS sts at_).j.l.s.xs most xr cp = H2 at hA1 hA2 hI2 ⊢
      refine St.res (rs' := [POOL p most (H2), blk w (sightC p q (sv2) (.slice nb sts.length nc) (at_)) 135, REG q sg2 rc2, ownS 220 1 (sv2) (sg2).length (ptrs (sg2)), blk b8 xr.t.cells 67, blk b6 o.o.cells 110, ownS 67 22 (.slice lb L.length lc) L.length (Go.Proofs.YtcngmkjdpoiiaaaGreatDoor.rc L), blk b1 [.int .i64 most, .slice nb sts.length nc, .slice (some ⟨obb, obj, none⟩) ops.length oc] 98]) (Weak.keep (Weak.pick (p := [_]) (Weak.keep (Weak.pick (p := [_]) (Weak.keep (Weak.keep (Weak.keep (Weak.keep (Weak.nil _))))))))) (rR (lMv (k:=lP pN (k:=lP (pF ty_fl_135_0) (k:=lV (vB ty_sc_68 .h1) (k:=?_))))))
      refine lO (W_call rfl rfl rfl rfl fn_ca_47 (plist_ok p most H2 (by have := hI2.few; omega)) (Split.one (p := [])) (fun _ _ _ _ _ _ _ => trivial) fun vM rsM ⟨M, mb, mc, e1, hDM, e2⟩ => ?_)
      subst e1; subst e2
      refine St.res (rs' := [POOL p most (H2), blk w (sightC p q (sv2) (.slice nb sts.length nc) (at_)) 135, REG q sg2 rc2, ownS 220 1 (sv2) (sg2).length (ptrs (sg2)), blk b8 xr.t.cells 67, blk b6 o.o.cells 110, ownS 67 22 (.slice lb L.length lc) L.length (Go.Proofs.YtcngmkjdpoiiaaaGreatDoor.rc L), ownS 67 22 (.slice mb M.length mc) M.length (Go.Proofs.YtcngmkjdpoiiaaaGreatDoor.rc M), blk b1 [.int .i64 most, .slice nb sts.length nc, .slice (some ⟨obb, obj, none⟩) ops.length oc] 98]) (Weak.keep (Weak.pick (p := [_]) (Weak.pick (p := [_]) (Weak.pick (p := [_]) (Weak.pick (p := [_]) (Weak.pick (p := [_]) (Weak.pick (p := [_]) (Weak.keep (Weak.keep (Weak.nil _)))))))))) ?_
      have hlen2 := hDM.perm.length_eq
      have hfew2 := hI2.few
      refine lA (k:=?_)
      refine L_nil (qT ?_)
      refine R_joinE (G := Unit) (cE 1 rfl (cE 2 rfl (cE 3 rfl (cE 5 rfl (cE 6 rfl (cE 7 rfl (cE 8 rfl (cE 9 rfl (cE 10 rfl (cE 27 rfl (cE 28 rfl (cE 29 rfl (cE 30 rfl (cE 31 rfl (cE 34 rfl (cE 35 rfl (cE 36 rfl (cE 37 rfl (cE 38 rfl (cE 39 rfl (cE 40 rfl (cE 41 rfl (cE 42 rfl (cE 43 rfl (cE 44 rfl (cE 45 rfl (cE 46 rfl (cE 47 rfl (cE 59 rfl (cE 60 rfl (cE 61 rfl (cE 62 rfl (cE 69 rfl (cE 70 rfl (cE 71 rfl (cE 72 rfl (cE 73 rfl (cE 74 rfl (cE 75 rfl (cE 76 rfl (cE 77 rfl (cE 78 rfl (cE 79 rfl (cE 80 rfl (cE 81 rfl (cE 82 rfl (cE 83 rfl (cE 84 rfl (cE 85 rfl .nil))))))))))))))))))))))))))))))))))))))))))))))))) (fun g => []) (fun g => [POOL p most (H2), blk w (sightC p q (sv2) (.slice nb sts.length nc) (at_)) 135, REG q sg2 rc2, ownS 220 1 (sv2) (sg2).length (ptrs (sg2)), blk b8 xr.t.cells 67, blk b6 o.o.cells 110, ownS 67 22 (.slice lb L.length lc) L.length (Go.Proofs.YtcngmkjdpoiiaaaGreatDoor.rc L), ownS 67 22 (.slice mb M.length mc) M.length (Go.Proofs.YtcngmkjdpoiiaaaGreatDoor.rc M), blk b1 [.int .i64 most, .slice nb sts.length nc, .slice (some ⟨obb, obj, none⟩) ops.length oc] 98]) (fun g => ae = 0 → AddFacts L M xr most) ?_ ?_
      ·skip
       refine rT (lMv (k:=?_))
       refine lO (W_callV rfl rfl rfl rfl fn_ca_33 (num_ok ae) (fun _ _ => trivial) (lP pNe (k:=?_)))
       refine E_bool (t := 88) rfl (fun hae => ?_) (fun hae => ?_)
       ·skip
        have hae : ae ≠ 0 := of_decide_eq_true hae
        obtain rfl := hA2 hae
        obtain rfl := Dear.one hI.ok.keys hDL hDM
        refine lMv (k:=lMv (k:=lMv (k:=?_)))
        refine lO (W_callV rfl rfl rfl rfl fn_ca_44 (sameTxs_ok lb mb lc mc L (by omega)) (fun wd nw => ⟨(Sn.own .h6 rfl).rw_ wd nw, (Sn.own .h7 rfl).rw_ wd nw⟩) ?_)
        refine E_true (t := 92) rfl (rfl) (lP pO (k:=lP pK (k:=?_)))
        refine L_nil (qT (kF (k:=R_skip ?_)))
        exact Q_meet () (fun h9 => absurd h9 hae) (by repeat (first | exact .nil | refine .cons rfl ?_ | refine .consE rfl (by first | rfl | (congr 1; omega) | (congr 1; push_cast; omega)) ?_)) (Weak.refl _)
       ·skip
        have hae : ae = 0 := by have h9 := of_decide_eq_false hae; omega
        have haf := ((hA1 hae).facts hI.ok hC).perm hDL.perm hDM.perm
        refine lMv (k:=lN (k:=lN (k:=lN (k:=lN (k:=lP pK (k:=?_))))))
        refine L_nil (qT (kF (k:=R_skip ?_)))
        exact Q_meet () (fun _ => haf) (by repeat (first | exact .nil | refine .cons rfl ?_ | refine .consE rfl (by first | rfl | (congr 1; omega) | (congr 1; push_cast; omega)) ?_)) (Weak.refl _)
      ·rintro ⟨⟩ hinv
       replace hinv : ae = 0 → AddFacts L M xr most := hinv
       show St (cx gl) _ _ [POOL p most (H2), blk w (sightC p q (sv2) (.slice nb sts.length nc) (at_)) 135, REG q sg2 rc2, ownS 220 1 (sv2) (sg2).length (ptrs (sg2)), blk b8 xr.t.cells 67, blk b6 o.o.cells 110, ownS 67 22 (.slice lb L.length lc) L.length (Go.Proofs.YtcngmkjdpoiiaaaGreatDoor.rc L), ownS 67 22 (.slice mb M.length mc) M.length (Go.Proofs.YtcngmkjdpoiiaaaGreatDoor.rc M), blk b1 [.int .i64 most, .slice nb sts.length nc, .slice (some ⟨obb, obj, none⟩) ops.length oc] 98] _
       have haf := hinv
       refine rT (lMv (k:=?_))
       refine lO (W_callV rfl rfl rfl rfl fn_ca_33 (num_ok ae) (fun _ _ => trivial) (lP pEq (k:=?_)))
       refine E_bool (t := 97) rfl (fun hae2 => ?_) (fun hae2 => ?_)
       ·skip
        have hae2 : ae = 0 := of_decide_eq_true hae2
        refine lMv (k:=lMv (k:=lMv (k:=?_)))
        refine lV (V_loadAgg rfl rfl ty_ag_67 (Rds.blk .h4) (xr.ok.cellsLen)) (k:=lP (pF ty_fl_98_0) (k:=lV (vB ty_sc_3 .h8) (k:=?_)))
        refine lO (W_callV rfl rfl rfl rfl fn_ca_60 (added_ok lb mb lc mc L M (by omega) (by omega) xr most (keys_nodup (hDL.keys hI.ok.keys)) (haf hae2)) (fun wd nw => ⟨(Sn.own .h6 rfl).rw_ wd nw, (Sn.own .h7 rfl).rw_ wd nw⟩) ?_)
        refine E_true (t := 104) rfl (rfl) (lP pO (k:=lP pK (k:=?_)))
        refine L_nil (qT (kF (k:=R_skip (Q_block ?_))))
        exact Q_meet (H2, sg2, rc2, sv2, at_) (by show PoolInv most (H2) ∧ (sg2).length ≤ i + 1 ∧ (rc2).length ≤ i + 1 ∧ SgOk (sg2) ∧ AtOk sts (at_); exact ⟨hI2, hgl2, hrl2, hso2, hat⟩) (by repeat (first | exact .nil | refine .cons rfl ?_ | refine .consE rfl (by first | rfl | (congr 1; omega) | (congr 1; push_cast; omega)) ?_)) (Weak.keep (Weak.keep (Weak.keep (Weak.keep (Weak.pick (p := [_, _, _, _]) (Weak.nil _))))))
       ·skip
        refine lMv (k:=lN (k:=lN (k:=lN (k:=lN (k:=lN (k:=lN (k:=lN (k:=lP pK (k:=?_)))))))))
        refine L_nil (qT (kF (k:=R_skip (Q_block ?_))))
        exact Q_meet (H2, sg2, rc2, sv2, at_) (by show PoolInv most (H2) ∧ (sg2).length ≤ i + 1 ∧ (rc2).length ≤ i + 1 ∧ SgOk (sg2) ∧ AtOk sts (at_); exact ⟨hI2, hgl2, hrl2, hso2, hat⟩) (by repeat (first | exact .nil | refine .cons rfl ?_ | refine .consE rfl (by first | rfl | (congr 1; omega) | (congr 1; push_cast; omega)) ?_)) (Weak.keep (Weak.keep (Weak.keep (Weak.keep (Weak.pick (p := [_, _, _, _]) (Weak.nil _))))))
    ·skip
     refine lA (k:=?_)
     refine L_nil (qT (kF (k:=rT (lP pEq (k:=?_)))))
     refine E_bool (t := 108) rfl (fun k3 => ?_) (fun k3 => ?_)
     ·skip
      refine lA (k:=?_)
      refine L_nil (qT (kT (k:=rS ?_)))
      refine R_open [(0, 0), (1, 0), (2, 0), (3, 1), (4, 0), (5, 2), (6, 3), (7, 0)] mixed (by kernel_rfl) (QOk.then (QOk.block (QOk.then (QOk.block (QOk.then (QOk.then (QOk.block (QOk.then QOk.body)))))))) (oP rfl pM (k:=oP rfl pN (k:=oP rfl (pF ty_fl_135_0) (k:=oV rfl (vB ty_sc_68 .h1) (k:=oP rfl pM (k:=?_))))))
      refine O_keep rfl rfl (W_callR rfl rfl rfl rfl fn_ca_59 (state_ok w p q sv at_ nb nc sts hnc hns hat) (Split.one (p := [_])) (Sn.pre (Sn.row hpre.1 rfl)) (K_keep (Weak.pick (p := [_]) (Weak.keep (Weak.keep (Weak.keep (Weak.keep (Weak.keep (Weak.keep (Weak.nil _)))))))) ?_))
      refine O_new rfl rfl (W_call rfl rfl rfl rfl fn_ca_45 (precheck_ok hG p most H hI.ok hl (curS sts at_).j.l.s.b (curS sts at_).j.l.s.c (curS sts at_).j.l.s.xs (curS sts at_).hc (by have := (curS sts at_).hm; omega) (curS sts at_).ok (curS sts at_).j.l.r.val rfl (curS sts at_).r) (Split.one (p := [_])) (Sn.pre (Sn.row hr1 rfl)) fun v4 rs4 ⟨G, gb, gc, e1, hDG, e2⟩ => ?_)
      subst e1; subst e2
      have hI2 := hI.kept (curS sts at_).j.l.s.xs
      refine K_new (oP rfl pA (k:=O_nil (qT (rT (lMv (k:=lMv (k:=lP pN (k:=lP (pF ty_fl_135_0) (k:=lV (vB ty_sc_68 .h2) (k:=?_))))))))))
      refine lO (W_call rfl rfl rfl rfl fn_ca_47 (plist_ok p most (keptH (curS sts at_).j.l.s.xs H) (by have := hI2.few; omega)) (Split.one (p := [])) (fun _ _ _ _ _ _ _ => trivial) fun vM rsM ⟨M, mb, mc, e1, hDM, e2⟩ => ?_)
      subst e1; subst e2
      have hM9 := Dear.one hI2.ok.keys hDM (hDL.filter fun y => !goneT (curS sts at_).j.l.s.xs y)
      have hG9 := Dear.one (hI.sub (List.filter_sublist (p := goneT (curS sts at_).j.l.s.xs))).ok.keys hDG (hDL.filter (goneT (curS sts at_).j.l.s.xs))
      rw [show goneT (curS sts at_).j.l.s.xs = fun x => !(fun y => !goneT (curS sts at_).j.l.s.xs y) x from funext fun x => (Bool.not_not _).symm] at hG9
      subst hM9; subst hG9
      refine lMv (k:=?_)
      refine lO (W_callV rfl rfl rfl rfl fn_ca_61 (parted_ok lb mb gb lc mc gc L (by omega) (fun y => !goneT (curS sts at_).j.l.s.xs y)) (fun wd nw => ⟨(Sn.own .h7 rfl).rw_ wd nw, (Sn.own .h1 rfl).rw_ wd nw, (Sn.own .h2 rfl).rw_ wd nw⟩) ?_)
      refine E_true (t := 123) rfl (rfl) (lP pO (k:=?_))
      refine L_nil (qT (kF (k:=R_skip (Q_block ?_))))
      exact Q_meet (keptH (curS sts at_).j.l.s.xs H, sg, rc, sv, at_) (by show PoolInv most (keptH (curS sts at_).j.l.s.xs H) ∧ (sg).length ≤ i + 1 ∧ (rc).length ≤ i + 1 ∧ SgOk (sg) ∧ AtOk sts (at_); exact ⟨hI2, by omega, by omega, hso, hat⟩) (by repeat (first | exact .nil | refine .cons rfl ?_ | refine .consE rfl (by first | rfl | (congr 1; omega) | (congr 1; push_cast; omega)) ?_)) (Weak.keep (Weak.pick (p := [_, _]) (Weak.pick (p := [_, _]) (Weak.pick (p := [_, _]) (Weak.pick (p := [_, _, _, _]) (Weak.nil _))))))
     ·skip
      refine lA (k:=?_)
      refine L_nil (qT (kF (k:=rT (lP pEq (k:=?_)))))
      refine E_bool (t := 126) rfl (fun k2 => ?_) (fun k2 => ?_)
      ·skip
       refine lA (k:=?_)
       refine L_nil (qT (kT (k:=rS ?_)))
       refine R_open [(0, 0), (1, 0), (2, 0), (3, 1), (4, 0), (6, 0), (7, 0), (8, 0), (9, 1), (10, 0), (11, 1), (5, 2), (12, 3)] mixed (by kernel_rfl) (QOk.then (QOk.block (QOk.then (QOk.block (QOk.then (QOk.then (QOk.block (QOk.then QOk.body)))))))) (oP rfl pM (k:=oP rfl pN (k:=oP rfl (pF ty_fl_135_0) (k:=oV rfl (vB ty_sc_68 .h1) (k:=oP rfl pM (k:=oP rfl pM (k:=oP rfl pN (k:=oP rfl (pF ty_fl_135_1) (k:=oV rfl (vB ty_sc_69 .h1) (k:=oP rfl (pF ty_fl_110_5) (k:=?_)))))))))))
       refine oV rfl (V_load rfl rfl ty_sc_26 (Rd.blk .h4 (op_end o 1 _ rfl))) (k:=?_)
       refine O_keep rfl rfl (W_callR rfl rfl rfl rfl fn_ca_59 (state_ok w p q sv at_ nb nc sts hnc hns hat) (Split.one (p := [_])) (Sn.pre (Sn.row hpre.1 rfl)) (K_keep (Weak.pick (p := [_]) (Weak.keep (Weak.keep (Weak.keep (Weak.keep (Weak.keep (Weak.keep (Weak.nil _)))))))) ?_))
       refine O_new rfl rfl (W_call rfl rfl rfl rfl fn_ca_36 (ppick_ok hG p most H hI.ok hI.top hl q sg rc (curS sts at_).j.l.s.b (curS sts at_).j.l.s.c (curS sts at_).j.l.s.xs (curS sts at_).hc (by have := (curS sts at_).hm; omega) (curS sts at_).ok (curS sts at_).j.l.r.b (curS sts at_).j.l.r.c (curS sts at_).j.l.r.xs (curS sts at_).hc' (by have := (curS sts at_).hm'; omega) (curS sts at_).ok' (curS sts at_).r (curS sts at_).ch (curS sts at_).h (curS sts at_).p.p3 (curS sts at_).bu o.o.pr) (Weak.pick (p := [_]) (Weak.pick (p := [_]) (Weak.keep (Weak.keep (Weak.keep (Weak.keep (Weak.keep (Weak.nil _)))))))) (fun w a b ha hb dj m => ⟨Sn.pre (Sn.row hr1 rfl) w a b ha hb dj m, Sn.pre (Sn.row hr2 rfl) w a b ha hb dj m⟩) fun v5 rs5 ⟨O, pb, pc, e1, _, e2⟩ => ?_)
       subst e1; subst e2
       refine K_new (O_nil ?_)
       refine St.env (cE 1 rfl (cE 2 rfl (cE 3 rfl (cE 5 rfl (cE 6 rfl (cE 7 rfl (cE 27 rfl (cE 28 rfl (cE 29 rfl (cE 30 rfl (cE 31 rfl (cE 34 rfl (cE 35 rfl (cE 36 rfl (cE 37 rfl (cE 38 rfl (cE 39 rfl (cE 40 rfl (cE 41 rfl (cE 42 rfl (cE 43 rfl (cE 44 rfl (cE 45 rfl (cE 46 rfl (cE 47 rfl (cE 59 rfl (cE 60 rfl (cE 107 rfl (cE 108 rfl (cE 125 rfl (cE 126 rfl (cE 127 rfl (cE 128 rfl (cE 129 rfl (cE 130 rfl (cE 131 rfl (cE 132 rfl (cE 133 rfl (cE 134 rfl (cE 135 rfl (cE 136 rfl (cE 137 rfl (cE 138 rfl .nil))))))))))))))))))))))))))))))))))))))))))) (qT (rT (lMv (k:=lMv (k:=lP pN (k:=lP (pF ty_fl_135_0) (k:=lV (vB ty_sc_68 .h3) (k:=?_))))))))
       refine lO (W_call rfl rfl rfl rfl fn_ca_47 (plist_ok p most H hl) (Split.one (p := [])) (fun _ _ _ _ _ _ _ => trivial) fun vM rsM ⟨M, mb, mc, e1, hDM, e2⟩ => ?_)
       subst e1; subst e2
       obtain rfl := Dear.one hI.ok.keys hDL hDM
       refine lO (W_callV rfl rfl rfl rfl fn_ca_44 (sameTxs_ok lb mb lc mc L (by omega)) (fun wd nw => ⟨(Sn.own .h7 rfl).rw_ wd nw, (Sn.own .h1 rfl).rw_ wd nw⟩) ?_)
       refine E_true (t := 146) rfl (rfl) (lP pO (k:=?_))
       refine L_nil (qT (kF (k:=R_skip (Q_block ?_))))
       exact Q_meet (H, sg, rc, sv, at_) (by show PoolInv most (H) ∧ (sg).length ≤ i + 1 ∧ (rc).length ≤ i + 1 ∧ SgOk (sg) ∧ AtOk sts (at_); exact ⟨hI, by omega, by omega, hso, hat⟩) (by repeat (first | exact .nil | refine .cons rfl ?_ | refine .consE rfl (by first | rfl | (congr 1; omega) | (congr 1; push_cast; omega)) ?_)) (Weak.keep (Weak.pick (p := [_, _, _]) (Weak.pick (p := [_]) (Weak.pick (p := [_, _]) (Weak.pick (p := [_, _, _, _]) (Weak.nil _))))))
      ·skip
       refine lA (k:=?_)
       refine L_nil (qT (kF (k:=R_skip (Q_block ?_))))
       exact Q_meet (H, sg, rc, sv, at_) (by show PoolInv most (H) ∧ (sg).length ≤ i + 1 ∧ (rc).length ≤ i + 1 ∧ SgOk (sg) ∧ AtOk sts (at_); exact ⟨hI, by omega, by omega, hso, hat⟩) (by repeat (first | exact .nil | refine .cons rfl ?_ | refine .consE rfl (by first | rfl | (congr 1; omega) | (congr 1; push_cast; omega)) ?_)) (Weak.keep (Weak.keep (Weak.keep (Weak.keep (Weak.pick (p := [_, _]) (Weak.nil _))))))
  ·rintro ⟨H2, sg2, rc2, sv2, at2⟩ hinv
   replace hinv : PoolInv most H2 ∧ sg2.length ≤ i + 1 ∧ rc2.length ≤ i + 1 ∧ SgOk sg2 ∧ AtOk sts at2 := hinv
   show St (cx gl) _ _ [POOL p most (H2), blk w (sightC p q (sv2) (.slice nb sts.length nc) (at2)) 135, REG q sg2 rc2, ownS 220 1 (sv2) (sg2).length (ptrs (sg2)), blk b1 [.int .i64 most, .slice nb sts.length nc, .slice (some ⟨obb, obj, none⟩) ops.length oc] 98] _
   obtain ⟨hI2, hgl2, hrl2, hso2, hat2⟩ := hinv
   have hl2 : H2.length ≤ 65536 := by have := hI2.few; omega
   refine rT (lMv (k:=lP (pF ty_fl_98_0) (k:=lV (vB ty_sc_3 .h4) (k:=?_))))
   refine lO (W_callR rfl rfl rfl rfl fn_ca_62 (sound_ok hG p most H2 hI2 hl2 w q sv2 at2 nb nc sts hnc hns) (Weak.refl _) (fun _ _ _ _ _ _ _ => trivial) ?_)
   refine E_true (t := 151) rfl (rfl) (lP pO (k:=?_))
   refine L_nil (qT (kF (k:=R_skip (Q_block (qT (rR (lMv (k:=?_))))))))
   first | (refine L_val rfl rfl rfl (OpP.v (P_addN rfl rfl rfl (by simp only [fits]; omega))) ?_) | (refine L_val rfl rfl rfl (OpP.v (P_add rfl rfl rfl)) ?_)
   refine lA (k:=?_)
   refine L_nil ?_
   exact Q_round (i + 1, H2, sg2, rc2, sv2, at2) (by show (i + 1) ≤ ops.length ∧ PoolInv most (H2) ∧ (sg2).length ≤ (i + 1) ∧ (rc2).length ≤ (i + 1) ∧ SgOk (sg2) ∧ AtOk sts (at2); exact ⟨by omega, hI2, hgl2, hrl2, hso2, hat2⟩) (by show ops.length - (i + 1) < ops.length - i; omega) (by repeat (first | exact .nil | refine .cons rfl ?_ | refine .consE rfl (by first | rfl | (congr 1; omega) | (congr 1; push_cast; omega)) ?_)) (Weak.refl _)
 ·skip
  refine R_exit (Q_then_exit (Q_then_exit (Q_block_eq ?_)))
  refine St.env (cE 2 rfl .nil) (qT (rT (lA (k:=?_))))
  refine L_nil (qT (R_ret ?_))
  exact R_endV rfl rfl (.tmp rfl .nil) (rfl)
theorem poolKeeps_walk {gl : Nat → Obj} (hG : Globs gl) (most : Int) (nb : Option Addr) (nc : Nat) (sts : List StK) (hnc : sts.length ≤ nc) (hns : sts.length ≤ 439804651110) (ob : Option Addr) (oc : Nat) (ops : List OpK) (hoc : ops.length ≤ oc) (hno : ops.length ≤ 1099511627776) : SpecV (cx gl) 12 [.agg ([.int .i64 most, .slice nb sts.length nc, .slice ob ops.length oc]).toArray] (fun w => Row w nb (Go.Proofs.YtcngmkjdpoiiaaaGreatDoor.rc sts) ∧ (∀ s ∈ sts, s.in_ w) ∧ Row w ob (Go.Proofs.YtcngmkjdpoiiaaaGreatDoor.rc ops)) (.bool true) := by
 by_cases h : 1 ≤ most ∧ most ≤ 65536
 ·exact poolKeeps_good hG most nb nc sts hnc hns ob oc ops hoc hno h.1 h.2
 ·exact poolKeeps_bad most nb nc sts hnc hns ob oc ops hoc hno (by omega)
end Go.Proofs.YtcngmkjdpoiiaaaGreatDoor

/- What the listed variables hold. Printed by gen.py. -/
set_option maxRecDepth 100000
namespace Go.Proofs.YtcngmkjdpoiiaaaGreatDoor
open Go Go.RowKit Go.ChangeShapes Go.WideShapes Go.Proofs
theorem ownNone : ownKnob Tryz.prog.godebug = none := by kernel_rfl
theorem gAdds : Tryz.prog.globalNamed "assent/digest.adds" = some 4 := by kernel_rfl
theorem gBegin : Tryz.prog.globalNamed "assent/digest.begin" = some 3 := by kernel_rfl
theorem tAdds : (Tryz.prog.globals[4]?).map (·.type) = some 352 := by kernel_rfl
theorem tBegin : (Tryz.prog.globals[3]?).map (·.type) = some 285 := by kernel_rfl
theorem cells_82 : Tryz.prog.cellsOf 82 = 1 := by kernel_rfl
theorem cells_352 : Tryz.prog.cellsOf 352 = 64 := by kernel_rfl
theorem cells_285 : Tryz.prog.cellsOf 285 = 8 := by kernel_rfl
theorem arr_of_laid {H : Type} {enc : TypeId × Value → H} {W : World} {base : Nat} {sp : Nat → Bool} {hd : Bool} {t n fuel : Nat} {cs : Array Value} {zs : List Int} {ps : List MemPlace} (ht : Tryz.prog.underlying t = some (.array n 82)) (hc : Tryz.prog.cellsOf t = n)
  (h : DataW.trod enc Tryz.prog W base sp hd fuel t cs.toList = some (.agg (lits .u32 zs), ps)) : cs = (ints .u32 zs).toArray := by
 obtain ⟨ys, h1, _, h3, _⟩ := open_intArr ht ty_int_82 cells_82 hc h
 simp only [Prod.mk.injEq, DataW.agg.injEq] at h3
 rw [lits_inj h3.1, ← h1]
theorem glob_of {W : World} {i : Nat} {o : Obj} (h : W.heap[i]? = some o) : (W.heap[i]?).getD default = o := by rw [h]; rfl
noncomputable def laid2 : List (String × DataW Unit) := [("assent/digest.adds", Rows.laid_assent_digest_adds), ("assent/digest.begin", Rows.laid_assent_digest_begin)]
theorem laid2_door (os : Os) (args : Array Value) : laidMetH Tryz.prog laid2 ((World.doorLaid Tryz.prog 400 os).forCall (fun _ _ => 0) ⟨#[], args, []⟩).memory :=
 laidMetH_of_parts3 (fuel := 8) (laidMet_of_run' 8 (by kernel_rfl) (by kernel_rfl)) (by kernel_rfl) (by kernel_rfl)
theorem globs2_of_laid {W : World} (h : laidMetH Tryz.prog laid2 W) : ∃ gl, Globs gl ∧ (cx gl).ok W := by
 rw [MakeChecks.laidMetH_plain _ _ _ (by kernel_rfl)] at h
 obtain ⟨ps, ⟨g1, t1, cs1, f1, p1, q1, hg1, ht1, hv1, hd1, ⟨g2, t2, cs2, f2, p2, q2, hg2, ht2, hv2, hd2, _, _⟩, _⟩, _, _⟩ := h
 obtain rfl := Option.some.inj (gAdds.symm.trans hg1)
 obtain rfl := Option.some.inj (gBegin.symm.trans hg2)
 obtain rfl := Option.some.inj (tAdds.symm.trans ht1)
 obtain rfl := Option.some.inj (tBegin.symm.trans ht2)
 obtain rfl := arr_of_laid (zs := addsK) ty_un_352 cells_352 hd1
 obtain rfl := arr_of_laid (zs := beginK) ty_un_285 cells_285 hd2
 obtain ⟨T1, r1, e1⟩ := var_heap gAdds hv1
 obtain ⟨T2, r2, e2⟩ := var_heap gBegin hv2
 refine ⟨fun i => (W.heap[i]?).getD default, ⟨⟨T2, r2, glob_of e2⟩, ⟨T1, r1, glob_of e1⟩⟩, fun i hi => ?_⟩
 have hi : i < 5 := hi
 have hs := lt_of_some (w := W) e1
 show W.heap[i]? = some ((W.heap[i]?).getD default)
 rw [Array.getElem?_eq_getElem (by omega)]; rfl
end Go.Proofs.YtcngmkjdpoiiaaaGreatDoor
