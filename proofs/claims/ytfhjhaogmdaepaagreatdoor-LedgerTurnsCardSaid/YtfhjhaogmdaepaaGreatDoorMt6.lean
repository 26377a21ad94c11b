/- Texts that ledgerTurns_holds leans on, part 6: each says at its head what it holds; no condition beyond its theorems' own. -/
import Derived.Test.YtfhjhaogmdaepaaGreatDoorMt5
/- The world of the statements: signed. Printed by gen.py. -/
set_option linter.unusedVariables false
set_option linter.unusedSimpArgs false
set_option maxRecDepth 100000
namespace Go.Proofs.YtfhjhaogmdaepaaGreatDoor
open Go Go.RowKit Go.Proofs
/-- A transaction with another seal. -/
def withSeal (x : Tx) (s : List Int) : Tx := ⟨x.kind, x.frm, x.to, x.amt, x.fee, x.non, s⟩
def tx0 : Tx := ⟨0, 0, 0, 0, 0, 0, List.replicate 16 0⟩
def wrongS : List Int := [1, 2, 3, 0, 0, 0, 0, 0, 0, 0, 0, 0, 0, 0, 0, 0]
def sigS (ch : List Int) (x : Tx) (wr : Bool) : List Int := if wr = true then wrongS else sealH x.frm (txbB ch x)
/-- What signed answers, and what is signed behind it. -/
def sgnTx (es : List Int) (ch : List Int) (x : Tx) (wr : Bool) : Tx := if txbE ch x = 0 ∧ x.frm ∈ es then withSeal x (sigS ch x wr) else x
def sgnR (es : List Int) (ch : List Int) (x : Tx) (wr : Bool) (rc : List Rcd) : List Rcd := if (txbE ch x = 0 ∧ x.frm ∈ es) ∧ wr = false then addR rc (x.frm, txbB ch x) else rc
theorem sgnTx_bad {es ch : List Int} {x : Tx} {wr : Bool} (h : txbE ch x ≠ 0) : sgnTx es ch x wr = x := if_neg fun h1 => h h1.1
theorem sgnR_bad {es ch : List Int} {x : Tx} {wr : Bool} {rc : List Rcd} (h : txbE ch x ≠ 0) : sgnR es ch x wr rc = rc := if_neg fun h1 => h h1.1.1
theorem sgnTx_not {es ch : List Int} {x : Tx} {wr : Bool} (h : x.frm ∉ es) : sgnTx es ch x wr = x := if_neg fun h1 => h h1.2
theorem sgnR_not {es ch : List Int} {x : Tx} {wr : Bool} {rc : List Rcd} (h : x.frm ∉ es) : sgnR es ch x wr rc = rc := if_neg fun h1 => h h1.1.2
theorem sgnTx_yes {es ch : List Int} {x : Tx} {wr : Bool} (he : txbE ch x = 0) (h : x.frm ∈ es) : sgnTx es ch x wr = withSeal x (sigS ch x wr) := if_pos ⟨he, h⟩
theorem sgnR_yes {es ch : List Int} {x : Tx} {rc : List Rcd} (he : txbE ch x = 0) (h : x.frm ∈ es) : sgnR es ch x false rc = addR rc (x.frm, txbB ch x) := if_pos ⟨⟨he, h⟩, rfl⟩
theorem sgnR_wrong {es ch : List Int} {x : Tx} {rc : List Rcd} : sgnR es ch x true rc = rc := if_neg fun h => Bool.noConfusion h.2
theorem take_mem {es : List Int} {i : Nat} {a : Int} (h : es[i]? = some a) (f : Int) : f ∈ es.take (i + 1) ↔ f ∈ es.take i ∨ f = a := by
 rw [List.take_add_one, h, List.mem_append]; simp
theorem sgnTx_skip {es : List Int} {i : Nat} {a : Int} (h : es[i]? = some a) {x : Tx} (hn : a ≠ x.frm) (ch : List Int) (wr : Bool) : sgnTx (es.take (i + 1)) ch x wr = sgnTx (es.take i) ch x wr := by
 have : x.frm ∈ es.take (i + 1) ↔ x.frm ∈ es.take i := by rw [take_mem h]; exact ⟨fun h1 => h1.elim id fun h2 => absurd h2.symm hn, .inl⟩
 unfold sgnTx; simp only [this]
theorem sgnR_skip {es : List Int} {i : Nat} {a : Int} (h : es[i]? = some a) {x : Tx} (hn : a ≠ x.frm) (ch : List Int) (wr : Bool) (rc : List Rcd) : sgnR (es.take (i + 1)) ch x wr rc = sgnR (es.take i) ch x wr rc := by
 have : x.frm ∈ es.take (i + 1) ↔ x.frm ∈ es.take i := by rw [take_mem h]; exact ⟨fun h1 => h1.elim id fun h2 => absurd h2.symm hn, .inl⟩
 unfold sgnR; simp only [this]
theorem nodup_take {es : List Int} (hd : es.Nodup) {i : Nat} {a : Int} (h : es[i]? = some a) : a ∉ es.take i := fun hm => by
 obtain ⟨j, hj, e⟩ := List.mem_iff_getElem.1 hm
 rw [List.length_take] at hj
 rw [List.getElem_take] at e
 obtain ⟨hi, e2⟩ := List.getElem?_eq_some_iff.1 h
 exact List.pairwise_iff_getElem.1 hd j i (by omega) hi (by omega) (e.trans e2.symm)
theorem withSeal_cells (x : Tx) (s : List Int) (h1 : x.sg16.length = 16) (h2 : s.length = 16) : splice x.cells 6 (ints .u8 s) = (withSeal x s).cells := by
 have e := splice_at (A := [Value.int .i64 x.kind, .int .u64 x.frm, .int .u64 x.to, .int .u64 x.amt, .int .u64 x.fee, .int .u64 x.non]) (B := ints .u8 x.sg16) (D := []) (news := ints .u8 s) (by rw [ints_length, ints_length, h1, h2])
 rw [List.append_nil, List.append_nil] at e
 exact e
theorem sealH_b (a : Int) (xs : List Int) : IsB (sealH a xs) := fun y hy => isB_sha _ y (List.mem_of_mem_take hy)
theorem sigS_ok (ch : List Int) (x : Tx) (wr : Bool) : IsB (sigS ch x wr) ∧ (sigS ch x wr).length = 16 := by
 unfold sigS; split
 ·exact ⟨by intro y hy; simp only [wrongS, List.mem_cons, List.not_mem_nil, or_false] at hy; omega, rfl⟩
 ·exact ⟨sealH_b _ _, sealH_length _ _⟩
theorem sgnTx_ok (es ch : List Int) {x : Tx} (wr : Bool) (h : x.ok) : (sgnTx es ch x wr).ok := by
 unfold sgnTx; split
 ·exact ⟨h.kind, h.frm, h.to, h.amt, h.fee, h.non, (sigS_ok ch x wr).1, (sigS_ok ch x wr).2⟩
 ·exact h
theorem sgnTx_frm (es ch : List Int) (x : Tx) (wr : Bool) : (sgnTx es ch x wr).frm = x.frm := by unfold sgnTx; split <;> rfl
theorem signed_ok {gl : Nat → Obj} (hG : GlobsR gl) (wb p q : Nat) (mv ov : Value) (sg tg : List (Int × Nat)) (rc : List Rcd) (hrc : rc.length ≤ 4398046511104) (es : List Int) (hw : WOk es sg tg) (hel : es.length ≤ 1000000000) (ch : List Int) (hcb : IsB ch) (x : Tx) (hx : x.ok) (wr : Bool) : SpecR (cx gl) 40 [.pointer (some ⟨wb, 0, none⟩), .agg x.cells.toArray, .bool wr] (fun _ _ => True) [blk wb [.pointer (some ⟨p, 0, none⟩), .pointer (some ⟨q, 0, none⟩), mv, ov, .string (strOfNums ch)] 101, REG p (sg) (rc), REF q (tg) (rc), ownS 169 1 (mv) (sg.length) (ptrs (sg)), ownS 172 1 (ov) (tg.length) (ptrs (tg))] (.tuple #[.agg (sgnTx es ch x wr).cells.toArray, .bool true]) [blk wb [.pointer (some ⟨p, 0, none⟩), .pointer (some ⟨q, 0, none⟩), mv, ov, .string (strOfNums ch)] 101, REG p (sg) (sgnR es ch x wr rc), REF q (tg) (sgnR es ch x wr rc), ownS 169 1 (mv) (sg.length) (ptrs (sg)), ownS 172 1 (ov) (tg.length) (ptrs (tg))] := by
 refine Spec.enter (C := cx gl) Tryz.func40 rfl 87 rfl rfl fun w0 h0 hsep hsub hpre => ?_
 show St (cx gl) _ [(0, .pointer (some ⟨wb, 0, none⟩)), (1, .agg x.cells.toArray), (2, .bool wr)] _ _
 have hlens := hw.lens
 refine R_seq ?_
 refine R_region ?_
 refine L_op rfl (W_box (x.cells) rfl rfl rfl rfl rfl fun b4 => ?_)
 refine L_op rfl (W_alloc rfl rfl rfl ty_ze_88 fun b6 => ?_)
 refine L_val rfl rfl rfl (OpP.v (P_assign rfl rfl)) ?_
 refine L_nil ?_
 refine St.env (.cons (t := 0) rfl (.cons (t := 2) rfl (.cons (t := 4) rfl (.cons (t := 6) rfl (.cons (t := 7) rfl .nil))))) ?_
 refine Q_then ?_
 refine R_seq ?_
 refine St.res (rs' := [blk wb [.pointer (some ⟨p, 0, none⟩), .pointer (some ⟨q, 0, none⟩), mv, ov, .string (strOfNums ch)] 101, REG p (sg) (rc), REF q (tg) (rc), ownS 169 1 (mv) (sg.length) (ptrs (sg)), ownS 172 1 (ov) (tg.length) (ptrs (tg)), blk b4 x.cells 88, blk b6 tx0.cells 88]) (Weak.pick (p := [_, _]) (Weak.pick (p := [_, _]) (Weak.pick (p := [_, _]) (Weak.pick (p := [_, _]) (Weak.pick (p := [_, _]) (Weak.pick (p := [_]) (Weak.keep (Weak.nil _)))))))) ?_
 refine St.ownForm (p := [_, _, _]) fun mb mc hmv hmc => ?_
 subst hmv
 refine St.ownForm (p := [_, _, _, _]) fun ob oc hov hoc => ?_
 subst hov
 refine R_open [(0, 0), (1, 0), (2, 0), (3, 1), (4, 1), (5, 2), (6, 0), (7, 0), (8, 0), (9, 0), (10, 0)] mixed (by kernel_rfl) (QOk.then QOk.body) ?_
 refine O_pure rfl rfl rfl rfl (P_move rfl rfl) ?_
 refine O_pure rfl rfl rfl rfl (P_nil rfl rfl) ?_
 refine O_pure rfl rfl rfl rfl (P_fld0 rfl ty_fl_101_4 rfl) ?_
 refine O_val rfl rfl rfl rfl (V_load rfl rfl ty_sc_9 (Rd.blk .h0 rfl)) ?_
 refine O_val rfl rfl rfl rfl (V_loadAgg rfl rfl ty_ag_88 (Rds.blk .h5) (hx.cellsLen)) ?_
 refine O_keep rfl rfl (W_call rfl rfl rfl rfl fn_ca_99 (rtxBytes_ok ch hcb x hx) (Split.nil _) (fun _ _ _ _ _ _ _ => trivial) fun v1 rs1 ⟨u, e1, e2⟩ => ?_)
 subst e1; subst e2
 refine St.ownForm (p := []) fun ub uc huv huc => ?_
 subst huv
 refine K_keep (Weak.drop (Weak.refl _)) ?_
 refine O_pure rfl rfl rfl rfl (P_move rfl rfl) ?_
 refine O_pure rfl rfl rfl rfl (P_extract rfl rfl rfl) ?_
 refine O_pure rfl rfl rfl rfl (P_extract rfl rfl rfl) ?_
 refine O_pure rfl rfl rfl rfl (P_assign rfl rfl) ?_
 refine O_pure rfl rfl rfl rfl (P_assign rfl rfl) ?_
 refine O_nil ?_
 refine St.env (.cons (t := 0) rfl (.cons (t := 2) rfl (.cons (t := 4) rfl (.cons (t := 6) rfl (.cons (t := 7) rfl (.cons (t := 8) rfl (.cons (t := 9) rfl .nil))))))) ?_
 refine Q_then ?_
 refine R_seq ?_
 refine R_seq ?_
 refine St.res (rs' := [blk wb [.pointer (some ⟨p, 0, none⟩), .pointer (some ⟨q, 0, none⟩), .slice mb sg.length mc, .slice ob tg.length oc, .string (strOfNums ch)] 101, REG p (sg) (rc), REF q (tg) (rc), ownS 169 1 (.slice mb sg.length mc) (sg.length) (ptrs (sg)), ownS 172 1 (.slice ob tg.length oc) (tg.length) (ptrs (tg)), blk b4 x.cells 88, blk b6 tx0.cells 88, ownS 5 1 (.slice ub (txbB ch x).length uc) ((txbB ch x).length) (ints .u8 (txbB ch x))]) (Weak.pick (p := [_]) (Weak.pick (p := [_]) (Weak.pick (p := [_]) (Weak.pick (p := [_]) (Weak.pick (p := [_]) (Weak.pick (p := [_]) (Weak.pick (p := [_]) (Weak.keep (Weak.nil _))))))))) ?_
 refine R_region ?_
 refine L_val rfl rfl rfl (OpP.v (P_move rfl rfl)) ?_
 refine L_val rfl rfl rfl (OpP.v (P_neq rfl rfl rfl)) ?_
 refine L_nil ?_
 refine St.env (.cons (t := 0) rfl (.cons (t := 2) rfl (.cons (t := 4) rfl (.cons (t := 6) rfl (.cons (t := 7) rfl (.cons (t := 8) rfl (.cons (t := 25) rfl .nil))))))) ?_
 refine Q_then ?_
 refine R_condP rfl (fun he => ?_) (fun he => ?_)
 ·skip
  refine R_seq ?_
  refine R_region ?_
  refine L_val rfl rfl rfl (V_loadAgg rfl rfl ty_ag_88 (Rds.blk .h5) (hx.cellsLen)) ?_
  refine L_op rfl (W_storeAll rfl rfl rfl rfl ty_ag_88 (hx.cellsLen) (Tx.one x) .h6 (hx.cellsLen) ?_)
  refine L_val rfl rfl rfl (OpP.v (P_assign rfl rfl)) ?_
  refine L_nil ?_
  refine St.env (.cons (t := 0) rfl (.cons (t := 2) rfl (.cons (t := 4) rfl (.cons (t := 6) rfl (.cons (t := 7) rfl (.cons (t := 8) rfl .nil)))))) ?_
  refine Q_then ?_
  refine R_ret ?_
  refine Q_then_ret ?_
  exact R_end (rs2 := _) rfl rfl (.cell rfl (Rds.loadVar ty_ag_88 (Rds.blk .h6) hx.cellsLen) (.tmp rfl .nil)) (⟨by rw [sgnTx_bad he]; rfl, rfl⟩) (by rw [sgnR_bad he]; exact Weak.keep (Weak.keep (Weak.keep (Weak.keep (Weak.keep (Weak.nil _))))))
 ·skip
  have he : txbE ch x = 0 := Classical.not_not.1 he
  have htl := txbB_len ch x
  refine R_skip ?_
  refine Q_then ?_
  refine R_seq ?_
  refine R_seq ?_
  refine R_region ?_
  refine L_val rfl rfl rfl (OpP.v (P_assign rfl rfl)) ?_
  refine L_nil ?_
  refine St.env (.cons (t := 0) rfl (.cons (t := 2) rfl (.cons (t := 4) rfl (.cons (t := 6) rfl (.cons (t := 7) rfl (.cons (t := 8) rfl (.cons (t := 10) rfl .nil))))))) ?_
  refine Q_then ?_
  refine R_block ?_
  refine R_loopE (G := Nat) (.cons (t := 0) rfl (.cons (t := 2) rfl (.cons (t := 4) rfl (.cons (t := 6) rfl (.cons (t := 7) rfl (.cons (t := 8) rfl .nil)))))) (fun g => [(10, .int .i64 ((g : Int)))]) (fun g => [blk wb [.pointer (some ⟨p, 0, none⟩), .pointer (some ⟨q, 0, none⟩), .slice mb sg.length mc, .slice ob tg.length oc, .string (strOfNums ch)] 101, REG p (sg) ((sgnR (es.take (g)) ch x wr rc)), REF q (tg) ((sgnR (es.take (g)) ch x wr rc)), ownS 169 1 (.slice mb sg.length mc) (sg.length) (ptrs (sg)), ownS 172 1 (.slice ob tg.length oc) (tg.length) (ptrs (tg)), blk b4 (sgnTx (es.take (g)) ch x wr).cells 88, blk b6 tx0.cells 88, ownS 5 1 (.slice ub (txbB ch x).length uc) ((txbB ch x).length) (ints .u8 (txbB ch x))]) (fun g => g ≤ es.length) (fun g => es.length - g) (0) (Nat.zero_le _) (by repeat (first | exact .nil | refine .cons rfl ?_ | refine .consE rfl (by first | rfl | (congr 1; omega) | (congr 1; push_cast; omega)) ?_)) (by rw [sgnTx_not (es := es.take 0) (by simp), sgnR_not (es := es.take 0) (by simp)]; exact Weak.refl _) ?_
  intro i hinv
  replace hinv : i ≤ es.length := hinv
  show St (cx gl) _ ((10, .int .i64 ((i : Int))) :: _) [blk wb [.pointer (some ⟨p, 0, none⟩), .pointer (some ⟨q, 0, none⟩), .slice mb sg.length mc, .slice ob tg.length oc, .string (strOfNums ch)] 101, REG p (sg) ((sgnR (es.take (i)) ch x wr rc)), REF q (tg) ((sgnR (es.take (i)) ch x wr rc)), ownS 169 1 (.slice mb sg.length mc) (sg.length) (ptrs (sg)), ownS 172 1 (.slice ob tg.length oc) (tg.length) (ptrs (tg)), blk b4 (sgnTx (es.take (i)) ch x wr).cells 88, blk b6 tx0.cells 88, ownS 5 1 (.slice ub (txbB ch x).length uc) ((txbB ch x).length) (ints .u8 (txbB ch x))] _
  have hi := hinv
  refine R_seq ?_
  refine R_seq ?_
  refine R_region ?_
  refine L_val rfl rfl rfl (OpP.v (P_move rfl rfl)) ?_
  refine L_val rfl rfl rfl (OpP.v (P_move rfl rfl)) ?_
  refine L_val rfl rfl rfl (OpP.v (P_nil rfl rfl)) ?_
  refine L_val rfl rfl rfl (OpP.v (P_fld0 rfl ty_fl_101_3 rfl)) ?_
  refine L_val rfl rfl rfl (V_load rfl rfl ty_sc_99 (Rd.blk .h0 rfl)) ?_
  refine L_val rfl rfl rfl (OpP.v (P_len rfl ty_sl_99 rfl)) ?_
  refine L_val rfl rfl rfl (OpP.v (P_lss rfl rfl rfl)) ?_
  refine L_nil ?_
  refine Q_then ?_
  refine R_condP rfl (fun hlt => ?_) (fun hlt => ?_)
  ·skip
   have hil : i < es.length := by omega
   obtain ⟨⟨a, s'⟩, ht⟩ : ∃ y, tg[i]? = some y := ⟨_, List.getElem?_eq_getElem (by omega)⟩
   obtain ⟨⟨a', s⟩, hs⟩ : ∃ y, sg[i]? = some y := ⟨_, List.getElem?_eq_getElem (by omega)⟩
   have hes : es[i]? = some a := by rw [← hw.tg, List.getElem?_map, ht]; rfl
   have hes2 : es[i]? = some a' := by rw [← hw.sg, List.getElem?_map, hs]; rfl
   obtain rfl : a = a' := by rw [hes] at hes2; exact Option.some.inj hes2
   refine St.ownSome (p := [_, _, _]) (by omega) fun mbb mbc hq _ => ?_
   simp only [Value.slice.injEq] at hq
   obtain ⟨rfl, _, rfl⟩ := hq
   refine St.ownSome (p := [_, _, _, _]) (by omega) fun obb obc hq _ => ?_
   simp only [Value.slice.injEq] at hq
   obtain ⟨rfl, _, rfl⟩ := hq
   refine R_skip ?_
   refine Q_then ?_
   refine R_seq ?_
   refine R_block ?_
   refine R_seq ?_
   refine R_seq ?_
   refine R_open [(0, 0), (1, 0), (2, 0), (3, 1), (4, 0), (5, 0), (6, 1), (8, 0), (9, 1), (7, 2), (10, 0)] mixed (by kernel_rfl) (QOk.then (QOk.then (QOk.block (QOk.then (QOk.then (QOk.block (QOk.then QOk.body))))))) ?_
   refine O_pure rfl rfl rfl rfl (P_move rfl rfl) ?_
   refine O_pure rfl rfl rfl rfl (P_nil rfl rfl) ?_
   refine O_pure rfl rfl rfl rfl (P_fld0 rfl ty_fl_101_3 rfl) ?_
   refine O_val rfl rfl rfl rfl (V_load rfl rfl ty_sc_99 (Rd.blk .h0 rfl)) ?_
   refine O_pure rfl rfl rfl rfl (P_move rfl rfl) ?_
   refine O_pure rfl rfl rfl rfl (P_ixs (i) rfl ty_sl_99 rfl rfl (by first | rfl | omega) (by omega)) ?_
   refine O_val rfl rfl rfl rfl (V_load rfl rfl ty_sc_172 (rd_own1 .h4 (ptrs_at ht))) ?_
   refine O_pure rfl rfl rfl rfl (P_fld0 rfl ty_fl_88_1 rfl) ?_
   refine O_val rfl rfl rfl rfl (V_load rfl rfl ty_sc_27 (Rd.blk .h5 rfl)) ?_
   refine O_keep rfl rfl (W_callR rfl rfl rfl rfl fn_ca_100 (raddr_ok q tg _ i a s' ht) (Split.one (p := [_, _])) (fun _ _ _ _ _ _ _ => trivial) (K_keep (Weak.pick (p := [_]) (Weak.pick (p := [_]) (Weak.keep (Weak.keep (Weak.keep (Weak.keep (Weak.keep (Weak.keep (Weak.nil _))))))))) ?_))
   refine O_pure rfl rfl rfl rfl (P_neq rfl rfl rfl) ?_
   refine O_nil ?_
   refine Q_then ?_
   refine R_condP rfl (fun hne => ?_) (fun hne => ?_)
   ·skip
    have hne : a ≠ x.frm := by rw [sgnTx_frm] at hne; exact hne
    refine St.res (rs' := [blk wb [.pointer (some ⟨p, 0, none⟩), .pointer (some ⟨q, 0, none⟩), .slice (some ⟨mbb, 0, none⟩) sg.length mc, .slice (some ⟨obb, 0, none⟩) tg.length oc, .string (strOfNums ch)] 101, REG p (sg) ((sgnR (es.take (i)) ch x wr rc)), REF q (tg) ((sgnR (es.take (i)) ch x wr rc)), ownS 169 1 (.slice (some ⟨mbb, 0, none⟩) sg.length mc) (sg.length) (ptrs (sg)), ownS 172 1 (.slice (some ⟨obb, 0, none⟩) tg.length oc) (tg.length) (ptrs (tg)), blk b4 (sgnTx (es.take (i)) ch x wr).cells 88, blk b6 tx0.cells 88, ownS 5 1 (.slice ub (txbB ch x).length uc) ((txbB ch x).length) (ints .u8 (txbB ch x))]) (Weak.pick (p := [_]) (Weak.pick (p := [_]) (Weak.keep (Weak.keep (Weak.keep (Weak.keep (Weak.keep (Weak.keep (Weak.nil _))))))))) ?_
    refine R_exit ?_
    refine Q_then_exit ?_
    refine Q_block_eq ?_
    refine Q_then ?_
    refine R_region ?_
    refine L_val rfl rfl rfl (OpP.v (P_move rfl rfl)) ?_
    first | (refine L_val rfl rfl rfl (OpP.v (P_addN rfl rfl rfl (by simp only [fits]; omega))) ?_) | (refine L_val rfl rfl rfl (OpP.v (P_add rfl rfl rfl)) ?_)
    refine L_val rfl rfl rfl (OpP.v (P_assign rfl rfl)) ?_
    refine L_nil ?_
    exact Q_round (i + 1) (by omega) (by show es.length - (i + 1) < es.length - i; omega) (by repeat (first | exact .nil | refine .cons rfl ?_ | refine .consE rfl (by first | rfl | (congr 1; omega) | (congr 1; push_cast; omega)) ?_)) (by rw [sgnTx_skip hes hne, sgnR_skip hes hne]; exact Weak.refl _)
   ·skip
    have hne : a = x.frm := by rw [sgnTx_frm] at hne; exact Classical.not_not.1 hne
    subst hne
    have hni := nodup_take hw.nd hes
    have hin := (take_mem hes x.frm).2 (.inr rfl)
    refine St.res (rs' := [blk wb [.pointer (some ⟨p, 0, none⟩), .pointer (some ⟨q, 0, none⟩), .slice (some ⟨mbb, 0, none⟩) sg.length mc, .slice (some ⟨obb, 0, none⟩) tg.length oc, .string (strOfNums ch)] 101, REG p (sg) (rc), REF q (tg) (rc), ownS 169 1 (.slice (some ⟨mbb, 0, none⟩) sg.length mc) (sg.length) (ptrs (sg)), ownS 172 1 (.slice (some ⟨obb, 0, none⟩) tg.length oc) (tg.length) (ptrs (tg)), blk b4 x.cells 88, blk b6 tx0.cells 88, ownS 5 1 (.slice ub (txbB ch x).length uc) ((txbB ch x).length) (ints .u8 (txbB ch x))]) (by rw [sgnTx_not hni, sgnR_not hni]; exact Weak.pick (p := [_]) (Weak.pick (p := [_]) (Weak.keep (Weak.keep (Weak.keep (Weak.keep (Weak.keep (Weak.keep (Weak.nil _))))))))) ?_
    refine R_skip ?_
    refine Q_then ?_
    refine R_seq ?_
    refine R_region ?_
    refine L_val rfl rfl rfl (OpP.v (P_move rfl rfl)) ?_
    refine L_val rfl rfl rfl (OpP.v (P_not rfl rfl)) ?_
    refine L_nil ?_
    refine Q_then ?_
    refine R_cond rfl (fun hw2 => ?_) (fun hw2 => ?_)
    ·skip
     have hw2 : wr = false := by simpa using hw2
     refine R_seq ?_
     refine R_region ?_
     refine L_val rfl rfl rfl (OpP.v (P_move rfl rfl)) ?_
     refine L_val rfl rfl rfl (OpP.v (P_nil rfl rfl)) ?_
     refine L_val rfl rfl rfl (OpP.v (P_fld0 rfl ty_fl_101_2 rfl)) ?_
     refine L_val rfl rfl rfl (V_load rfl rfl ty_sc_98 (Rd.blk .h0 rfl)) ?_
     refine L_val rfl rfl rfl (OpP.v (P_move rfl rfl)) ?_
     refine L_val rfl rfl rfl (OpP.v (P_ixs (i) rfl ty_sl_98 rfl rfl (by first | rfl | omega) (by omega))) ?_
     refine L_val rfl rfl rfl (V_load rfl rfl ty_sc_169 (rd_own1 .h3 (ptrs_at hs))) ?_
     refine L_val rfl rfl rfl (OpP.v (P_move rfl rfl)) ?_
     refine L_op rfl (W_callR rfl rfl rfl rfl fn_ca_101 (sign_any hG.toGlobs p sg rc i x.frm s hs ub uc (txbB ch x) (txbB_b hcb hx) (by omega) hrc) (Split.one (p := [_])) (Sn.pre (Sn.own .h6 rfl)) ?_)
     refine St.res (rs' := [blk wb [.pointer (some ⟨p, 0, none⟩), .pointer (some ⟨q, 0, none⟩), .slice (some ⟨mbb, 0, none⟩) sg.length mc, .slice (some ⟨obb, 0, none⟩) tg.length oc, .string (strOfNums ch)] 101, REG p (sg) (addR rc (x.frm, txbB ch x)), REF q (tg) (rc), ownS 169 1 (.slice (some ⟨mbb, 0, none⟩) sg.length mc) (sg.length) (ptrs (sg)), ownS 172 1 (.slice (some ⟨obb, 0, none⟩) tg.length oc) (tg.length) (ptrs (tg)), blk b4 x.cells 88, blk b6 tx0.cells 88, ownS 5 1 (.slice ub (txbB ch x).length uc) ((txbB ch x).length) (ints .u8 (txbB ch x))]) (Weak.pick (p := [_]) (Weak.keep (Weak.keep (Weak.keep (Weak.keep (Weak.keep (Weak.keep (Weak.keep (Weak.nil _))))))))) ?_
     refine L_val rfl rfl rfl (OpP.v (P_move rfl rfl)) ?_
     refine L_val rfl rfl rfl (OpP.v (P_extract rfl rfl rfl)) ?_
     refine L_val rfl rfl rfl (OpP.v (P_extract rfl rfl rfl)) ?_
     refine L_op rfl (W_alloc rfl rfl rfl ty_ze_86 fun b11 => ?_)
     refine L_op rfl (W_storeAll rfl rfl rfl rfl ty_ag_86 (by rw [ints_length, sealH_length]) (ints_one) .h0 (by rw [ints_length, sealH_length]; rfl) ?_)
     refine L_val rfl rfl rfl (OpP.v (P_assign rfl rfl)) ?_
     refine L_nil ?_
     refine Q_then ?_
     refine R_seq ?_
     refine R_region ?_
     refine L_val rfl rfl rfl (OpP.v (P_move rfl rfl)) ?_
     refine L_val rfl rfl rfl (OpP.v (P_nil rfl rfl)) ?_
     refine L_val rfl rfl rfl (OpP.v (P_fld0 rfl ty_fl_101_3 rfl)) ?_
     refine L_val rfl rfl rfl (V_load rfl rfl ty_sc_99 (Rd.blk .h1 rfl)) ?_
     refine L_val rfl rfl rfl (OpP.v (P_move rfl rfl)) ?_
     refine L_val rfl rfl rfl (OpP.v (P_ixs (i) rfl ty_sl_99 rfl rfl (by first | rfl | omega) (by omega))) ?_
     refine L_val rfl rfl rfl (V_load rfl rfl ty_sc_172 (rd_own1 .h5 (ptrs_at ht))) ?_
     refine L_val rfl rfl rfl (OpP.v (P_move rfl rfl)) ?_
     refine L_op rfl (W_callR rfl rfl rfl rfl fn_ca_102 (rsign_any hG q tg rc i x.frm s' ht ub uc (txbB ch x) (txbB_b hcb hx) (by omega) hrc) (Split.one (p := [_, _, _])) (Sn.pre (Sn.own .h7 rfl)) ?_)
     refine St.res (rs' := [blk b11 (ints .u8 (sealH x.frm (txbB ch x))) 86, blk wb [.pointer (some ⟨p, 0, none⟩), .pointer (some ⟨q, 0, none⟩), .slice (some ⟨mbb, 0, none⟩) sg.length mc, .slice (some ⟨obb, 0, none⟩) tg.length oc, .string (strOfNums ch)] 101, REG p (sg) (addR rc (x.frm, txbB ch x)), REF q (tg) (addR rc (x.frm, txbB ch x)), ownS 169 1 (.slice (some ⟨mbb, 0, none⟩) sg.length mc) (sg.length) (ptrs (sg)), ownS 172 1 (.slice (some ⟨obb, 0, none⟩) tg.length oc) (tg.length) (ptrs (tg)), blk b4 x.cells 88, blk b6 tx0.cells 88, ownS 5 1 (.slice ub (txbB ch x).length uc) ((txbB ch x).length) (ints .u8 (txbB ch x))]) (Weak.pick (p := [_]) (Weak.pick (p := [_]) (Weak.pick (p := [_]) (Weak.keep (Weak.keep (Weak.keep (Weak.keep (Weak.keep (Weak.keep (Weak.nil _)))))))))) ?_
     refine L_val rfl rfl rfl (OpP.v (P_move rfl rfl)) ?_
     refine L_val rfl rfl rfl (OpP.v (P_extract rfl rfl rfl)) ?_
     refine L_val rfl rfl rfl (OpP.v (P_extract rfl rfl rfl)) ?_
     refine L_op rfl (W_alloc rfl rfl rfl ty_ze_86 fun b13 => ?_)
     refine L_op rfl (W_storeAll rfl rfl rfl rfl ty_ag_86 (by rw [ints_length, sealH_length]) (ints_one) .h0 (by rw [ints_length, sealH_length]; rfl) ?_)
     refine L_val rfl rfl rfl (OpP.v (P_assign rfl rfl)) ?_
     refine L_nil ?_
     refine Q_then ?_
     refine R_seq ?_
     refine R_seq ?_
     refine R_region ?_
     refine L_val rfl rfl rfl (V_loadAgg rfl rfl ty_ag_86 (Rds.blk .h1) (by rw [ints_length, sealH_length])) ?_
     refine L_val rfl rfl rfl (V_loadAgg rfl rfl ty_ag_86 (Rds.blk .h0) (by rw [ints_length, sealH_length])) ?_
     refine L_val rfl rfl rfl (OpP.v (P_neArr rfl rfl rfl ty_un_86 ty_int_5 ty_sc_5 ty_eg_86 (sealH_length _ _) (sealH_length _ _))) ?_
     refine E_false (t := 75) rfl (decide_eq_false (fun h => h rfl)) ?_
     refine L_val rfl rfl rfl (OpP.v (P_move rfl rfl)) ?_
     refine L_val rfl rfl rfl (OpP.v (P_move rfl rfl)) ?_
     refine L_val rfl rfl rfl (OpP.v (P_move rfl rfl)) ?_
     refine L_val rfl rfl rfl (OpP.v (P_neq rfl rfl rfl)) ?_
     refine E_false (t := 79) rfl (decide_eq_false (fun h => h rfl)) ?_
     refine L_val rfl rfl rfl (OpP.v (P_pick rfl rfl rfl)) ?_
     refine L_nil ?_
     refine Q_then ?_
     refine R_condF rfl ?_
     refine R_skip ?_
     refine Q_then ?_
     refine R_region ?_
     refine L_val rfl rfl rfl (V_loadAgg rfl rfl ty_ag_86 (Rds.blk .h0) (by rw [ints_length, sealH_length])) ?_
     refine L_val rfl rfl rfl (OpP.v (P_fld0 rfl ty_fl_88_6 rfl)) ?_
     refine L_op rfl (W_storeAgg rfl rfl rfl rfl ty_ag_86 (by rw [ints_length, sealH_length]) (ints_one) .h7 (by rw [ints_length, sealH_length, hx.cellsLen]; decide) ?_)
     refine L_nil ?_
     refine Q_block ?_
     refine Q_then ?_
     refine R_region ?_
     refine L_val rfl rfl rfl (OpP.v (P_move rfl rfl)) ?_
     first | (refine L_val rfl rfl rfl (OpP.v (P_addN rfl rfl rfl (by simp only [fits]; omega))) ?_) | (refine L_val rfl rfl rfl (OpP.v (P_add rfl rfl rfl)) ?_)
     refine L_val rfl rfl rfl (OpP.v (P_assign rfl rfl)) ?_
     refine L_nil ?_
     exact Q_round (i + 1) (by omega) (by show es.length - (i + 1) < es.length - i; omega) (by repeat (first | exact .nil | refine .cons rfl ?_ | refine .consE rfl (by first | rfl | (congr 1; omega) | (congr 1; push_cast; omega)) ?_)) (by subst hw2; rw [sgnTx_yes he hin, sgnR_yes he hin, ← withSeal_cells x (sigS ch x false) hx.len (sigS_ok ch x false).2]; exact Weak.drop (Weak.drop (Weak.refl _)))
    ·skip
     have hw2 : wr = true := by simpa using hw2
     refine R_region ?_
     refine L_val rfl rfl rfl (OpP.v (P_buildArrR rfl ty_ar_86 ty_ze_86 rfl rfl rfl (by first | decide | (simp only [List.length_cons, List.length_nil]; omega)) (by simp [Value.oneCell']))) ?_
     refine E_as (t := 84) (v' := .agg (ints .u8 (wrongS)).toArray) rfl (rfl) ?_
     refine L_val rfl rfl rfl (OpP.v (P_fld0 rfl ty_fl_88_6 rfl)) ?_
     refine L_op rfl (W_storeAgg rfl rfl rfl rfl ty_ag_86 (rfl) (ints_one) .h5 (by rw [hx.cellsLen]; decide) ?_)
     refine L_nil ?_
     refine Q_block ?_
     refine Q_then ?_
     refine R_region ?_
     refine L_val rfl rfl rfl (OpP.v (P_move rfl rfl)) ?_
     first | (refine L_val rfl rfl rfl (OpP.v (P_addN rfl rfl rfl (by simp only [fits]; omega))) ?_) | (refine L_val rfl rfl rfl (OpP.v (P_add rfl rfl rfl)) ?_)
     refine L_val rfl rfl rfl (OpP.v (P_assign rfl rfl)) ?_
     refine L_nil ?_
     exact Q_round (i + 1) (by omega) (by show es.length - (i + 1) < es.length - i; omega) (by repeat (first | exact .nil | refine .cons rfl ?_ | refine .consE rfl (by first | rfl | (congr 1; omega) | (congr 1; push_cast; omega)) ?_)) (by subst hw2; rw [sgnTx_yes he hin, sgnR_wrong, ← withSeal_cells x (sigS ch x true) hx.len (sigS_ok ch x true).2]; exact Weak.refl _)
  ·skip
   obtain rfl : i = es.length := by omega
   refine St.res (rs' := [blk wb [.pointer (some ⟨p, 0, none⟩), .pointer (some ⟨q, 0, none⟩), .slice mb sg.length mc, .slice ob tg.length oc, .string (strOfNums ch)] 101, REG p (sg) ((sgnR es ch x wr rc)), REF q (tg) ((sgnR es ch x wr rc)), ownS 169 1 (.slice mb sg.length mc) (sg.length) (ptrs (sg)), ownS 172 1 (.slice ob tg.length oc) (tg.length) (ptrs (tg)), blk b4 (sgnTx es ch x wr).cells 88, blk b6 tx0.cells 88, ownS 5 1 (.slice ub (txbB ch x).length uc) ((txbB ch x).length) (ints .u8 (txbB ch x))]) (by rw [List.take_length]; exact Weak.refl _) ?_
   refine R_exit ?_
   refine Q_then_exit ?_
   refine Q_then_exit ?_
   refine Q_block_eq ?_
   refine St.env (.cons (t := 4) rfl (.cons (t := 6) rfl (.cons (t := 7) rfl .nil))) ?_
   refine Q_then ?_
   refine R_seq ?_
   refine R_region ?_
   refine L_val rfl rfl rfl (V_loadAgg rfl rfl ty_ag_88 (Rds.blk .h5) ((sgnTx_ok es ch wr hx).cellsLen)) ?_
   refine L_op rfl (W_storeAll rfl rfl rfl rfl ty_ag_88 ((sgnTx_ok es ch wr hx).cellsLen) (Tx.one _) .h6 ((sgnTx_ok es ch wr hx).cellsLen) ?_)
   refine L_val rfl rfl rfl (OpP.v (P_assign rfl rfl)) ?_
   refine L_nil ?_
   refine St.env (.cons (t := 6) rfl (.cons (t := 7) rfl .nil)) ?_
   refine Q_then ?_
   refine R_ret ?_
   exact R_end (rs2 := _) rfl rfl (.cell rfl (Rds.loadVar ty_ag_88 (Rds.blk .h6) (sgnTx_ok es ch wr hx).cellsLen) (.tmp rfl .nil)) (⟨rfl, rfl⟩) (Weak.keep (Weak.keep (Weak.keep (Weak.keep (Weak.keep (Weak.nil _))))))
end Go.Proofs.YtfhjhaogmdaepaaGreatDoor

/- Plain: two transactions of unlike senders, their accounts. Printed by gen.py. -/
set_option linter.unusedVariables false
set_option linter.unusedSimpArgs false
set_option maxRecDepth 100000
namespace Go.Proofs.YtfhjhaogmdaepaaGreatDoor
open Go Go.RowKit Go.Proofs
/-- The account of an address is changed; where there is none, one of nothing is. -/
def updR : List Acc → Int → (Acc → Acc) → List Acc
 | [], a, f => [f ⟨a, 0, 0, 0, false⟩]
 | x :: l, a, f => if x.a = a then f x :: l else if a < x.a then f ⟨a, 0, 0, 0, false⟩ :: x :: l else x :: updR l a f
/-- A change keeps addresses. -/
def Keeps (f : Acc → Acc) : Prop := ∀ x, (f x).a = x.a
theorem updR_comm {f g : Acc → Acc} (hf : Keeps f) (hg : Keeps g) {a b : Int} (hn : a ≠ b) : ∀ l, updR (updR l a f) b g = updR (updR l b g) a f
 | [] => by
  have hf' : ∀ x, (f x).a = x.a := hf
  have hg' : ∀ x, (g x).a = x.a := hg
  by_cases h5 : a < b <;> by_cases h6 : b < a <;> first | (exfalso; omega) | simp [updR, hf', hg', hn, Ne.symm hn, h5, h6]
 | x :: l => by
  have ih := updR_comm hf hg hn l
  have hf' : ∀ x, (f x).a = x.a := hf
  have hg' : ∀ x, (g x).a = x.a := hg
  by_cases h1 : x.a = a <;> by_cases h2 : x.a = b <;> by_cases h3 : a < x.a <;> by_cases h4 : b < x.a <;> by_cases h5 : a < b <;> by_cases h6 : b < a <;> first | (exfalso; omega) | simp [updR, hf', hg', hn, Ne.symm hn, h1, h2, h3, h4, h5, h6, ih]
theorem updR_same {f g : Acc → Acc} (hf : Keeps f) (a : Int) : ∀ l, updR (updR l a f) a g = updR l a (fun x => g (f x))
 | [] => by simp only [updR]; rw [hf]; simp
 | x :: l => by
  have ih := updR_same (g := g) hf a l
  rw [updR, updR]
  split
  ·rw [updR, hf, if_pos (by assumption)]
  ·split
   ·rw [updR, hf, if_pos rfl]
   ·rw [updR, if_neg (by assumption), if_neg (by assumption), ih]
/-- Changes that do not meet. -/
theorem updR_turn {f g : Acc → Acc} (hf : Keeps f) (hg : Keeps g) {a b : Int} (h : a ≠ b ∨ ∀ x, g (f x) = f (g x)) (l : List Acc) : updR (updR l a f) b g = updR (updR l b g) a f := by
 by_cases hn : a = b
 ·subst hn
  rw [updR_same hf, updR_same hg]
  congr 1
  funext x
  exact (h.resolve_left fun h => h rfl) x
 ·exact updR_comm hf hg hn l
/-- Addresses rise. -/
def Up (l : List Acc) : Prop := l.Pairwise fun x y => x.a < y.a
theorem updR_mem {f : Acc → Acc} {a : Int} : ∀ {l : List Acc} {y : Acc}, y ∈ updR l a f → y ∈ l ∨ ∃ x, (x ∈ l ∨ x = ⟨a, 0, 0, 0, false⟩) ∧ x.a = a ∧ y = f x
 | [], y, h => .inr ⟨_, .inr rfl, rfl, by simpa [updR] using h⟩
 | x :: l, y, h => by
  rw [updR] at h
  split at h
  ·rcases List.mem_cons.1 h with rfl | h
   ·exact .inr ⟨x, .inl (List.mem_cons_self ..), by assumption, rfl⟩
   ·exact .inl (List.mem_cons_of_mem _ h)
  ·split at h
   ·rcases List.mem_cons.1 h with rfl | h
    ·exact .inr ⟨_, .inr rfl, rfl, rfl⟩
    ·exact .inl h
   ·rcases List.mem_cons.1 h with rfl | h
    ·exact .inl (List.mem_cons_self ..)
    ·rcases updR_mem h with h | ⟨z, h1, h2, h3⟩
     ·exact .inl (List.mem_cons_of_mem _ h)
     ·exact .inr ⟨z, h1.imp (List.mem_cons_of_mem _) id, h2, h3⟩
theorem updR_up {f : Acc → Acc} (hf : Keeps f) {a : Int} : ∀ {l : List Acc}, Up l → Up (updR l a f)
 | [], _ => List.pairwise_singleton ..
 | x :: l, h => by
  obtain ⟨h1, h2⟩ := List.pairwise_cons.1 h
  rw [updR]
  split
  ·exact List.pairwise_cons.2 ⟨fun y hy => by rw [hf]; exact h1 y hy, h2⟩
  ·split
   ·refine List.pairwise_cons.2 ⟨fun y hy => ?_, h⟩
    rw [hf]
    rcases List.mem_cons.1 hy with rfl | hy
    ·assumption
    ·have := h1 y hy; show a < y.a; omega
   ·refine List.pairwise_cons.2 ⟨fun y hy => ?_, updR_up hf h2⟩
    rcases updR_mem hy with hy | ⟨z, _, e1, rfl⟩
    ·exact h1 y hy
    ·rw [hf, e1]; omega
theorem updR_ok {f : Acc → Acc} (hf : ∀ x, x.ok → (f x).ok) {a : Int} (ha : u64 a) {l : List Acc} (h : ∀ x ∈ l, x.ok) : ∀ x ∈ updR l a f, x.ok := fun y hy => by
 rcases updR_mem hy with hy | ⟨z, hz, _, rfl⟩
 ·exact h y hy
 ·refine hf z (hz.elim (h z) fun e => ?_)
  subst e; exact ⟨ha, ⟨Int.le_refl 0, show (0 : Int) ≤ 18446744073709551615 by decide⟩, ⟨Int.le_refl 0, show (0 : Int) ≤ 18446744073709551615 by decide⟩, ⟨Int.le_refl 0, show (0 : Int) ≤ 18446744073709551615 by decide⟩⟩
theorem updR_has {f : Acc → Acc} (hf : Keeps f) {a b : Int} : ∀ {l : List Acc}, (∃ x ∈ l, x.a = b) → ∃ x ∈ updR l a f, x.a = b
 | x :: l, ⟨y, hy, e⟩ => by
  rw [updR]
  split
  ·rcases List.mem_cons.1 hy with rfl | hy
   ·exact ⟨_, List.mem_cons_self .., by rw [hf, e]⟩
   ·exact ⟨y, List.mem_cons_of_mem _ hy, e⟩
  ·split
   ·exact ⟨y, List.mem_cons_of_mem _ hy, e⟩
   ·rcases List.mem_cons.1 hy with rfl | hy
    ·exact ⟨y, List.mem_cons_self .., e⟩
    ·obtain ⟨z, hz, e2⟩ := updR_has hf (l := l) ⟨y, hy, e⟩
     exact ⟨z, List.mem_cons_of_mem _ hz, e2⟩
 | [], ⟨_, hy, _⟩ => by cases hy
theorem spot_up {l : List Acc} (h : Up l) (a : Int) : (∀ i, i < spotI l a → (accAt l i).a < a) ∧ (∀ i, spotI l a ≤ i → i < l.length → a ≤ (accAt l i).a) := by
 obtain ⟨h1, h2⟩ := bsN_spec (p := fun i => decide ((accAt l i).a < a)) l.length 0 l.length (Nat.le_refl _) (Nat.zero_le _) fun i j _ hij hj hp => by
  have h3 := List.pairwise_iff_getElem.1 h i j (by omega) hj hij
  rw [accAt_of (List.getElem?_eq_getElem (show i < l.length by omega))]
  rw [accAt_of (List.getElem?_eq_getElem hj)] at hp
  exact decide_eq_true (Int.lt_trans h3 (of_decide_eq_true hp))
 exact ⟨fun i hi => of_decide_eq_true (h1 i (Nat.zero_le _) hi), fun i hi hn => Int.not_lt.1 (of_decide_eq_false (h2 i hi hn))⟩
theorem upd_set {f : Acc → Acc} {a : Int} : ∀ {l : List Acc} {i : Nat}, (∀ j, j < i → (accAt l j).a < a) → i < l.length → (accAt l i).a = a → l.set i (f (accAt l i)) = updR l a f
 | [], i, _, h, _ => by simp at h
 | x :: l, 0, _, _, e => by rw [updR, if_pos (show x.a = a from e)]; rfl
 | x :: l, i + 1, h, hi, e => by
  have h0 : x.a < a := h 0 (Nat.succ_pos _)
  rw [updR, if_neg (by omega), if_neg (by omega)]
  exact congrArg (x :: ·) (upd_set (l := l) (i := i) (fun j hj => h (j + 1) (by omega)) (by simpa using hi) e)
theorem upd_ins {f : Acc → Acc} {a : Int} : ∀ {l : List Acc} {i : Nat}, (∀ j, j < i → (accAt l j).a < a) → (∀ j, i ≤ j → j < l.length → a < (accAt l j).a) → i ≤ l.length → insL l i (f ⟨a, 0, 0, 0, false⟩) = updR l a f
  | [], i, _, _, h => by obtain rfl : i = 0 := by simpa using h
                         rfl
  | x :: l, 0, _, h, _ => by
    have h0 : a < x.a := h 0 (Nat.le_refl _) (Nat.succ_pos _)
    rw [updR, if_neg (by omega), if_pos h0]; rfl
  | x :: l, i + 1, h, h2, hi => by
    have h0 : x.a < a := h 0 (Nat.succ_pos _)
    rw [updR, if_neg (by omega), if_neg (by omega)]
    exact congrArg (x :: ·) (upd_ins (l := l) (i := i) (fun j hj => h (j + 1) (by omega)) (fun j h3 h4 => h2 (j + 1) (by omega) (by simpa using h4)) (by simpa using hi))
theorem spotB_at {l : List Acc} {a : Int} (h : spotB l a = true) : spotI l a < l.length ∧ (accAt l (spotI l a)).a = a := by unfold spotB at h; rwa [Bool.and_eq_true, decide_eq_true_eq, decide_eq_true_eq] at h
theorem upd_yes {l : List Acc} (h : Up l) {a : Int} (hb : spotB l a = true) (f : Acc → Acc) : l.set (spotI l a) (f (accAt l (spotI l a))) = updR l a f :=
 upd_set (spot_up h a).1 (spotB_at hb).1 (spotB_at hb).2
theorem spotB_has {l : List Acc} (h : Up l) {a : Int} : spotB l a = true ↔ ∃ x ∈ l, x.a = a := by
 refine ⟨fun hb => ⟨_, accAt_mem (spotB_at hb).1, (spotB_at hb).2⟩, fun ⟨x, hx, e⟩ => ?_⟩
 obtain ⟨i, hi, e2⟩ := List.mem_iff_getElem.1 hx
 have e3 : (accAt l i).a = a := by rw [accAt_of (List.getElem?_eq_getElem hi), e2]; exact e
 obtain ⟨h1, h2⟩ := spot_up h a
 have h4 : spotI l a ≤ i := Nat.not_lt.1 fun h5 => by have := h1 i h5; omega
 have h5 := h2 _ (Nat.le_refl _) (show spotI l a < l.length by omega)
 unfold spotB
 rw [Bool.and_eq_true, decide_eq_true_eq, decide_eq_true_eq]
 refine ⟨by omega, ?_⟩
 rcases Nat.lt_or_ge (spotI l a) i with h6 | h6
 ·have h7 := List.pairwise_iff_getElem.1 h _ i (by omega) hi h6
  rw [← accAt_of (List.getElem?_eq_getElem (show spotI l a < l.length by omega)), ← accAt_of (List.getElem?_eq_getElem hi)] at h7
  omega
 ·rw [show spotI l a = i by omega]; exact e3
theorem upd_no {l : List Acc} (h : Up l) {a : Int} (hb : spotB l a = false) (f : Acc → Acc) : insL l (spotI l a) (f ⟨a, 0, 0, 0, false⟩) = updR l a f := by
 refine upd_ins (spot_up h a).1 (fun j h1 h2 => ?_) (spotI_le l a)
 have h3 := (spot_up h a).2 j h1 h2
 rcases Int.lt_or_eq_of_le h3 with h4 | h4
 ·exact h4
 ·have := (spotB_has h).2 ⟨_, accAt_mem h2, h4.symm⟩
  rw [hb] at this; cases this
theorem accFine_up {l : List Acc} (h : AccFine l) : Up l := List.pairwise_iff_getElem.2 fun i j hi hj hij => by
 have := h.mono i j hij hj
 rwa [accAt_of (List.getElem?_eq_getElem hi), accAt_of (List.getElem?_eq_getElem hj)] at this
/-! ### What a transaction does -/
theorem w64_eq (x : Int) : w64 x = x % 18446744073709551616 := by unfold w64; simp only [IntKind.wrap, IntKind.signed, IntKind.bits, Bool.false_and, Bool.false_eq_true, if_false]; rfl
theorem w64_id {x : Int} (h : u64 x) : w64 x = x := by obtain ⟨h1, h2⟩ := h; rw [w64_eq]; omega
theorem w64_ok (x : Int) : u64 (w64 x) := by rw [w64_eq]; exact ⟨by omega, by omega⟩
theorem w64_add (x n m : Int) : w64 (w64 (x + n) + m) = w64 (w64 (x + m) + n) := by rw [w64_eq, w64_eq, w64_eq, w64_eq]; omega
/-- What the sender's account becomes. -/
def payK (x : Tx) (A : Acc) : Acc := ⟨A.a, w64 (A.bal + -costI x), if x.kind = 2 then w64 (A.bond + x.amt) else if x.kind = 3 then w64 (A.bond - x.amt) else A.bond, w64 (A.non + 1), if x.kind = 4 then false else A.jail⟩
def toK (x : Tx) (l : List Acc) : List Acc := if x.kind = 1 then updR l x.to (addBal x.amt) else l
def stepK (l : List Acc) (x : Tx) (b : Int) : List Acc := updR (toK x (updR l x.frm (payK x))) b (addBal x.fee)
theorem keeps_pay (x : Tx) : Keeps (payK x) := fun _ => rfl
theorem keeps_add (n : Int) : Keeps (addBal n) := fun _ => rfl
theorem add_add (n m : Int) (A : Acc) : addBal n (addBal m A) = addBal m (addBal n A) := by unfold addBal; simp only; rw [w64_add]
theorem add_pay (n : Int) (x : Tx) (A : Acc) : addBal n (payK x A) = payK x (addBal n A) := by unfold addBal payK; simp only; rw [w64_add]
theorem ok_add (n : Int) (x : Acc) (h : x.ok) : (addBal n x).ok := ⟨h.1, w64_ok _, h.2.2.1, h.2.2.2⟩
theorem ok_pay (x : Tx) (A : Acc) (h : A.ok) : (payK x A).ok := ⟨h.1, w64_ok _, by show u64 (if _ then _ else _); split; exact w64_ok _; split; exact w64_ok _; exact h.2.2.1, w64_ok _⟩
theorem toK_add (x : Tx) (l : List Acc) (b n : Int) : toK x (updR l b (addBal n)) = updR (toK x l) b (addBal n) := by
 unfold toK; split
 ·exact updR_turn (keeps_add _) (keeps_add _) (.inr fun A => add_add _ _ A) l
 ·rfl
theorem toK_pay (x y : Tx) (l : List Acc) (a : Int) : toK x (updR l a (payK y)) = updR (toK x l) a (payK y) := by
 unfold toK; split
 ·exact updR_turn (keeps_pay _) (keeps_add _) (.inr fun A => add_pay _ _ A) l
 ·rfl
theorem toK_toK (x y : Tx) (l : List Acc) : toK x (toK y l) = toK y (toK x l) := by
 unfold toK; split <;> split <;> first | rfl | exact updR_turn (keeps_add _) (keeps_add _) (.inr fun A => add_add _ _ A) l
theorem stepK_turn (l : List Acc) {x y : Tx} (hn : x.frm ≠ y.frm) (b : Int) : stepK (stepK l x b) y b = stepK (stepK l y b) x b := by
 unfold stepK
 rw [updR_turn (keeps_add _) (keeps_pay _) (a := b) (b := y.frm) (.inr fun A => (add_pay _ _ A).symm), toK_add,
  updR_turn (keeps_add _) (keeps_pay _) (a := b) (b := x.frm) (.inr fun A => (add_pay _ _ A).symm), toK_add,
  updR_turn (keeps_add _) (keeps_add _) (a := b) (b := b) (.inr fun A => add_add _ _ A),
  ← toK_pay, updR_turn (keeps_pay _) (keeps_pay _) (a := x.frm) (b := y.frm) (.inl hn), ← toK_pay y x, toK_toK y x]
theorem toK_up (x : Tx) {l : List Acc} (h : Up l) : Up (toK x l) := by unfold toK; split; exact updR_up (keeps_add _) h; exact h
theorem stepK_up {l : List Acc} (h : Up l) (x : Tx) (b : Int) : Up (stepK l x b) := updR_up (keeps_add _) (toK_up x (updR_up (keeps_pay _) h))
theorem toK_ok {x : Tx} (hx : x.ok) {l : List Acc} (h : ∀ y ∈ l, y.ok) : ∀ y ∈ toK x l, y.ok := by unfold toK; split; exact updR_ok (ok_add _) hx.to h; exact h
theorem stepK_ok {l : List Acc} (h : ∀ y ∈ l, y.ok) {x : Tx} (hx : x.ok) {b : Int} (hb : u64 b) : ∀ y ∈ stepK l x b, y.ok := updR_ok (ok_add _) hb (toK_ok hx (updR_ok (ok_pay _) hx.frm h))
theorem toK_has {x : Tx} {l : List Acc} {b : Int} (h : ∃ y ∈ l, y.a = b) : ∃ y ∈ toK x l, y.a = b := by unfold toK; split; exact updR_has (keeps_add _) h; exact h
theorem stepK_has {l : List Acc} {x : Tx} {b c : Int} (h : ∃ y ∈ l, y.a = c) : ∃ y ∈ stepK l x b, y.a = c := updR_has (keeps_add _) (toK_has (updR_has (keeps_pay _) h))
theorem pay_mid {l : List Acc} (h : Up l) (a n : Int) : payP l a n = updR l a (addBal n) := by
 unfold payP midA
 cases hb : spotB l a with
 | true => rw [if_pos rfl]; exact upd_yes h hb _
 | false =>
  rw [if_neg (by decide), ← upd_no h hb]
  have hi := spotI_le l a
  have e : (insL l (spotI l a) ⟨a, 0, 0, 0, false⟩)[spotI l a]? = some ⟨a, 0, 0, 0, false⟩ := by
   unfold insL; rw [List.getElem?_append_right (by rw [List.length_take]; omega), List.length_take, Nat.min_eq_left hi, Nat.sub_self]; rfl
  rw [accAt_of e]
  unfold insL
  rw [List.set_append_right _ _ (by rw [List.length_take]; omega), List.length_take, Nat.min_eq_left hi, Nat.sub_self]; rfl
/-- Behind a transaction that Check lets, the accounts are these. -/
theorem accK_eq {rc : List Rcd} {ch : List Int} {L : Led} {p : Par} {h : Int} {x : Tx} (hu : Up L.acc) (hok : ∀ y ∈ L.acc, y.ok) (hx : x.ok) (hc : ChkFine rc ch L p h x) : accK L x = toK x (updR L.acc x.frm (payK x)) := by
 have hF := txFine_of (txbE_fine hc.tx).2
 have hlt := (spotB_at hc.frm).1
 have hA : (senderA L x).ok := hok _ (accAt_mem hlt)
 obtain ⟨⟨ha0, ha1⟩, ⟨hb0, hb1⟩, ⟨hd0, hd1⟩, ⟨hn0, hn1⟩⟩ := hA
 have hcost : 0 ≤ costI x := by unfold costI; have := hx.fee.1; have := hx.amt.1; split <;> omega
 have hbal := hc.bal
 have hn := hc.non
 have hn2 := hc.top
 have e1 : w64 ((senderA L x).bal + -costI x) = (senderA L x).bal - costI x := w64_id ⟨by omega, by omega⟩
 have e2 : w64 ((senderA L x).non + 1) = (senderA L x).non + 1 := w64_id ⟨by omega, by omega⟩
 have key : ∀ (f : Acc → Acc), f (senderA L x) = payK x (senderA L x) → L.acc.set (spotI L.acc x.frm) (f (senderA L x)) = updR L.acc x.frm (payK x) := fun f hf => by rw [hf]; exact upd_yes hu hc.frm _
 unfold accK toK
 by_cases k1 : x.kind = 1
 ·rw [if_pos k1, if_pos k1]
  have := key (payer x) (by unfold payer payK; rw [e1, e2, if_neg (by omega), if_neg (by omega), if_neg (by omega)])
  unfold paidL
  rw [this]
  exact pay_mid (updR_up (keeps_pay _) hu) _ _
 ·rw [if_neg k1, if_neg k1]
  by_cases k2 : x.kind = 2
  ·rw [if_pos k2]; exact key (fun A => addBond x.amt (payer x A)) (by unfold addBond payer payK; simp only; rw [e1, e2, if_pos k2, if_neg (by omega)])
  ·rw [if_neg k2]
   by_cases k3 : x.kind = 3
   ·rw [if_pos k3]
    have hkd := hc.kind
    have hsub : x.amt ≤ (senderA L x).bond := by unfold kindE at hkd; rw [if_neg k1, if_pos k3] at hkd; split at hkd <;> omega
    exact key (fun A => subBond x.amt (payer x A)) (by unfold subBond payer payK; simp only; rw [e1, e2, if_neg k2, if_pos k3, if_neg (by omega), w64_id ⟨by omega, by have := hx.amt.1; omega⟩])
   ·have k4 : x.kind = 4 := by have := hF.k1; have := hF.k2; omega
    rw [if_neg k3, if_pos k4]
    exact key (fun A => unjail (payer x A)) (by unfold unjail payer payK; simp only; rw [e1, e2, if_neg k2, if_neg k3, if_pos k4])
theorem appP_eq {rc : List Rcd} {ch : List Int} {L : Led} {p : Par} {h b : Int} {x : Tx} (hu : Up L.acc) (hok : ∀ y ∈ L.acc, y.ok) (hx : x.ok) (hc : ChkFine rc ch L p h x) (hb : ∃ y ∈ L.acc, y.a = b) : appP L p h b x = ⟨stepK L.acc x b, relK L p h x, L.burnt, L.sup⟩ := by
 have e := accK_eq hu hok hx hc
 have hu2 : Up (accK L x) := by rw [e]; exact toK_up x (updR_up (keeps_pay _) hu)
 have hb2 : spotB (accK L x) b = true := by rw [spotB_has hu2, e]; exact toK_has (updR_has (keeps_pay _) hb)
 unfold appP
 rw [if_pos hb2, upd_yes hu2 hb2, e]; rfl
end Go.Proofs.YtfhjhaogmdaepaaGreatDoor

/- The reference: accounts, sums, rows, places. Printed by gen.py. -/
set_option linter.unusedVariables false
set_option linter.unusedSimpArgs false
set_option maxRecDepth 100000
namespace Go.Proofs.YtfhjhaogmdaepaaGreatDoor
open Go Go.RowKit Go.Proofs
def raccE (l : List Acc) : Int := if 65536 < l.length then 86 else accE l
/-- Balances and bonds, one by one. -/
def sumL (l : List Acc) : List Int := l.flatMap fun x => [x.bal, x.bond]
theorem sumL_snoc {l : List Acc} {i : Nat} {x : Acc} (h : l[i]? = some x) : sumL (l.take (i + 1)) = sumL (l.take i) ++ [x.bal, x.bond] := by
 unfold sumL; rw [List.take_add_one, h, List.flatMap_append]; rfl
theorem sumL_sum (l : List Acc) : (sumL l).sum = sumA l := by
 induction l with
 | nil => rfl
 | cons x l ih => rw [sumA_cons, ← ih]; show x.bal + (x.bond + (sumL l).sum) = _; omega
theorem sumL_nn {l : List Acc} (h : ∀ x ∈ l, x.ok) : ∀ y ∈ sumL l, 0 ≤ y := by
 intro y hy
 obtain ⟨x, hx, hy⟩ := List.mem_flatMap.1 hy
 simp only [List.mem_cons, List.not_mem_nil, or_false] at hy
 obtain ⟨_, ⟨h2, _⟩, ⟨h3, _⟩, _⟩ := h x hx
 rcases hy with rfl | rfl <;> assumption
theorem amts_nn {l : List Rel} (h : ∀ x ∈ l, x.ok) : ∀ y ∈ l.map Rel.amt, 0 ≤ y := by
 intro y hy
 obtain ⟨x, hx, rfl⟩ := List.mem_map.1 hy
 exact (h x hx).2.2.2.1
theorem amts_snoc {l : List Rel} {i : Nat} {x : Rel} (h : l[i]? = some x) : (l.take (i + 1)).map Rel.amt = (l.take i).map Rel.amt ++ [x.amt] := by
 rw [List.take_add_one, h, List.map_append]; rfl
theorem addC_nn {t x : Int} (ht : 0 ≤ t) (hx : 0 ≤ x) : 0 ≤ addC t x := by
 unfold addC; split
 ·decide
 ·omega
theorem capF_nn : ∀ (l : List Int) (t : Int), (∀ x ∈ l, 0 ≤ x) → 0 ≤ t → 0 ≤ capF t l
 | [], _, _, h => h
 | x :: l, t, hl, h => capF_nn l _ (fun y hy => hl y (by simp [hy])) (addC_nn h (hl x (by simp)))
/-- What the document's sum answers. -/
def totC (l : List Acc) (r : List Rel) (bu : Int) : Int := capF (capF (addC 0 bu) (sumL l)) (r.map Rel.amt)
theorem totC_spec {l : List Acc} {r : List Rel} {bu : Int} (hl : ∀ x ∈ l, x.ok) (hr : ∀ x ∈ r, x.ok) (hb : 0 ≤ bu) : (totC l r bu ≤ MS ↔ bu + sumA l + sumR r ≤ MS) ∧ (totC l r bu ≤ MS → totC l r bu = bu + sumA l + sumR r) := by
 have h := capF_spec (l := bu :: (sumL l ++ r.map Rel.amt)) (fun x hx => by
  rcases List.mem_cons.1 hx with rfl | hx
  ·exact hb
  ·rcases List.mem_append.1 hx with hx | hx
   ·exact sumL_nn hl x hx
   ·exact amts_nn hr x hx) 0 (Int.le_refl _)
 have e : capF 0 (bu :: (sumL l ++ r.map Rel.amt)) = totC l r bu := by
  show capF (addC 0 bu) (sumL l ++ r.map Rel.amt) = _
  rw [capF_app]; rfl
 have e2 : (0 : Int) + (bu :: (sumL l ++ r.map Rel.amt)).sum = bu + sumA l + sumR r := by
  rw [List.sum_cons, List.sum_append, sumL_sum]; show 0 + (bu + (sumA l + sumR r)) = _; omega
 rw [e, e2] at h
 exact h
def findA (l : List Acc) (a : Int) : Acc := if idxG (isAc a) l < 0 then acc0 else accAt l (idxG (isAc a) l).toNat
theorem findA_at {l : List Acc} {a : Int} {i : Nat} (h : idxG (isAc a) l = (i : Int)) : findA l a = accAt l i := by
 unfold findA; rw [if_neg (by omega), h]; rfl
theorem findA_no {l : List Acc} {a : Int} (h : idxG (isAc a) l = -1) : findA l a = acc0 := by unfold findA; rw [if_pos (by omega)]
theorem radd_ok {gl : Nat → Obj} (t x : Int) (ht : 0 ≤ t) (hx : 0 ≤ x) : SpecV (cx gl) 133 [.int .u64 t, .int .u64 x] noPre (.int .u64 (addC t x)) := by
 refine Spec.enter (C := cx gl) Tryz.func133 rfl 14 rfl rfl fun w0 h0 hsep hsub hpre => ?_
 obtain rfl : h0 = Heap.none := hsep
 show St (cx gl) _ [(0, .int .u64 t), (1, .int .u64 x)] _ _
 have hms : MS = 1152921504606846975 := rfl
 refine R_seq ?_
 refine R_region ?_
 refine L_val rfl rfl rfl (OpP.v (P_assign rfl rfl)) ?_
 refine L_nil ?_
 refine Q_then ?_
 refine R_seq ?_
 refine R_seq ?_
 refine R_region ?_
 refine L_val rfl rfl rfl (OpP.v (P_move rfl rfl)) ?_
 refine L_val rfl rfl rfl (OpP.v (P_gtr rfl rfl rfl)) ?_
 refine E_bool (t := 6) rfl (fun q1 => ?_) (fun q1 => ?_)
 ·skip
  have q1 := of_decide_eq_true q1
  refine L_val rfl rfl rfl (OpP.v (P_move rfl rfl)) ?_
  refine L_no rfl rfl rfl ?_
  refine L_no rfl rfl rfl ?_
  refine L_val rfl rfl rfl (OpP.v (P_pick rfl rfl rfl)) ?_
  refine L_nil ?_
  refine St.env (.cons (t := 0) rfl (.cons (t := 1) rfl (.cons (t := 4) rfl (.cons (t := 10) rfl .nil)))) ?_
  refine Q_then ?_
  refine R_condT rfl ?_
  refine R_seq ?_
  refine R_region ?_
  refine L_val rfl rfl rfl (OpP.v (P_assign rfl rfl)) ?_
  refine L_nil ?_
  refine St.env (.cons (t := 0) rfl (.cons (t := 1) rfl (.cons (t := 4) rfl .nil))) ?_
  refine Q_then ?_
  refine R_ret ?_
  refine Q_then_ret ?_
  exact R_endV rfl rfl (.tmp rfl .nil) (by unfold addC; rw [if_pos (by rw [hms]; omega)]; rfl)
 ·skip
  have q1 := of_decide_eq_false q1
  refine L_val rfl rfl rfl (OpP.v (P_move rfl rfl)) ?_
  refine L_val rfl rfl rfl (OpP.v (P_move rfl rfl)) ?_
  refine L_val rfl rfl rfl (OpP.v (P_gtr rfl rfl rfl)) ?_
  refine L_val rfl rfl rfl (OpP.v (P_pick rfl rfl rfl)) ?_
  refine L_nil ?_
  refine St.env (.cons (t := 0) rfl (.cons (t := 1) rfl (.cons (t := 4) rfl (.cons (t := 10) rfl .nil)))) ?_
  refine Q_then ?_
  refine R_condP rfl (fun q2 => ?_) (fun q2 => ?_)
  ·skip
   refine R_seq ?_
   refine R_region ?_
   refine L_val rfl rfl rfl (OpP.v (P_assign rfl rfl)) ?_
   refine L_nil ?_
   refine St.env (.cons (t := 0) rfl (.cons (t := 1) rfl (.cons (t := 4) rfl .nil))) ?_
   refine Q_then ?_
   refine R_ret ?_
   refine Q_then_ret ?_
   exact R_endV rfl rfl (.tmp rfl .nil) (by unfold addC; rw [if_pos (by rw [hms]; omega)]; rfl)
  ·skip
   refine R_skip ?_
   refine Q_then ?_
   refine R_seq ?_
   refine R_region ?_
   refine L_val rfl rfl rfl (OpP.v (P_move rfl rfl)) ?_
   refine L_val rfl rfl rfl (OpP.v (P_move rfl rfl)) ?_
   refine L_val rfl rfl rfl (OpP.v (P_addN rfl rfl rfl (by simp only [fits]; omega))) ?_
   refine L_val rfl rfl rfl (OpP.v (P_assign rfl rfl)) ?_
   refine L_nil ?_
   refine St.env (.cons (t := 4) rfl .nil) ?_
   refine Q_then ?_
   refine R_ret ?_
   exact R_endV rfl rfl (.tmp rfl .nil) (by unfold addC; rw [if_neg (by rw [hms]; omega)]; rfl)
theorem racc_ok {gl : Nat → Obj} (base : Option Addr) (c : Nat) (l : List Acc) (hc : l.length ≤ c) (hm : l.length ≤ 3518437208883) : SpecV (cx gl) 69 [.slice base l.length c] (fun w => Row w base (rc l)) (.int .i64 (raccE l)) := by
 refine Spec.enter (C := cx gl) Tryz.func69 rfl 49 rfl rfl fun w0 h0 hsep hsub hpre => ?_
 obtain rfl : h0 = Heap.none := hsep
 show St (cx gl) _ [(0, .slice base l.length c)] _ _
 have hms : MS = 1152921504606846975 := rfl
 refine R_seq ?_
 refine R_region ?_
 refine L_val rfl rfl rfl (OpP.v (P_assign rfl rfl)) ?_
 refine L_nil ?_
 refine Q_then ?_
 refine R_seq ?_
 refine R_seq ?_
 refine R_region ?_
 refine L_val rfl rfl rfl (OpP.v (P_move rfl rfl)) ?_
 refine L_val rfl rfl rfl (OpP.v (P_len rfl ty_sl_22 rfl)) ?_
 refine L_val rfl rfl rfl (OpP.v (P_gtr rfl rfl rfl)) ?_
 refine L_nil ?_
 refine St.env (.cons (t := 0) rfl (.cons (t := 2) rfl (.cons (t := 6) rfl .nil))) ?_
 refine Q_then ?_
 refine R_condP rfl (fun hbig => ?_) (fun hbig => ?_)
 ·skip
  refine R_seq ?_
  refine R_region ?_
  refine L_val rfl rfl rfl (OpP.v (P_assign rfl rfl)) ?_
  refine L_nil ?_
  refine St.env (.cons (t := 0) rfl (.cons (t := 2) rfl .nil)) ?_
  refine Q_then ?_
  refine R_ret ?_
  refine Q_then_ret ?_
  exact R_endV rfl rfl (.tmp rfl .nil) (by unfold raccE; rw [if_pos (by omega)]; rfl)
 ·skip
  have hbig : ¬ 65536 < l.length := by omega
  refine R_skip ?_
  refine Q_then ?_
  refine R_seq ?_
  refine R_seq ?_
  refine R_region ?_
  refine L_val rfl rfl rfl (OpP.v (P_assign rfl rfl)) ?_
  refine L_nil ?_
  refine St.env (.cons (t := 0) rfl (.cons (t := 2) rfl (.cons (t := 3) rfl .nil))) ?_
  refine Q_then ?_
  refine R_block ?_
  refine R_loopE (G := Nat) (.cons (t := 0) rfl (.cons (t := 2) rfl .nil)) (fun g => [(3, .int .i64 (g : Int))]) (fun _ => _) (fun g => g ≤ l.length ∧ firstE (accBad l) g = 0) (fun g => l.length - g) (0) (by show (0) ≤ l.length ∧ firstE (accBad l) (0) = 0; exact ⟨Nat.zero_le _, rfl⟩) (by repeat (first | exact .nil | refine .cons rfl ?_ | refine .consE rfl (by first | rfl | (congr 1; omega) | (congr 1; push_cast; omega)) ?_)) (Weak.refl _) ?_
  intro i hinv
  replace hinv : i ≤ l.length ∧ firstE (accBad l) i = 0 := hinv
  show St (cx gl) _ ((3, .int .i64 (i : Int)) :: _) _ _
  obtain ⟨hi, h0⟩ := hinv
  refine R_seq ?_
  refine R_seq ?_
  refine R_region ?_
  refine L_val rfl rfl rfl (OpP.v (P_move rfl rfl)) ?_
  refine L_val rfl rfl rfl (OpP.v (P_move rfl rfl)) ?_
  refine L_val rfl rfl rfl (OpP.v (P_len rfl ty_sl_22 rfl)) ?_
  refine L_val rfl rfl rfl (OpP.v (P_lss rfl rfl rfl)) ?_
  refine L_nil ?_
  refine Q_then ?_
  refine R_condP rfl (fun hlt => ?_) (fun hlt => ?_)
  ·skip
   have hx0 := accAt_get (l := l) (i := i) (by omega)
   obtain ⟨x, ex⟩ : ∃ x, x = accAt l i := ⟨_, rfl⟩
   have hx : l[i]? = some x := by rw [ex]; exact hx0
   obtain ⟨pb, pj, rfl, hrow⟩ := hpre.some_ (by rw [rc_length]; show 0 < _ * 5; omega)
   refine R_skip ?_
   refine Q_then ?_
   refine R_seq ?_
   refine R_block ?_
   refine R_seq ?_
   refine R_seq ?_
   refine R_region ?_
   refine L_val rfl rfl rfl (OpP.v (P_move rfl rfl)) ?_
   refine L_val rfl rfl rfl (OpP.v (P_move rfl rfl)) ?_
   refine L_val rfl rfl rfl (OpP.v (P_ixs (i) rfl ty_sl_22 rfl rfl (by first | rfl | omega) (by omega))) ?_
   refine L_val rfl rfl rfl (OpP.v (P_fld rfl ty_fl_38_0 rfl)) ?_
   refine L_val rfl rfl rfl (V_load rfl rfl ty_sc_27 (rd_rc (Rds.row hrow rfl) hx rfl)) ?_
   refine L_val rfl rfl rfl (OpP.v (P_eql rfl rfl rfl)) ?_
   refine L_nil ?_
   refine Q_then ?_
   refine R_condP rfl (fun ha => ?_) (fun ha => ?_)
   ·skip
    refine R_seq ?_
    refine R_region ?_
    refine L_val rfl rfl rfl (OpP.v (P_assign rfl rfl)) ?_
    refine L_nil ?_
    refine Q_then ?_
    refine R_ret ?_
    refine Q_then_ret ?_
    refine Q_block_ret ?_
    refine Q_then_ret ?_
    refine Q_then_ret ?_
    refine Q_block_ret ?_
    refine Q_then_ret ?_
    exact R_endV rfl rfl (.tmp rfl .nil) (by unfold raccE; rw [if_neg hbig, show accE l = 85 from firstE_hit h0 (show accBad l i = 85 by unfold accBad; rw [← ex]; rw [if_pos ha]) (by decide) (by omega)]; rfl)
   ·skip
    refine R_skip ?_
    refine Q_then ?_
    refine R_seq ?_
    refine R_seq ?_
    refine R_open [(0, 0), (1, 0), (2, 0), (3, 0), (4, 0), (5, 0), (6, 0), (7, 1), (8, 0), (9, 0), (10, 0), (11, 0), (12, 0), (13, 1), (14, 0), (15, 0)] mixed (by kernel_rfl) (QOk.then (QOk.then (QOk.block (QOk.then (QOk.then (QOk.block (QOk.then QOk.body))))))) ?_
    refine O_pure rfl rfl rfl rfl (P_move rfl rfl) ?_
    refine O_pure rfl rfl rfl rfl (P_gtr rfl rfl rfl) ?_
    refine E_bool (t := 20) rfl (fun hi0 => ?_) (fun hi0 => ?_)
    ·skip
     have hi0 : 0 < i := by have := of_decide_eq_true hi0; omega
     obtain ⟨y, ey⟩ : ∃ y, y = accAt l (i - 1) := ⟨_, rfl⟩
     have hy : l[i - 1]? = some y := by rw [ey]; exact accAt_get (by omega)
     refine O_pure rfl rfl rfl rfl (P_move rfl rfl) ?_
     refine O_pure rfl rfl rfl rfl (P_move rfl rfl) ?_
     refine O_pure rfl rfl rfl rfl (P_move rfl rfl) ?_
     refine O_pure rfl rfl rfl rfl (P_ixs (i) rfl ty_sl_22 rfl rfl (by first | rfl | omega) (by omega)) ?_
     refine O_pure rfl rfl rfl rfl (P_fld rfl ty_fl_38_0 rfl) ?_
     refine O_val rfl rfl rfl rfl (V_load rfl rfl ty_sc_27 (rd_rc (Rds.row hrow rfl) hx rfl)) ?_
     refine O_pure rfl rfl rfl rfl (P_move rfl rfl) ?_
     refine O_pure rfl rfl rfl rfl (P_move rfl rfl) ?_
     first | (refine O_pure rfl rfl rfl rfl (P_subN rfl rfl rfl (by simp only [fits]; omega)) ?_) | (refine O_pure rfl rfl rfl rfl (P_sub rfl rfl rfl) ?_)
     refine O_pure rfl rfl rfl rfl (P_ixs (i - 1) rfl ty_sl_22 rfl rfl (by first | rfl | omega) (by omega)) ?_
     refine O_pure rfl rfl rfl rfl (P_fld rfl ty_fl_38_0 rfl) ?_
     refine O_val rfl rfl rfl rfl (V_load rfl rfl ty_sc_27 (rd_rc (Rds.row hrow rfl) hy rfl)) ?_
     refine O_pure rfl rfl rfl rfl (P_leq rfl rfl rfl) ?_
     refine O_pure rfl rfl rfl rfl (P_pick rfl rfl rfl) ?_
     refine O_nil ?_
     refine Q_then ?_
     refine R_condP rfl (fun hle => ?_) (fun hle => ?_)
     ·skip
      refine R_seq ?_
      refine R_region ?_
      refine L_val rfl rfl rfl (OpP.v (P_assign rfl rfl)) ?_
      refine L_nil ?_
      refine Q_then ?_
      refine R_ret ?_
      refine Q_then_ret ?_
      refine Q_block_ret ?_
      refine Q_then_ret ?_
      refine Q_then_ret ?_
      refine Q_block_ret ?_
      refine Q_then_ret ?_
      exact R_endV rfl rfl (.tmp rfl .nil) (by unfold raccE; rw [if_neg hbig, show accE l = 42 from firstE_hit h0 (show accBad l i = 42 by unfold accBad; rw [← ex]; rw [if_neg ha, if_pos ⟨hi0, by rw [← ey]; exact hle⟩]) (by decide) (by omega)]; rfl)
     ·skip
      have hn42 : ¬ (0 < i ∧ x.a ≤ (accAt l (i - 1)).a) := by rw [← ey]; omega
      refine R_skip ?_
      refine Q_then ?_
      refine R_seq ?_
      refine R_region ?_
      refine L_val rfl rfl rfl (OpP.v (P_move rfl rfl)) ?_
      refine L_val rfl rfl rfl (OpP.v (P_move rfl rfl)) ?_
      refine L_val rfl rfl rfl (OpP.v (P_ixs (i) rfl ty_sl_22 rfl rfl (by first | rfl | omega) (by omega))) ?_
      refine L_val rfl rfl rfl (OpP.v (P_fld rfl ty_fl_38_1 rfl)) ?_
      refine L_val rfl rfl rfl (V_load rfl rfl ty_sc_24 (rd_rc (Rds.row hrow rfl) hx rfl)) ?_
      refine L_val rfl rfl rfl (OpP.v (P_gtr rfl rfl rfl)) ?_
      refine E_bool (t := 40) rfl (fun hb => ?_) (fun hb => ?_)
      ·skip
       have hb := of_decide_eq_true hb
       refine L_val rfl rfl rfl (OpP.v (P_move rfl rfl)) ?_
       refine L_no rfl rfl rfl ?_
       refine L_no rfl rfl rfl ?_
       refine L_no rfl rfl rfl ?_
       refine L_no rfl rfl rfl ?_
       refine L_no rfl rfl rfl ?_
       refine L_no rfl rfl rfl ?_
       refine L_val rfl rfl rfl (OpP.v (P_pick rfl rfl rfl)) ?_
       refine L_nil ?_
       refine Q_then ?_
       refine R_condT rfl ?_
       refine R_seq ?_
       refine R_region ?_
       refine L_val rfl rfl rfl (OpP.v (P_assign rfl rfl)) ?_
       refine L_nil ?_
       refine Q_then ?_
       refine R_ret ?_
       refine Q_block_ret ?_
       refine Q_then_ret ?_
       refine Q_then_ret ?_
       refine Q_block_ret ?_
       refine Q_then_ret ?_
       exact R_endV rfl rfl (.tmp rfl .nil) (by unfold raccE; rw [if_neg hbig, show accE l = 87 from firstE_hit h0 (show accBad l i = 87 by unfold accBad; rw [← ex]; rw [if_neg ha, if_neg hn42, if_pos (by rw [hms]; omega)]) (by decide) (by omega)]; rfl)
      ·skip
       have hb := of_decide_eq_false hb
       refine L_val rfl rfl rfl (OpP.v (P_move rfl rfl)) ?_
       refine L_val rfl rfl rfl (OpP.v (P_move rfl rfl)) ?_
       refine L_val rfl rfl rfl (OpP.v (P_move rfl rfl)) ?_
       refine L_val rfl rfl rfl (OpP.v (P_ixs (i) rfl ty_sl_22 rfl rfl (by first | rfl | omega) (by omega))) ?_
       refine L_val rfl rfl rfl (OpP.v (P_fld rfl ty_fl_38_2 rfl)) ?_
       refine L_val rfl rfl rfl (V_load rfl rfl ty_sc_24 (rd_rc (Rds.row hrow rfl) hx rfl)) ?_
       refine L_val rfl rfl rfl (OpP.v (P_gtr rfl rfl rfl)) ?_
       refine L_val rfl rfl rfl (OpP.v (P_pick rfl rfl rfl)) ?_
       refine L_nil ?_
       refine Q_then ?_
       refine R_condP rfl (fun hd => ?_) (fun hd => ?_)
       ·skip
        refine R_seq ?_
        refine R_region ?_
        refine L_val rfl rfl rfl (OpP.v (P_assign rfl rfl)) ?_
        refine L_nil ?_
        refine Q_then ?_
        refine R_ret ?_
        refine Q_block_ret ?_
        refine Q_then_ret ?_
        refine Q_then_ret ?_
        refine Q_block_ret ?_
        refine Q_then_ret ?_
        exact R_endV rfl rfl (.tmp rfl .nil) (by unfold raccE; rw [if_neg hbig, show accE l = 87 from firstE_hit h0 (show accBad l i = 87 by unfold accBad; rw [← ex]; rw [if_neg ha, if_neg hn42, if_pos (by rw [hms]; omega)]) (by decide) (by omega)]; rfl)
       ·skip
        refine R_skip ?_
        refine Q_block ?_
        refine Q_then ?_
        refine R_region ?_
        refine L_val rfl rfl rfl (OpP.v (P_move rfl rfl)) ?_
        first | (refine L_val rfl rfl rfl (OpP.v (P_addN rfl rfl rfl (by simp only [fits]; omega))) ?_) | (refine L_val rfl rfl rfl (OpP.v (P_add rfl rfl rfl)) ?_)
        refine L_val rfl rfl rfl (OpP.v (P_assign rfl rfl)) ?_
        refine L_nil ?_
        exact Q_round (i + 1) (by show (i + 1) ≤ l.length ∧ firstE (accBad l) (i + 1) = 0; exact ⟨by omega, firstE_next h0 (by unfold accBad; rw [← ex, if_neg ha, if_neg hn42, if_neg (by rw [hms]; omega)])⟩) (by show l.length - (i + 1) < l.length - i; omega) (by repeat (first | exact .nil | refine .cons rfl ?_ | refine .consE rfl (by first | rfl | (congr 1; omega) | (congr 1; push_cast; omega)) ?_)) (Weak.refl _)
    ·skip
     have hi0 : ¬ 0 < i := by have := of_decide_eq_false hi0; omega
     have hn42 : ¬ (0 < i ∧ x.a ≤ (accAt l (i - 1)).a) := by omega
     refine O_pure rfl rfl rfl rfl (P_move rfl rfl) ?_
     refine O_no rfl rfl rfl rfl ?_
     refine O_no rfl rfl rfl rfl ?_
     refine O_no rfl rfl rfl rfl ?_
     refine O_no rfl rfl rfl rfl ?_
     refine O_noX rfl rfl rfl rfl ?_
     refine O_no rfl rfl rfl rfl ?_
     refine O_no rfl rfl rfl rfl ?_
     refine O_no rfl rfl rfl rfl ?_
     refine O_no rfl rfl rfl rfl ?_
     refine O_no rfl rfl rfl rfl ?_
     refine O_noX rfl rfl rfl rfl ?_
     refine O_no rfl rfl rfl rfl ?_
     refine O_pure rfl rfl rfl rfl (P_pick rfl rfl rfl) ?_
     refine O_nil ?_
     refine Q_then ?_
     refine R_condF rfl ?_
     refine R_skip ?_
     refine Q_then ?_
     refine R_seq ?_
     refine R_region ?_
     refine L_val rfl rfl rfl (OpP.v (P_move rfl rfl)) ?_
     refine L_val rfl rfl rfl (OpP.v (P_move rfl rfl)) ?_
     refine L_val rfl rfl rfl (OpP.v (P_ixs (i) rfl ty_sl_22 rfl rfl (by first | rfl | omega) (by omega))) ?_
     refine L_val rfl rfl rfl (OpP.v (P_fld rfl ty_fl_38_1 rfl)) ?_
     refine L_val rfl rfl rfl (V_load rfl rfl ty_sc_24 (rd_rc (Rds.row hrow rfl) hx rfl)) ?_
     refine L_val rfl rfl rfl (OpP.v (P_gtr rfl rfl rfl)) ?_
     refine E_bool (t := 40) rfl (fun hb => ?_) (fun hb => ?_)
     ·skip
      have hb := of_decide_eq_true hb
      refine L_val rfl rfl rfl (OpP.v (P_move rfl rfl)) ?_
      refine L_no rfl rfl rfl ?_
      refine L_no rfl rfl rfl ?_
      refine L_no rfl rfl rfl ?_
      refine L_no rfl rfl rfl ?_
      refine L_no rfl rfl rfl ?_
      refine L_no rfl rfl rfl ?_
      refine L_val rfl rfl rfl (OpP.v (P_pick rfl rfl rfl)) ?_
      refine L_nil ?_
      refine Q_then ?_
      refine R_condT rfl ?_
      refine R_seq ?_
      refine R_region ?_
      refine L_val rfl rfl rfl (OpP.v (P_assign rfl rfl)) ?_
      refine L_nil ?_
      refine Q_then ?_
      refine R_ret ?_
      refine Q_block_ret ?_
      refine Q_then_ret ?_
      refine Q_then_ret ?_
      refine Q_block_ret ?_
      refine Q_then_ret ?_
      exact R_endV rfl rfl (.tmp rfl .nil) (by unfold raccE; rw [if_neg hbig, show accE l = 87 from firstE_hit h0 (show accBad l i = 87 by unfold accBad; rw [← ex]; rw [if_neg ha, if_neg hn42, if_pos (by rw [hms]; omega)]) (by decide) (by omega)]; rfl)
     ·skip
      have hb := of_decide_eq_false hb
      refine L_val rfl rfl rfl (OpP.v (P_move rfl rfl)) ?_
      refine L_val rfl rfl rfl (OpP.v (P_move rfl rfl)) ?_
      refine L_val rfl rfl rfl (OpP.v (P_move rfl rfl)) ?_
      refine L_val rfl rfl rfl (OpP.v (P_ixs (i) rfl ty_sl_22 rfl rfl (by first | rfl | omega) (by omega))) ?_
      refine L_val rfl rfl rfl (OpP.v (P_fld rfl ty_fl_38_2 rfl)) ?_
      refine L_val rfl rfl rfl (V_load rfl rfl ty_sc_24 (rd_rc (Rds.row hrow rfl) hx rfl)) ?_
      refine L_val rfl rfl rfl (OpP.v (P_gtr rfl rfl rfl)) ?_
      refine L_val rfl rfl rfl (OpP.v (P_pick rfl rfl rfl)) ?_
      refine L_nil ?_
      refine Q_then ?_
      refine R_condP rfl (fun hd => ?_) (fun hd => ?_)
      ·skip
       refine R_seq ?_
       refine R_region ?_
       refine L_val rfl rfl rfl (OpP.v (P_assign rfl rfl)) ?_
       refine L_nil ?_
       refine Q_then ?_
       refine R_ret ?_
       refine Q_block_ret ?_
       refine Q_then_ret ?_
       refine Q_then_ret ?_
       refine Q_block_ret ?_
       refine Q_then_ret ?_
       exact R_endV rfl rfl (.tmp rfl .nil) (by unfold raccE; rw [if_neg hbig, show accE l = 87 from firstE_hit h0 (show accBad l i = 87 by unfold accBad; rw [← ex]; rw [if_neg ha, if_neg hn42, if_pos (by rw [hms]; omega)]) (by decide) (by omega)]; rfl)
      ·skip
       refine R_skip ?_
       refine Q_block ?_
       refine Q_then ?_
       refine R_region ?_
       refine L_val rfl rfl rfl (OpP.v (P_move rfl rfl)) ?_
       first | (refine L_val rfl rfl rfl (OpP.v (P_addN rfl rfl rfl (by simp only [fits]; omega))) ?_) | (refine L_val rfl rfl rfl (OpP.v (P_add rfl rfl rfl)) ?_)
       refine L_val rfl rfl rfl (OpP.v (P_assign rfl rfl)) ?_
       refine L_nil ?_
       exact Q_round (i + 1) (by show (i + 1) ≤ l.length ∧ firstE (accBad l) (i + 1) = 0; exact ⟨by omega, firstE_next h0 (by unfold accBad; rw [← ex, if_neg ha, if_neg hn42, if_neg (by rw [hms]; omega)])⟩) (by show l.length - (i + 1) < l.length - i; omega) (by repeat (first | exact .nil | refine .cons rfl ?_ | refine .consE rfl (by first | rfl | (congr 1; omega) | (congr 1; push_cast; omega)) ?_)) (Weak.refl _)
  ·skip
   have hin : i = l.length := by omega
   rw [hin] at h0
   refine R_exit ?_
   refine Q_then_exit ?_
   refine Q_then_exit ?_
   refine Q_block_eq ?_
   refine St.env (.cons (t := 2) rfl .nil) ?_
   refine Q_then ?_
   refine R_seq ?_
   refine R_region ?_
   refine L_val rfl rfl rfl (OpP.v (P_assign rfl rfl)) ?_
   refine L_nil ?_
   refine Q_then ?_
   refine R_ret ?_
   exact R_endV rfl rfl (.tmp rfl .nil) (by unfold raccE; rw [if_neg hbig, show accE l = 0 from h0]; rfl)
theorem rtot_ok {gl : Nat → Obj} (base : Option Addr) (c : Nat) (l : List Acc) (hc : l.length ≤ c)(hm : l.length ≤ 3518437208883)(hok : ∀ x ∈ l, x.ok)(base' : Option Addr) (c' : Nat) (r : List Rel) (hc' : r.length ≤ c')(hm' : r.length ≤ 4398046511104) (hok' : ∀ x ∈ r, x.ok) (bu su : Int) (hbu : u64 bu) : SpecV (cx gl) 70 [.agg (ledV (.slice base l.length c) (.slice base' r.length c') bu su).toArray] (fun w => Row w base (rc l) ∧ Row w base' (rc r)) (.int .u64 (totC l r bu)) := by
 refine Spec.enter (C := cx gl) Tryz.func70 rfl 48 rfl rfl fun w0 h0 hsep hsub hpre => ?_
 obtain rfl : h0 = Heap.none := hsep
 show St (cx gl) _ [(0, .agg (ledV (.slice base l.length c) (.slice base' r.length c') bu su).toArray)] _ _
 refine R_seq ?_
 refine R_region ?_
 refine L_op rfl (W_box (ledV (.slice base l.length c) (.slice base' r.length c') bu su) rfl rfl rfl rfl rfl fun b1 => ?_)
 refine L_val rfl rfl rfl (OpP.v (P_assign rfl rfl)) ?_
 refine L_nil ?_
 refine St.env (.cons (t := 1) rfl (.cons (t := 2) rfl .nil)) ?_
 refine Q_then ?_
 refine R_seq ?_
 refine R_region ?_
 refine L_val rfl rfl rfl (OpP.v (P_fld0 rfl ty_fl_26_2 rfl)) ?_
 refine L_val rfl rfl rfl (V_load rfl rfl ty_sc_24 (Rd.blk .h0 rfl)) ?_
 refine L_op rfl (W_callV rfl rfl rfl rfl fn_ca_133 (radd_ok 0 bu (Int.le_refl _) hbu.1) (fun _ _ => trivial) ?_)
 refine L_val rfl rfl rfl (OpP.v (P_assign rfl rfl)) ?_
 refine L_nil ?_
 refine St.env (.cons (t := 1) rfl (.cons (t := 2) rfl (.cons (t := 3) rfl .nil))) ?_
 refine Q_then ?_
 refine R_seq ?_
 refine R_seq ?_
 refine R_region ?_
 refine L_val rfl rfl rfl (OpP.v (P_assign rfl rfl)) ?_
 refine L_nil ?_
 refine Q_then ?_
 refine R_block ?_
 have hn0 : 0 ≤ addC 0 bu := addC_nn (Int.le_refl _) hbu.1
 refine R_loopE (G := Nat) (.cons (t := 1) rfl (.cons (t := 2) rfl .nil)) (fun g => [(3, .int .u64 (capF (addC 0 bu) (sumL (l.take (g))))), (4, .int .i64 (g : Int))]) (fun _ => _) (fun g => g ≤ l.length) (fun g => l.length - g) (0) (Nat.zero_le _) (by repeat (first | exact .nil | refine .cons rfl ?_ | refine .consE rfl (by first | rfl | (congr 1; omega) | (congr 1; push_cast; omega)) ?_)) (Weak.refl _) ?_
 intro i hinv
 replace hinv : i ≤ l.length := hinv
 show St (cx gl) _ ((3, .int .u64 (capF (addC 0 bu) (sumL (l.take (i))))) :: (4, .int .i64 (i : Int)) :: _) _ _
 refine R_seq ?_
 refine R_seq ?_
 refine R_region ?_
 refine L_val rfl rfl rfl (OpP.v (P_move rfl rfl)) ?_
 refine L_val rfl rfl rfl (OpP.v (P_fld0 rfl ty_fl_26_0 rfl)) ?_
 refine L_val rfl rfl rfl (V_load rfl rfl ty_sc_22 (Rd.blk .h0 rfl)) ?_
 refine L_val rfl rfl rfl (OpP.v (P_len rfl ty_sl_22 rfl)) ?_
 refine L_val rfl rfl rfl (OpP.v (P_lss rfl rfl rfl)) ?_
 refine L_nil ?_
 refine Q_then ?_
 refine R_condP rfl (fun hlt => ?_) (fun hlt => ?_)
 ·skip
  have hi : i ≤ l.length := hinv
  have hx0 := accAt_get (l := l) (i := i) (by omega)
  obtain ⟨x, ex⟩ : ∃ x, x = accAt l i := ⟨_, rfl⟩
  have hx : l[i]? = some x := by rw [ex]; exact hx0
  obtain ⟨pb, pj, rfl, hrow⟩ := hpre.1.some_ (by rw [rc_length]; show 0 < _ * 5; omega)
  obtain ⟨ha1, hb1, hb2, hb3⟩ := hok x (List.mem_of_getElem? hx)
  have hn1 : 0 ≤ capF (addC 0 bu) (sumL (l.take (i))) := capF_nn _ _ (sumL_nn fun y hy => hok y (List.mem_of_mem_take hy)) hn0
  refine R_skip ?_
  refine Q_then ?_
  refine R_seq ?_
  refine R_block ?_
  refine R_seq ?_
  refine R_region ?_
  refine L_val rfl rfl rfl (OpP.v (P_move rfl rfl)) ?_
  refine L_val rfl rfl rfl (OpP.v (P_fld0 rfl ty_fl_26_0 rfl)) ?_
  refine L_val rfl rfl rfl (V_load rfl rfl ty_sc_22 (Rd.blk .h0 rfl)) ?_
  refine L_val rfl rfl rfl (OpP.v (P_move rfl rfl)) ?_
  refine L_val rfl rfl rfl (OpP.v (P_ixs (i) rfl ty_sl_22 rfl rfl (by first | rfl | omega) (by omega))) ?_
  refine L_val rfl rfl rfl (OpP.v (P_fld rfl ty_fl_38_1 rfl)) ?_
  refine L_val rfl rfl rfl (V_load rfl rfl ty_sc_24 (rd_rc (Rds.row hrow rfl) hx rfl)) ?_
  refine L_op rfl (W_callV rfl rfl rfl rfl fn_ca_133 (radd_ok (capF (addC 0 bu) (sumL (l.take (i)))) x.bal hn1 hb1.1) (fun _ _ => trivial) ?_)
  refine L_val rfl rfl rfl (OpP.v (P_assign rfl rfl)) ?_
  refine L_nil ?_
  refine Q_then ?_
  refine R_region ?_
  refine L_val rfl rfl rfl (OpP.v (P_move rfl rfl)) ?_
  refine L_val rfl rfl rfl (OpP.v (P_fld0 rfl ty_fl_26_0 rfl)) ?_
  refine L_val rfl rfl rfl (V_load rfl rfl ty_sc_22 (Rd.blk .h0 rfl)) ?_
  refine L_val rfl rfl rfl (OpP.v (P_move rfl rfl)) ?_
  refine L_val rfl rfl rfl (OpP.v (P_ixs (i) rfl ty_sl_22 rfl rfl (by first | rfl | omega) (by omega))) ?_
  refine L_val rfl rfl rfl (OpP.v (P_fld rfl ty_fl_38_2 rfl)) ?_
  refine L_val rfl rfl rfl (V_load rfl rfl ty_sc_24 (rd_rc (Rds.row hrow rfl) hx rfl)) ?_
  refine L_op rfl (W_callV rfl rfl rfl rfl fn_ca_133 (radd_ok (addC (capF (addC 0 bu) (sumL (l.take (i)))) x.bal) x.bond (addC_nn hn1 hb1.1) hb2.1) (fun _ _ => trivial) ?_)
  refine E_as (t := 31) (v' := .int .u64 (capF (addC 0 bu) (sumL (l.take (i + 1))))) rfl (by rw [sumL_snoc hx, capF_app]; rfl) ?_
  refine L_val rfl rfl rfl (OpP.v (P_assign rfl rfl)) ?_
  refine L_nil ?_
  refine Q_block ?_
  refine Q_then ?_
  refine R_region ?_
  refine L_val rfl rfl rfl (OpP.v (P_move rfl rfl)) ?_
  first | (refine L_val rfl rfl rfl (OpP.v (P_addN rfl rfl rfl (by simp only [fits]; omega))) ?_) | (refine L_val rfl rfl rfl (OpP.v (P_add rfl rfl rfl)) ?_)
  refine L_val rfl rfl rfl (OpP.v (P_assign rfl rfl)) ?_
  refine L_nil ?_
  exact Q_round (i + 1) (by show i + 1 ≤ l.length; omega) (by show l.length - (i + 1) < l.length - i; omega) (by repeat (first | exact .nil | refine .cons rfl ?_ | refine .consE rfl (by first | rfl | (congr 1; omega) | (congr 1; push_cast; omega)) ?_)) (Weak.refl _)
 ·skip
  have hi : i ≤ l.length := hinv
  have hin : i = l.length := by omega
  rw [hin, List.take_length]
  refine R_exit ?_
  refine Q_then_exit ?_
  refine Q_then_exit ?_
  refine Q_block_eq ?_
  refine St.env (.cons (t := 1) rfl (.cons (t := 2) rfl (.cons (t := 3) rfl .nil))) ?_
  refine Q_then ?_
  refine R_seq ?_
  refine R_seq ?_
  refine R_region ?_
  refine L_val rfl rfl rfl (OpP.v (P_assign rfl rfl)) ?_
  refine L_nil ?_
  refine Q_then ?_
  refine R_block ?_
  refine R_loopE (G := Nat) (.cons (t := 1) rfl (.cons (t := 2) rfl .nil)) (fun g => [(3, .int .u64 (capF (capF (addC 0 bu) (sumL l)) ((r.take (g)).map Rel.amt))), (5, .int .i64 (g : Int))]) (fun _ => _) (fun g => g ≤ r.length) (fun g => r.length - g) (0) (Nat.zero_le _) (by repeat (first | exact .nil | refine .cons rfl ?_ | refine .consE rfl (by first | rfl | (congr 1; omega) | (congr 1; push_cast; omega)) ?_)) (Weak.refl _) ?_
  intro i hinv
  replace hinv : i ≤ r.length := hinv
  show St (cx gl) _ ((3, .int .u64 (capF (capF (addC 0 bu) (sumL l)) ((r.take (i)).map Rel.amt))) :: (5, .int .i64 (i : Int)) :: _) _ _
  refine R_seq ?_
  refine R_seq ?_
  refine R_region ?_
  refine L_val rfl rfl rfl (OpP.v (P_move rfl rfl)) ?_
  refine L_val rfl rfl rfl (OpP.v (P_fld0 rfl ty_fl_26_1 rfl)) ?_
  refine L_val rfl rfl rfl (V_load rfl rfl ty_sc_23 (Rd.blk .h0 rfl)) ?_
  refine L_val rfl rfl rfl (OpP.v (P_len rfl ty_sl_23 rfl)) ?_
  refine L_val rfl rfl rfl (OpP.v (P_lss rfl rfl rfl)) ?_
  refine L_nil ?_
  refine Q_then ?_
  refine R_condP rfl (fun hlt => ?_) (fun hlt => ?_)
  ·skip
   have hi : i ≤ r.length := hinv
   have hx0 := relAt_get (l := r) (i := i) (by omega)
   obtain ⟨x, ex⟩ : ∃ x, x = relAt r i := ⟨_, rfl⟩
   have hx : r[i]? = some x := by rw [ex]; exact hx0
   obtain ⟨pb, pj, rfl, hrow⟩ := hpre.2.some_ (by rw [rc_length]; show 0 < _ * 4; omega)
   obtain ⟨ha1, hb1, hb2, hb3⟩ := hok' x (List.mem_of_getElem? hx)
   have hn2 : 0 ≤ capF (capF (addC 0 bu) (sumL l)) ((r.take (i)).map Rel.amt) := capF_nn _ _ (amts_nn fun y hy => hok' y (List.mem_of_mem_take hy)) (capF_nn _ _ (sumL_nn hok) hn0)
   refine R_skip ?_
   refine Q_then ?_
   refine R_seq ?_
   refine R_block ?_
   refine R_region ?_
   refine L_val rfl rfl rfl (OpP.v (P_move rfl rfl)) ?_
   refine L_val rfl rfl rfl (OpP.v (P_fld0 rfl ty_fl_26_1 rfl)) ?_
   refine L_val rfl rfl rfl (V_load rfl rfl ty_sc_23 (Rd.blk .h0 rfl)) ?_
   refine L_val rfl rfl rfl (OpP.v (P_move rfl rfl)) ?_
   refine L_val rfl rfl rfl (OpP.v (P_ixs (i) rfl ty_sl_23 rfl rfl (by first | rfl | omega) (by omega))) ?_
   refine L_val rfl rfl rfl (OpP.v (P_fld rfl ty_fl_135_3 rfl)) ?_
   refine L_val rfl rfl rfl (V_load rfl rfl ty_sc_24 (rd_rc (Rds.row hrow rfl) hx rfl)) ?_
   refine L_op rfl (W_callV rfl rfl rfl rfl fn_ca_133 (radd_ok (capF (capF (addC 0 bu) (sumL l)) ((r.take (i)).map Rel.amt)) x.amt hn2 hb3.1) (fun _ _ => trivial) ?_)
   refine E_as (t := 46) (v' := .int .u64 (capF (capF (addC 0 bu) (sumL l)) ((r.take (i + 1)).map Rel.amt))) rfl (by rw [amts_snoc hx, capF_app]; rfl) ?_
   refine L_val rfl rfl rfl (OpP.v (P_assign rfl rfl)) ?_
   refine L_nil ?_
   refine Q_block ?_
   refine Q_then ?_
   refine R_region ?_
   refine L_val rfl rfl rfl (OpP.v (P_move rfl rfl)) ?_
   first | (refine L_val rfl rfl rfl (OpP.v (P_addN rfl rfl rfl (by simp only [fits]; omega))) ?_) | (refine L_val rfl rfl rfl (OpP.v (P_add rfl rfl rfl)) ?_)
   refine L_val rfl rfl rfl (OpP.v (P_assign rfl rfl)) ?_
   refine L_nil ?_
   exact Q_round (i + 1) (by show i + 1 ≤ r.length; omega) (by show r.length - (i + 1) < r.length - i; omega) (by repeat (first | exact .nil | refine .cons rfl ?_ | refine .consE rfl (by first | rfl | (congr 1; omega) | (congr 1; push_cast; omega)) ?_)) (Weak.refl _)
  ·skip
   have hi : i ≤ r.length := hinv
   have hin : i = r.length := by omega
   rw [hin, List.take_length]
   refine R_exit ?_
   refine Q_then_exit ?_
   refine Q_then_exit ?_
   refine Q_block_eq ?_
   refine St.env (.cons (t := 2) rfl (.cons (t := 3) rfl .nil)) ?_
   refine Q_then ?_
   refine R_seq ?_
   refine R_region ?_
   refine L_val rfl rfl rfl (OpP.v (P_move rfl rfl)) ?_
   refine L_val rfl rfl rfl (OpP.v (P_assign rfl rfl)) ?_
   refine L_nil ?_
   refine St.env (.cons (t := 2) rfl .nil) ?_
   refine Q_then ?_
   refine R_ret ?_
   exact R_endV rfl rfl (.tmp rfl .nil) (rfl)
theorem lfind_ok {gl : Nat → Obj} (base : Option Addr) (c : Nat) (l : List Acc) (hc : l.length ≤ c)(hm : l.length ≤ 3518437208883) (r : Value) (hr : r.oneCell' = true) (bu su a : Int) : SpecV (cx gl) 42 [.agg (ledV (.slice base l.length c) r bu su).toArray, .int .u64 a] (fun w => Row w base (rc l)) (.agg (findA l a).cells.toArray) := by
 refine Spec.enter (C := cx gl) Tryz.func42 rfl 27 rfl rfl fun w0 h0 hsep hsub hpre => ?_
 obtain rfl : h0 = Heap.none := hsep
 show St (cx gl) _ [(0, .agg (ledV (.slice base l.length c) r bu su).toArray), (1, .int .u64 a)] _ _
 refine R_seq ?_
 refine R_region ?_
 refine L_op rfl (W_box (ledV (.slice base l.length c) r bu su) rfl rfl rfl rfl rfl fun b2 => ?_)
 refine L_op rfl (W_alloc rfl rfl rfl ty_ze_38 fun b4 => ?_)
 refine L_nil ?_
 refine St.env (.cons (t := 1) rfl (.cons (t := 2) rfl (.cons (t := 4) rfl .nil))) ?_
 refine Q_then ?_
 refine R_seq ?_
 refine R_seq ?_
 refine R_region ?_
 refine L_val rfl rfl rfl (OpP.v (P_assign rfl rfl)) ?_
 refine L_nil ?_
 refine Q_then ?_
 refine R_block ?_
 refine R_loopE (G := Nat) (.cons (t := 1) rfl (.cons (t := 2) rfl (.cons (t := 4) rfl .nil))) (fun g => [(5, .int .i64 (g : Int))]) (fun _ => _) (fun g => g ≤ l.length ∧ ∀ j m', j < g → l[j]? = some m' → isAc a m' = false) (fun g => l.length - g) (0) (by show (0) ≤ l.length ∧ ∀ j m', j < (0) → l[j]? = some m' → isAc a m' = false; exact ⟨Nat.zero_le _, fun j _ h => by omega⟩) (by repeat (first | exact .nil | refine .cons rfl ?_ | refine .consE rfl (by first | rfl | (congr 1; omega) | (congr 1; push_cast; omega)) ?_)) (Weak.refl _) ?_
 intro i hinv
 replace hinv : i ≤ l.length ∧ ∀ j m', j < i → l[j]? = some m' → isAc a m' = false := hinv
 show St (cx gl) _ ((5, .int .i64 (i : Int)) :: _) _ _
 obtain ⟨hi, h0⟩ := hinv
 refine R_seq ?_
 refine R_seq ?_
 refine R_region ?_
 refine L_val rfl rfl rfl (OpP.v (P_move rfl rfl)) ?_
 refine L_val rfl rfl rfl (OpP.v (P_fld0 rfl ty_fl_26_0 rfl)) ?_
 refine L_val rfl rfl rfl (V_load rfl rfl ty_sc_22 (Rd.blk .h1 rfl)) ?_
 refine L_val rfl rfl rfl (OpP.v (P_len rfl ty_sl_22 rfl)) ?_
 refine L_val rfl rfl rfl (OpP.v (P_lss rfl rfl rfl)) ?_
 refine L_nil ?_
 refine Q_then ?_
 refine R_condP rfl (fun hlt => ?_) (fun hlt => ?_)
 ·skip
  have hx0 := accAt_get (l := l) (i := i) (by omega)
  obtain ⟨x, ex⟩ : ∃ x, x = accAt l i := ⟨_, rfl⟩
  have hx : l[i]? = some x := by rw [ex]; exact hx0
  obtain ⟨pb, pj, rfl, hrow⟩ := hpre.some_ (by rw [rc_length]; show 0 < _ * 5; omega)
  refine R_skip ?_
  refine Q_then ?_
  refine R_seq ?_
  refine R_block ?_
  refine R_seq ?_
  refine R_region ?_
  refine L_val rfl rfl rfl (OpP.v (P_fld0 rfl ty_fl_26_0 rfl)) ?_
  refine L_val rfl rfl rfl (V_load rfl rfl ty_sc_22 (Rd.blk .h1 rfl)) ?_
  refine L_val rfl rfl rfl (OpP.v (P_move rfl rfl)) ?_
  refine L_val rfl rfl rfl (OpP.v (P_ixs (i) rfl ty_sl_22 rfl rfl (by first | rfl | omega) (by omega))) ?_
  refine L_val rfl rfl rfl (OpP.v (P_fld rfl ty_fl_38_0 rfl)) ?_
  refine L_val rfl rfl rfl (V_load rfl rfl ty_sc_27 (rd_rc (Rds.row hrow rfl) hx rfl)) ?_
  refine L_val rfl rfl rfl (OpP.v (P_move rfl rfl)) ?_
  refine L_val rfl rfl rfl (OpP.v (P_eql rfl rfl rfl)) ?_
  refine L_nil ?_
  refine Q_then ?_
  refine R_condP rfl (fun e1 => ?_) (fun e1 => ?_)
  ·skip
   have hpx : isAc a x = true := decide_eq_true e1
   refine R_seq ?_
   refine R_region ?_
   refine L_val rfl rfl rfl (OpP.v (P_fld0 rfl ty_fl_26_0 rfl)) ?_
   refine L_val rfl rfl rfl (V_load rfl rfl ty_sc_22 (Rd.blk .h1 rfl)) ?_
   refine L_val rfl rfl rfl (OpP.v (P_move rfl rfl)) ?_
   refine L_val rfl rfl rfl (OpP.v (P_ixs (i) rfl ty_sl_22 rfl rfl (by first | rfl | omega) (by omega))) ?_
   refine L_val rfl rfl rfl (V_loadAgg rfl rfl ty_ag_38 (rds_rc (Rds.row hrow rfl) hx) (rfl)) ?_
   refine L_op rfl (W_storeAll rfl rfl rfl rfl ty_ag_38 (rfl) (Rec.one x) .h0 (rfl) ?_)
   refine L_nil ?_
   refine Q_then ?_
   refine R_ret ?_
   refine Q_block_ret ?_
   refine Q_then_ret ?_
   refine Q_then_ret ?_
   refine Q_block_ret ?_
   refine Q_then_ret ?_
   exact R_endV rfl rfl (.cell rfl (Rds.loadVar ty_ag_38 (Rds.blk .h0) rfl) .nil) (by rw [findA_at (idxG_hit h0 hx hpx), ← ex]; rfl)
  ·skip
   have hpx : isAc a x = false := decide_eq_false e1
   refine R_skip ?_
   refine Q_block ?_
   refine Q_then ?_
   refine R_region ?_
   refine L_val rfl rfl rfl (OpP.v (P_move rfl rfl)) ?_
   first | (refine L_val rfl rfl rfl (OpP.v (P_addN rfl rfl rfl (by simp only [fits]; omega))) ?_) | (refine L_val rfl rfl rfl (OpP.v (P_add rfl rfl rfl)) ?_)
   refine L_val rfl rfl rfl (OpP.v (P_assign rfl rfl)) ?_
   refine L_nil ?_
   exact Q_round (i + 1) (by show (i + 1) ≤ l.length ∧ ∀ j m', j < (i + 1) → l[j]? = some m' → isAc a m' = false; exact ⟨by omega, no_next h0 hx hpx⟩) (by show l.length - (i + 1) < l.length - i; omega) (by repeat (first | exact .nil | refine .cons rfl ?_ | refine .consE rfl (by first | rfl | (congr 1; omega) | (congr 1; push_cast; omega)) ?_)) (Weak.refl _)
 ·skip
  have hin : i = l.length := by omega
  rw [hin] at h0
  refine R_exit ?_
  refine Q_then_exit ?_
  refine Q_then_exit ?_
  refine Q_block_eq ?_
  refine St.env (.cons (t := 4) rfl .nil) ?_
  refine Q_then ?_
  refine R_seq ?_
  refine R_region ?_
  refine L_val rfl rfl rfl (OpP.v (P_buildStruct rfl ty_pl_38 ty_ze_38 rfl rfl (rfl))) ?_
  refine L_op rfl (W_storeAll rfl rfl rfl rfl ty_ag_38 (rfl) (Rec.one acc0) .h0 (rfl) ?_)
  refine L_nil ?_
  refine St.env (.cons (t := 4) rfl .nil) ?_
  refine Q_then ?_
  refine R_ret ?_
  exact R_endV rfl rfl (.cell rfl (Rds.loadVar ty_ag_38 (Rds.blk .h0) rfl) .nil) (by rw [findA_no (idxG_none h0)]; rfl)
end Go.Proofs.YtfhjhaogmdaepaaGreatDoor

/- Plain: turning, with the rows. Printed by gen.py. -/
set_option linter.unusedVariables false
set_option linter.unusedSimpArgs false
set_option maxRecDepth 100000
namespace Go.Proofs.YtfhjhaogmdaepaaGreatDoor
open Go Go.RowKit Go.Proofs
theorem relP_nil (H a b n : Int) : relP [] H a b n = [⟨H, a, b, w64 (0 + n)⟩] := by
 have h1 : rowI [] H a = 0 := by unfold rowI; exact bsN_end (by simp)
 have h2 : rowB [] H a = false := by unfold rowB; rw [h1]; rfl
 unfold relP; rw [midR_no h2, h1]; rfl
theorem cmpI_self (x : Int) : cmpI x x = 0 := by unfold cmpI; rw [if_neg (by omega), if_neg (by omega)]
theorem laterI_same (H a b n a' : Int) : laterI ⟨H, a, b, n⟩ (rowK H a') = cmpI a a' := by
 show orI (cmpI H H) (cmpI a a') = _
 rw [cmpI_self]; rfl
theorem relP_one {H a b n a' b' n' : Int} (hn : a ≠ a') : relP [⟨H, a, b, n⟩] H a' b' n' = if a < a' then [⟨H, a, b, n⟩, ⟨H, a', b', w64 (0 + n')⟩] else [⟨H, a', b', w64 (0 + n')⟩, ⟨H, a, b, n⟩] := by
 have h0 : laterI (relAt [⟨H, a, b, n⟩] 0) (rowK H a') = cmpI a a' := laterI_same H a b n a'
 by_cases hl : a < a'
 ·have hc : cmpI a a' = -1 := by unfold cmpI; rw [if_pos hl]
  have h1 : rowI [⟨H, a, b, n⟩] H a' = 1 := by
   unfold rowI
   exact (bsN_up (p := fun i => decide (laterI (relAt [⟨H, a, b, n⟩] i) (rowK H a') < 0)) (lo := 0) (hi := 1) (by decide) (by show decide (laterI (relAt [⟨H, a, b, n⟩] 0) (rowK H a') < 0) = true; rw [h0, hc]; rfl)).trans (bsN_end (by decide))
  have h2 : rowB [⟨H, a, b, n⟩] H a' = false := by unfold rowB; rw [h1]; rfl
  unfold relP; rw [midR_no h2, h1, if_pos hl]; rfl
 ·have hc : cmpI a a' = 1 := by unfold cmpI; rw [if_neg hl, if_pos (by omega)]
  have h1 : rowI [⟨H, a, b, n⟩] H a' = 0 := by
   unfold rowI
   exact (bsN_down (p := fun i => decide (laterI (relAt [⟨H, a, b, n⟩] i) (rowK H a') < 0)) (lo := 0) (hi := 1) (by decide) (by show decide (laterI (relAt [⟨H, a, b, n⟩] 0) (rowK H a') < 0) = false; rw [h0, hc]; rfl)).trans (bsN_end (by decide))
  have h2 : rowB [⟨H, a, b, n⟩] H a' = false := by unfold rowB; rw [h1, h0, hc]; rfl
  unfold relP; rw [midR_no h2, h1, if_neg hl]; rfl
theorem relP_turn (H b n n' : Int) {a a' : Int} (hn : a ≠ a') : relP (relP [] H a b n) H a' b n' = relP (relP [] H a' b n') H a b n := by
 rw [relP_nil, relP_nil, relP_one hn, relP_one (Ne.symm hn)]
 by_cases hl : a < a'
 ·rw [if_pos hl, if_neg (by omega)]
 ·rw [if_neg hl, if_pos (by omega)]
/-- Two transactions of unlike senders, taken in both orders. -/
theorem app_turns {rc : List Rcd} {ch : List Int} {l : List Acc} {su : Int} {p : Par} {h b : Int} {x y : Tx} (hu : Up l) (hok : ∀ z ∈ l, z.ok) (hx : x.ok) (hy : y.ok) (hbu : u64 b) (hb : ∃ z ∈ l, z.a = b) (hn : x.frm ≠ y.frm)
  (c1 : chkE rc ch ⟨l, [], 0, su⟩ p h x = 0) (c2 : chkE rc ch ⟨l, [], 0, su⟩ p h y = 0) (c3 : chkE rc ch (appP ⟨l, [], 0, su⟩ p h b x) p h y = 0) (c4 : chkE rc ch (appP ⟨l, [], 0, su⟩ p h b y) p h x = 0) : appP (appP ⟨l, [], 0, su⟩ p h b x) p h b y = appP (appP ⟨l, [], 0, su⟩ p h b y) p h b x := by
 have e1 := appP_eq hu hok hx (chkFine_of c1) hb
 have e2 := appP_eq hu hok hy (chkFine_of c2) hb
 rw [e1] at c3 ⊢
 rw [e2] at c4 ⊢
 rw [appP_eq (stepK_up hu x b) (stepK_ok hok hx hbu) hy (chkFine_of c3) (stepK_has hb), appP_eq (stepK_up hu y b) (stepK_ok hok hy hbu) hx (chkFine_of c4) (stepK_has hb)]
 have er : relK ⟨stepK l x b, relK ⟨l, [], 0, su⟩ p h x, 0, su⟩ p h y = relK ⟨stepK l y b, relK ⟨l, [], 0, su⟩ p h y, 0, su⟩ p h x := by
  unfold relK
  by_cases k1 : x.kind = 3 <;> by_cases k2 : y.kind = 3 <;> simp only [k1, k2, if_true, if_false]
  exact relP_turn _ _ _ _ hn
 show (⟨stepK (stepK l x b) y b, _, 0, su⟩ : Led) = ⟨stepK (stepK l y b) x b, _, 0, su⟩
 rw [stepK_turn l hn b]
 exact congrArg (fun r => (⟨_, r, 0, su⟩ : Led)) er
structure AppFacts (l : List Acc) (b : Int) (M : Led) : Prop where
 ok : ∀ z ∈ M.acc, z.ok
 ok' : ∀ z ∈ M.rel, z.ok
 few : M.acc.length ≤ l.length + 1
 few' : M.rel.length ≤ 1
 burnt : M.burnt = 0
theorem app_facts {rc : List Rcd} {ch : List Int} {l : List Acc} {su : Int} {p : Par} {h b : Int} {x : Tx} (hu : Up l) (hok : ∀ z ∈ l, z.ok) (hx : x.ok) (hbu : u64 b) (hb : ∃ z ∈ l, z.a = b) (hh : u64 h) (hp3 : u64 p.p3)
  (c : chkE rc ch ⟨l, [], 0, su⟩ p h x = 0) : AppFacts l b (appP ⟨l, [], 0, su⟩ p h b x) := by
 have hC := chkFine_of c
 have e := appP_eq hu hok hx hC hb
 have ha := accK_le ⟨l, [], 0, su⟩ x
 have hl : (appP ⟨l, [], 0, su⟩ p h b x).acc.length = (accK ⟨l, [], 0, su⟩ x).length := by unfold appP; split <;> simp
 refine ⟨by rw [e]; exact stepK_ok hok hx hbu, fun z hz => ?_, by rw [hl]; exact ha, by rw [e]; exact relK_le ⟨l, [], 0, su⟩ p h x, by rw [e]⟩
 rw [e] at hz
 have ht := hC.time
 unfold timeB at ht
 obtain ⟨q1, q2⟩ := hp3
 obtain ⟨q3, q4⟩ := hh
 have hz : z ∈ relK ⟨l, [], 0, su⟩ p h x := hz
 unfold relK at hz
 split at hz
 ·rw [show relP (Led.rel ⟨l, [], 0, su⟩) (h + p.p3) x.frm h x.amt = _ from relP_nil .., List.mem_singleton] at hz
  subst hz
  exact ⟨⟨by show 0 ≤ h + p.p3; omega, by show h + p.p3 ≤ _; omega⟩, hx.frm, ⟨q3, q4⟩, w64_ok _⟩
 ·cases hz
theorem app_len (L : Led) (p : Par) (h b : Int) (x : Tx) : (appP L p h b x).acc.length ≤ L.acc.length + 1 ∧ (appP L p h b x).rel.length ≤ L.rel.length + 1 := by
 have h1 := accK_le L x
 have h2 := relK_le L p h x
 unfold appP
 split
 ·exact ⟨by show (List.set _ _ _).length ≤ _; rw [List.length_set]; exact h1, h2⟩
 ·exact ⟨h1, h2⟩
theorem appL_zero {rc : List Rcd} {ch : List Int} {L : Led} {p : Par} {h b : Int} {x : Tx} (c : chkE rc ch L p h x = 0) : appL rc ch L p h b x = appP L p h b x := if_pos c
theorem find_has {l : List Acc} {b : Int} (h : (findA l b).a ≠ 0) : ∃ z ∈ l, z.a = b := by
 rcases idxG_cases (isAc b) l with h1 | ⟨i, hi, e⟩
 ·rw [findA_no h1] at h; exact absurd rfl h
 ·have := findA_at e
  unfold idxG at e
  split at e
  ·rename_i j hj
   obtain ⟨hj1, hj2, _⟩ := List.findIdx?_eq_some_iff_getElem.1 hj
   refine ⟨_, List.getElem_mem hj1, ?_⟩
   exact of_decide_eq_true hj2
  ·omega
end Go.Proofs.YtfhjhaogmdaepaaGreatDoor

/- alive. Printed by gen.py. -/
set_option linter.unusedVariables false
set_option linter.unusedSimpArgs false
set_option maxRecDepth 100000
namespace Go.Proofs.YtfhjhaogmdaepaaGreatDoor
open Go Go.RowKit Go.Proofs
def al8 : List Acc := [⟨1, 100, 0, 0, false⟩, ⟨2, 0, 50, 7, false⟩]
def par8 : Par := ⟨10, 2, 0, 0, 0, 0, 0, 0, 0, 0, 0, 0⟩
theorem al8_e : newE al8 = 0 := by decide
theorem al8_new : newL8 al8 = ⟨al8, [], 0, 150⟩ := newL8_fine al8_e
theorem al8_fine : AccFine al8 := accFine_of (by decide)
theorem al8_ok : ∀ x ∈ al8, x.ok := by
 intro x hx
 simp only [al8, List.mem_cons, List.not_mem_nil, or_false] at hx
 rcases hx with rfl | rfl <;> exact ⟨⟨by decide, by decide⟩, ⟨by decide, by decide⟩, ⟨by decide, by decide⟩, ⟨by decide, by decide⟩⟩
theorem al8_cand : candM 10 al8 = [⟨2, 50, 0⟩] := by rfl
theorem al8_seats : SeatsOf 10 2 al8 [⟨2, 50, 0⟩] := by
 refine ⟨List.pairwise_singleton _ _, fun x hx => by rw [al8_cand]; exact hx, by rw [al8_cand]; rfl, fun x _ y hy hn => ?_⟩
 rw [al8_cand] at hy; exact absurd hy hn
theorem al8_find : findV al8 2 = .tuple #[.agg (⟨2, 0, 50, 7, false⟩ : Acc).cells.toArray, .int .i64 0] := by
 have h : idxG (isAc 2) al8 = 1 := by decide
 have h2 : ¬ (idxG (isAc 2) al8 < 0 ∨ (2 : Int) = 0) := by rw [h]; decide
 unfold findV findX findE
 rw [if_neg h2, if_neg h2, h]; rfl
theorem alive8 {gl : Nat → Obj} : SpecV (cx gl) 9 [] noPre (.bool true) := by
 refine Spec.enter (C := cx gl) Tryz.func9 rfl 62 rfl rfl fun w0 h0 hsep hsub hpre => ?_
 obtain rfl : h0 = Heap.none := hsep
 show St (cx gl) _ [] _ _
 refine R_seq ?_
 refine R_region ?_
 refine L_val rfl rfl rfl (OpP.v (P_assign rfl rfl)) ?_
 refine L_nil ?_
 refine Q_then ?_
 refine R_seq ?_
 refine R_region ?_
 refine L_val rfl rfl rfl (OpP.v (P_buildStruct rfl ty_pl_38 ty_ze_38 rfl rfl (rfl))) ?_
 refine L_val rfl rfl rfl (OpP.v (P_buildStruct rfl ty_pl_38 ty_ze_38 rfl rfl (rfl))) ?_
 refine L_op rfl (W_lit (z := .nilIface) (rc al8) rfl rfl rfl ty_sl_22 ty_lz_22 rfl rfl rfl (by decide) (by decide) (by intro v hv; simp only [List.mem_cons, List.not_mem_nil, or_false] at hv; rcases hv with rfl | rfl <;> rfl) (rfl) fun b9 => ?_)
 refine L_op rfl (W_call rfl rfl rfl rfl fn_ca_26 (lnew_ok (some ⟨b9, 0, none⟩) 2 al8 (Nat.le_refl 2) (by decide) al8_ok) (Split.nil _) (fun w a b _ hb dj m => (Sn.ofBlk .h0).rw_ w ⟨_, hb, m.le (Heap.le_join_right dj)⟩) fun v10 rs1 ⟨u, z1, z2⟩ => ?_)
 rw [al8_new] at z1 z2
 subst z1; subst z2
 refine St.ownForm (p := []) fun ub uc huv huc => ?_
 subst huv
 refine St.res (rs' := [ownS 38 5 (.slice ub 2 uc) (2) (rc al8), blk b9 (rc al8) 38]) (Weak.refl _) ?_
 refine E_as (t := 10) (v' := .tuple #[.agg (ledV (.slice ub 2 uc) (.slice none 0 0) 0 150).toArray, .int .i64 0]) rfl (by rw [al8_e]; rfl) ?_
 refine L_val rfl rfl rfl (OpP.v (P_move rfl rfl)) ?_
 refine L_val rfl rfl rfl (OpP.v (P_extract rfl rfl rfl)) ?_
 refine L_val rfl rfl rfl (OpP.v (P_extract rfl rfl rfl)) ?_
 refine L_op rfl (W_alloc rfl rfl rfl ty_ze_26 fun b1 => ?_)
 refine L_op rfl (W_storeAll rfl rfl rfl rfl ty_ag_26 (rfl) (ledV_one _ _ _ _ rfl rfl) .h0 (rfl) ?_)
 refine L_val rfl rfl rfl (OpP.v (P_assign rfl rfl)) ?_
 refine L_nil ?_
 refine St.env (.cons (t := 0) rfl (.cons (t := 1) rfl (.cons (t := 2) rfl .nil))) ?_
 refine Q_then ?_
 refine R_seq ?_
 refine R_region ?_
 refine L_val rfl rfl rfl (V_loadAgg rfl rfl ty_ag_26 (Rds.blk .h0) (rfl)) ?_
 refine L_val rfl rfl rfl (OpP.v (P_buildStruct rfl ty_pl_62 ty_ze_62 rfl rfl (rfl))) ?_
 refine L_op rfl (W_call rfl rfl rfl rfl fn_ca_31 (seats_ok ub uc al8 huc (by decide) al8_fine (.slice none 0 0) rfl 0 150 par8) (Split.nil _) (fun w a b _ hb dj m => (Sn.own .h1 rfl).rw_ w ⟨_, hb, m.le (Heap.le_join_right dj)⟩) fun v15 rs1 ⟨R, sb0, sc, z1, hR, z2⟩ => ?_)
 obtain rfl := hR.uniq al8_seats
 subst z1; subst z2
 refine St.ownSome (p := []) (by decide) fun sb sc' hsv hsc => ?_
 obtain rfl : sb0 = some ⟨sb, 0, none⟩ := by simp only [Value.slice.injEq] at hsv; exact hsv.1
 refine St.res (rs' := [ownS 76 3 (.slice (some ⟨sb, 0, none⟩) 1 sc) (1) (rc [(⟨2, 50, 0⟩ : Mem)]), blk b1 (ledV (.slice ub 2 uc) (.slice none 0 0) 0 150) 26, ownS 38 5 (.slice ub 2 uc) (2) (rc al8), blk b9 (rc al8) 38]) (Weak.refl _) ?_
 refine E_as (t := 15) (v' := .slice (some ⟨sb, 0, none⟩) 1 sc) rfl (rfl) ?_
 refine L_val rfl rfl rfl (OpP.v (P_assign rfl rfl)) ?_
 refine L_nil ?_
 refine St.env (.cons (t := 0) rfl (.cons (t := 1) rfl (.cons (t := 2) rfl (.cons (t := 3) rfl .nil)))) ?_
 refine Q_then ?_
 refine R_seq ?_
 refine R_region ?_
 refine L_val rfl rfl rfl (V_loadAgg rfl rfl ty_ag_26 (Rds.blk .h1) (rfl)) ?_
 refine L_op rfl (W_callV rfl rfl rfl rfl fn_ca_50 (find_ok ub uc al8 huc (by decide) (.slice none 0 0) rfl 0 150 2) (fun w nw => (Sn.own .h2 rfl).rw_ w nw) ?_)
 rw [al8_find]
 refine L_val rfl rfl rfl (OpP.v (P_move rfl rfl)) ?_
 refine L_val rfl rfl rfl (OpP.v (P_extract rfl rfl rfl)) ?_
 refine L_val rfl rfl rfl (OpP.v (P_extract rfl rfl rfl)) ?_
 refine L_op rfl (W_alloc rfl rfl rfl ty_ze_38 fun b4 => ?_)
 refine L_op rfl (W_storeAll rfl rfl rfl rfl ty_ag_38 (rfl) (Rec.one (⟨2, 0, 50, 7, false⟩ : Acc)) .h0 (rfl) ?_)
 refine L_val rfl rfl rfl (OpP.v (P_assign rfl rfl)) ?_
 refine L_nil ?_
 refine St.env (.cons (t := 0) rfl (.cons (t := 1) rfl (.cons (t := 2) rfl (.cons (t := 3) rfl (.cons (t := 4) rfl (.cons (t := 5) rfl .nil)))))) ?_
 refine Q_then ?_
 refine R_seq ?_
 refine R_region ?_
 refine L_val rfl rfl rfl (OpP.v (P_move rfl rfl)) ?_
 refine L_val rfl rfl rfl (OpP.v (P_eql rfl rfl rfl)) ?_
 refine E_true (t := 22) rfl (rfl) ?_
 refine L_val rfl rfl rfl (OpP.v (P_move rfl rfl)) ?_
 refine L_val rfl rfl rfl (OpP.v (P_move rfl rfl)) ?_
 refine L_val rfl rfl rfl (OpP.v (P_eql rfl rfl rfl)) ?_
 refine E_true (t := 25) rfl (rfl) ?_
 refine L_val rfl rfl rfl (OpP.v (P_pick rfl rfl rfl)) ?_
 refine L_val rfl rfl rfl (OpP.v (P_move rfl rfl)) ?_
 refine L_val rfl rfl rfl (OpP.v (P_fld0 rfl ty_fl_26_3 rfl)) ?_
 refine L_val rfl rfl rfl (V_load rfl rfl ty_sc_24 (Rd.blk .h2 rfl)) ?_
 refine L_val rfl rfl rfl (OpP.v (P_eql rfl rfl rfl)) ?_
 refine E_true (t := 30) rfl (rfl) ?_
 refine L_val rfl rfl rfl (OpP.v (P_pick rfl rfl rfl)) ?_
 refine L_val rfl rfl rfl (OpP.v (P_move rfl rfl)) ?_
 refine L_val rfl rfl rfl (OpP.v (P_fld0 rfl ty_fl_26_0 rfl)) ?_
 refine L_val rfl rfl rfl (V_load rfl rfl ty_sc_22 (Rd.blk .h2 rfl)) ?_
 refine L_val rfl rfl rfl (OpP.v (P_len rfl ty_sl_22 rfl)) ?_
 refine L_val rfl rfl rfl (OpP.v (P_eql rfl rfl rfl)) ?_
 refine E_true (t := 36) rfl (rfl) ?_
 refine L_val rfl rfl rfl (OpP.v (P_pick rfl rfl rfl)) ?_
 refine L_val rfl rfl rfl (OpP.v (P_move rfl rfl)) ?_
 refine L_val rfl rfl rfl (OpP.v (P_fld0 rfl ty_fl_38_2 rfl)) ?_
 refine L_val rfl rfl rfl (V_load rfl rfl ty_sc_24 (Rd.blk .h0 rfl)) ?_
 refine L_val rfl rfl rfl (OpP.v (P_eql rfl rfl rfl)) ?_
 refine E_true (t := 41) rfl (rfl) ?_
 refine L_val rfl rfl rfl (OpP.v (P_pick rfl rfl rfl)) ?_
 refine L_val rfl rfl rfl (OpP.v (P_move rfl rfl)) ?_
 refine L_val rfl rfl rfl (OpP.v (P_move rfl rfl)) ?_
 refine L_val rfl rfl rfl (OpP.v (P_len rfl ty_sl_68 rfl)) ?_
 refine L_val rfl rfl rfl (OpP.v (P_eql rfl rfl rfl)) ?_
 refine E_true (t := 46) rfl (rfl) ?_
 refine L_val rfl rfl rfl (OpP.v (P_pick rfl rfl rfl)) ?_
 refine L_val rfl rfl rfl (OpP.v (P_move rfl rfl)) ?_
 refine L_val rfl rfl rfl (OpP.v (P_move rfl rfl)) ?_
 refine L_val rfl rfl rfl (OpP.v (P_ixs (0) rfl ty_sl_68 rfl rfl (by first | rfl | omega) (by omega))) ?_
 refine L_val rfl rfl rfl (OpP.v (P_fld rfl ty_fl_76_0 rfl)) ?_
 refine L_val rfl rfl rfl (V_load rfl rfl ty_sc_27 (Rd.own .h1 rfl)) ?_
 refine L_val rfl rfl rfl (OpP.v (P_eql rfl rfl rfl)) ?_
 refine E_true (t := 53) rfl (rfl) ?_
 refine L_val rfl rfl rfl (OpP.v (P_pick rfl rfl rfl)) ?_
 refine L_val rfl rfl rfl (OpP.v (P_move rfl rfl)) ?_
 refine L_val rfl rfl rfl (OpP.v (P_move rfl rfl)) ?_
 refine L_val rfl rfl rfl (OpP.v (P_ixs (0) rfl ty_sl_68 rfl rfl (by first | rfl | omega) (by omega))) ?_
 refine L_val rfl rfl rfl (OpP.v (P_fld rfl ty_fl_76_1 rfl)) ?_
 refine L_val rfl rfl rfl (V_load rfl rfl ty_sc_24 (Rd.own .h1 rfl)) ?_
 refine L_val rfl rfl rfl (OpP.v (P_eql rfl rfl rfl)) ?_
 refine E_true (t := 60) rfl (rfl) ?_
 refine L_val rfl rfl rfl (OpP.v (P_pick rfl rfl rfl)) ?_
 refine L_val rfl rfl rfl (OpP.v (P_assign rfl rfl)) ?_
 refine L_nil ?_
 refine St.env (.cons (t := 0) rfl .nil) ?_
 refine Q_then ?_
 refine R_ret ?_
 exact R_endV rfl rfl (.tmp rfl .nil) (rfl)
end Go.Proofs.YtfhjhaogmdaepaaGreatDoor

/- The reference: New, Sound, Seats. Printed by gen.py. -/
set_option linter.unusedVariables false
set_option linter.unusedSimpArgs false
set_option maxRecDepth 100000
namespace Go.Proofs.YtfhjhaogmdaepaaGreatDoor
open Go Go.RowKit Go.Proofs
theorem rlnew_ok {gl : Nat → Obj} (base : Option Addr) (c : Nat) (l : List Acc) (hc : l.length ≤ c)(hm : l.length ≤ 3518437208883)(hok : ∀ x ∈ l, x.ok) : Spec (cx gl) 25 [.slice base l.length c] (fun w _ => Row w base (rc l)) [] (fun v rs => ∃ u, v = .tuple #[.agg (ledV u (.slice none 0 0) 0 (newL8 l).sup).toArray, .int .i64 (newE l)] ∧ rs = [ownS 38 5 (u) ((newL8 l).acc.length) (rc ((newL8 l).acc))]) := by
 refine Spec.enter (C := cx gl) Tryz.func25 rfl 25 rfl rfl fun w0 h0 hsep hsub hpre => ?_
 obtain rfl : h0 = Heap.none := hsep
 show St (cx gl) _ [(0, .slice base l.length c)] _ _
 have hms : MS = 1152921504606846975 := rfl
 refine R_seq ?_
 refine R_region ?_
 refine L_op rfl (W_alloc rfl rfl rfl ty_ze_26 fun b2 => ?_)
 refine L_val rfl rfl rfl (OpP.v (P_assign rfl rfl)) ?_
 refine L_nil ?_
 refine Q_then ?_
 refine R_seq ?_
 refine R_region ?_
 refine L_val rfl rfl rfl (OpP.v (P_move rfl rfl)) ?_
 refine L_op rfl (W_callV rfl rfl rfl rfl fn_ca_69 (racc_ok base c l hc hm) (fun w nw => (Sn.row hpre rfl).rw_ w nw) ?_)
 refine L_val rfl rfl rfl (OpP.v (P_assign rfl rfl)) ?_
 refine L_nil ?_
 refine St.env (.cons (t := 0) rfl (.cons (t := 2) rfl (.cons (t := 3) rfl (.cons (t := 4) rfl .nil)))) ?_
 refine Q_then ?_
 refine R_seq ?_
 refine R_seq ?_
 refine R_region ?_
 refine L_val rfl rfl rfl (OpP.v (P_move rfl rfl)) ?_
 refine L_val rfl rfl rfl (OpP.v (P_neq rfl rfl rfl)) ?_
 refine L_nil ?_
 refine St.env (.cons (t := 0) rfl (.cons (t := 2) rfl (.cons (t := 3) rfl (.cons (t := 4) rfl (.cons (t := 9) rfl .nil))))) ?_
 refine Q_then ?_
 refine R_condP rfl (fun he => ?_) (fun he => ?_)
 ·skip
  have h9e : newE l = raccE l := by unfold newE raccE; unfold raccE at he; split; rfl; rename_i hb; rw [if_neg hb] at he; rw [if_pos he]
  have h9 : newE l ≠ 0 := by rw [h9e]; exact he
  refine R_seq ?_
  refine R_region ?_
  refine L_val rfl rfl rfl (OpP.v (P_buildStruct rfl ty_pl_26 ty_ze_26 rfl rfl (rfl))) ?_
  refine L_val rfl rfl rfl (OpP.v (P_move rfl rfl)) ?_
  refine L_op rfl (W_storeAll rfl rfl rfl rfl ty_ag_26 (rfl) (ledV_one _ _ _ _ rfl rfl) .h0 (rfl) ?_)
  refine L_val rfl rfl rfl (OpP.v (P_assign rfl rfl)) ?_
  refine L_nil ?_
  refine St.env (.cons (t := 0) rfl (.cons (t := 2) rfl (.cons (t := 3) rfl .nil))) ?_
  refine Q_then ?_
  refine R_ret ?_
  refine Q_then_ret ?_
  exact R_end (rs2 := [ownS 38 5 (.slice none 0 0) ((newL8 l).acc.length) (rc ((newL8 l).acc))]) rfl rfl (.cell rfl (Rds.loadVar ty_ag_26 (Rds.blk .h0) rfl) (.tmp rfl .nil)) (⟨.slice none 0 0, by rw [(newL8_bad' h9).2]; rw [h9e]; rfl, rfl⟩) (Weak.trans (Weak.newNil (T := 38) (sz := 5)) (Weak.keep_to (fun h hh => by rw [(newL8_bad' h9).1]; exact hh)))
 ·skip
  have he : raccE l = 0 := Classical.not_not.1 he
  have hbig : ¬ 65536 < l.length := fun hb => by unfold raccE at he; rw [if_pos hb] at he; cases he
  unfold raccE at he
  rw [if_neg hbig] at he
  have hts := totC_spec (r := []) (bu := 0) hok (fun x hx => absurd hx (by simp)) (Int.le_refl 0)
  rw [show sumR [] = 0 from rfl, Int.zero_add, Int.add_zero] at hts
  refine R_skip ?_
  refine Q_then ?_
  refine R_seq ?_
  refine R_region ?_
  refine L_op rfl (W_alloc rfl rfl rfl ty_ze_26 fun b5 => ?_)
  refine L_nil ?_
  refine St.env (.cons (t := 0) rfl (.cons (t := 2) rfl (.cons (t := 3) rfl (.cons (t := 5) rfl .nil)))) ?_
  refine Q_then ?_
  refine R_seq ?_
  refine St.res (Weak.newNil (T := 38) (sz := 5)) ?_
  refine R_region ?_
  refine L_val rfl rfl rfl (OpP.v (P_fld0 rfl ty_fl_26_0 rfl)) ?_
  refine L_val rfl rfl rfl (V_load rfl rfl ty_sc_22 (Rd.blk .h1 rfl)) ?_
  refine L_val rfl rfl rfl (OpP.v (P_move rfl rfl)) ?_
  refine L_op rfl (W_append (p := []) rfl rfl rfl ty_sl_22 ty_ap_22 ty_src_22 rfl rfl rfl (Src.row (sz := 5) (Sn.row hpre rfl).rw_ (rc_length l) (rc_one l)) (by omega) (by simp only [maxLen]; omega) fun v15 => ?_)
  refine St.res (rs' := [ownS 38 5 (v15) (l.length) (rc (l)), blk b5 (ledV (.slice none 0 0) (.slice none 0 0) 0 0) 26, blk b2 (ledV (.slice none 0 0) (.slice none 0 0) 0 0) 26]) (ownS.to1 (by omega) rfl) ?_
  refine St.ownForm (p := []) fun ub uc huv huc => ?_
  subst huv
  refine L_val rfl rfl rfl (OpP.v (P_fld0 rfl ty_fl_26_0 rfl)) ?_
  refine L_op rfl (W_store rfl rfl rfl rfl ty_sc_22 rfl .h1 (by first | decide | (simp [ints]; done) | (simp [ints]; omega)) ?_)
  refine St.res (rs' := [ownS 38 5 (.slice ub l.length uc) (l.length) (rc (l)), blk b5 (ledV (.slice ub l.length uc) (.slice none 0 0) 0 0) 26, blk b2 (ledV (.slice none 0 0) (.slice none 0 0) 0 0) 26]) (Weak.refl _) ?_
  refine L_nil ?_
  refine St.env (.cons (t := 2) rfl (.cons (t := 3) rfl (.cons (t := 5) rfl .nil))) ?_
  refine Q_then ?_
  refine R_seq ?_
  refine R_region ?_
  refine L_val rfl rfl rfl (V_loadAgg rfl rfl ty_ag_26 (Rds.blk .h1) (rfl)) ?_
  refine L_op rfl (W_callV rfl rfl rfl rfl fn_ca_70 (rtot_ok ub uc l huc hm hok none 0 [] (Nat.le_refl _) (by decide) (fun x hx => absurd hx (by simp)) 0 0 ⟨by decide, by decide⟩) (fun w nw => ⟨(Sn.own .h0 rfl).rw_ w nw, Row.nil⟩) ?_)
  refine L_val rfl rfl rfl (OpP.v (P_fld0 rfl ty_fl_26_3 rfl)) ?_
  refine L_op rfl (W_store rfl rfl rfl rfl ty_sc_24 rfl .h1 (by simp [ledV]) ?_)
  refine St.res (rs' := [ownS 38 5 (.slice ub l.length uc) (l.length) (rc (l)), blk b5 (ledV (.slice ub l.length uc) (.slice none 0 0) 0 (totC l [] 0)) 26, blk b2 (ledV (.slice none 0 0) (.slice none 0 0) 0 0) 26]) (Weak.refl _) ?_
  refine L_nil ?_
  refine St.env (.cons (t := 2) rfl (.cons (t := 3) rfl (.cons (t := 5) rfl .nil))) ?_
  refine Q_then ?_
  refine R_seq ?_
  refine R_seq ?_
  refine R_region ?_
  refine L_val rfl rfl rfl (OpP.v (P_fld0 rfl ty_fl_26_3 rfl)) ?_
  refine L_val rfl rfl rfl (V_load rfl rfl ty_sc_24 (Rd.blk .h1 rfl)) ?_
  refine L_val rfl rfl rfl (OpP.v (P_gtr rfl rfl rfl)) ?_
  refine L_nil ?_
  refine St.env (.cons (t := 2) rfl (.cons (t := 3) rfl (.cons (t := 5) rfl (.cons (t := 22) rfl .nil)))) ?_
  refine Q_then ?_
  refine R_condP rfl (fun hs => ?_) (fun hs => ?_)
  ·skip
   have hs2 : MS < sumA l := by rw [hms] at hts ⊢; omega
   have h9 : newE l ≠ 0 := by rw [newE_sum hbig he hs2]; decide
   refine R_seq ?_
   refine R_region ?_
   refine L_val rfl rfl rfl (OpP.v (P_buildStruct rfl ty_pl_26 ty_ze_26 rfl rfl (rfl))) ?_
   refine L_op rfl (W_storeAll rfl rfl rfl rfl ty_ag_26 (rfl) (ledV_one _ _ _ _ rfl rfl) .h2 (rfl) ?_)
   refine L_val rfl rfl rfl (OpP.v (P_assign rfl rfl)) ?_
   refine L_nil ?_
   refine St.env (.cons (t := 2) rfl (.cons (t := 3) rfl (.cons (t := 5) rfl .nil))) ?_
   refine Q_then ?_
   refine R_ret ?_
   refine Q_then_ret ?_
   exact R_end (rs2 := [ownS 38 5 (.slice none 0 0) ((newL8 l).acc.length) (rc ((newL8 l).acc))]) rfl rfl (.cell rfl (Rds.loadVar ty_ag_26 (Rds.blk .h2) rfl) (.tmp rfl .nil)) (⟨.slice none 0 0, by rw [(newL8_bad' h9).2]; rw [newE_sum hbig he hs2]; rfl, rfl⟩) (Weak.trans (Weak.newNil (T := 38) (sz := 5)) (Weak.keep_to (fun h hh => by rw [(newL8_bad' h9).1]; exact hh)))
  ·skip
   have hs2 : ¬ MS < sumA l := by rw [hms] at hts ⊢; omega
   have h9 : newE l = 0 := newE_fine hbig he hs2
   have htt : totC l [] 0 = sumA l := hts.2 (by rw [hms]; omega)
   refine R_skip ?_
   refine Q_then ?_
   refine R_seq ?_
   refine R_region ?_
   refine L_val rfl rfl rfl (V_loadAgg rfl rfl ty_ag_26 (Rds.blk .h1) (rfl)) ?_
   refine L_op rfl (W_storeAll rfl rfl rfl rfl ty_ag_26 (rfl) (ledV_one _ _ _ _ rfl rfl) .h2 (rfl) ?_)
   refine L_val rfl rfl rfl (OpP.v (P_assign rfl rfl)) ?_
   refine L_nil ?_
   refine St.env (.cons (t := 2) rfl (.cons (t := 3) rfl .nil)) ?_
   refine Q_then ?_
   refine R_ret ?_
   exact R_end (rs2 := [ownS 38 5 (.slice ub l.length uc) ((newL8 l).acc.length) (rc ((newL8 l).acc))]) rfl rfl (.cell rfl (Rds.loadVar ty_ag_26 (Rds.blk .h2) rfl) (.tmp rfl .nil)) (⟨_, by rw [newL8_fine h9, h9, htt]; rfl, rfl⟩) (by rw [newL8_fine h9]; exact Weak.keep (Weak.nil _))
end Go.Proofs.YtfhjhaogmdaepaaGreatDoor

/- LedgerTurns: the walk. Printed by gen.py. -/
set_option linter.unusedVariables false
set_option linter.unusedSimpArgs false
set_option maxRecDepth 100000
namespace Go.Proofs.YtfhjhaogmdaepaaGreatDoor
open Go Go.RowKit Go.Proofs
set_option maxHeartbeats 4000000 in
theorem ledgerTurns_walk {gl : Nat → Obj} (hG : GlobsR gl) (base : Option Addr) (c : Nat) (l : List Acc) (hc : l.length ≤ c) (hm : l.length ≤ 3518437208800)(hok : ∀ x ∈ l, x.ok) (p : Par) (hp3 : u64 p.p3) (ch : List Int) (hcb : IsB ch) (A B : StpR) : SpecV (cx gl) 8 [.slice base l.length c, .agg p.cells.toArray, .string (strOfNums ch), .agg A.s.cells.toArray, .agg B.s.cells.toArray] (fun w => Row w base (Go.Proofs.YtfhjhaogmdaepaaGreatDoor.rc l)) (.bool true) := by
 refine Spec.enter (C := cx gl) Tryz.func8 rfl 170 rfl rfl fun w0 h0 hsep hsub hpre => ?_
 obtain rfl : h0 = Heap.none := hsep
 show St (cx gl) _ [(0, .slice base l.length c), (1, .agg p.cells.toArray), (2, .string (strOfNums ch)), (3, .agg A.s.cells.toArray), (4, .agg B.s.cells.toArray)] _ _
 refine R_seq ?_
 refine R_region ?_
 refine L_op rfl (W_box (p.cells) rfl rfl rfl rfl rfl fun b6 => ?_)
 refine L_op rfl (W_box (A.s.cells) rfl rfl rfl rfl rfl fun b8 => ?_)
 refine L_op rfl (W_box (B.s.cells) rfl rfl rfl rfl rfl fun b9 => ?_)
 refine L_val rfl rfl rfl (OpP.v (P_assign rfl rfl)) ?_
 refine L_nil ?_
 refine St.env (.cons (t := 0) rfl (.cons (t := 2) rfl (.cons (t := 6) rfl (.cons (t := 8) rfl (.cons (t := 9) rfl (.cons (t := 10) rfl .nil)))))) ?_
 refine Q_then ?_
 refine R_seq ?_
 refine R_region ?_
 refine L_op rfl (W_callV rfl rfl rfl rfl fn_ca_9 (alive8) (fun _ _ => trivial) ?_)
 refine L_val rfl rfl rfl (OpP.v (P_assign rfl rfl)) ?_
 refine L_nil ?_
 refine St.env (.cons (t := 0) rfl (.cons (t := 2) rfl (.cons (t := 6) rfl (.cons (t := 8) rfl (.cons (t := 9) rfl (.cons (t := 10) rfl (.cons (t := 11) rfl .nil))))))) ?_
 refine Q_then ?_
 refine R_seq ?_
 refine R_seq ?_
 refine R_region ?_
 refine L_val rfl rfl rfl (OpP.v (P_move rfl rfl)) ?_
 refine L_val rfl rfl rfl (OpP.v (P_not rfl rfl)) ?_
 refine E_false (t := 26) rfl (rfl) ?_
 refine L_nil ?_
 refine St.env (.cons (t := 0) rfl (.cons (t := 2) rfl (.cons (t := 6) rfl (.cons (t := 8) rfl (.cons (t := 9) rfl (.cons (t := 10) rfl (.cons (t := 11) rfl (.cons (t := 26) rfl .nil)))))))) ?_
 refine Q_then ?_
 refine R_condF rfl ?_
 refine R_skip ?_
 refine Q_then ?_
 refine R_seq ?_
 refine R_region ?_
 refine L_val rfl rfl rfl (OpP.v (P_move rfl rfl)) ?_
 refine L_op rfl (W_call rfl rfl rfl rfl fn_ca_26 (lnew_ok base c l hc (by omega) hok) (Split.nil _) (fun w a b _ hb dj m => (Sn.row hpre rfl).rw_ w ⟨_, hb, m.le (Heap.le_join_right dj)⟩) fun v1 rs1 ⟨u, z1, z2⟩ => ?_)
 subst z1; subst z2
 refine St.ownForm (p := []) fun ub uc huv huc => ?_
 subst huv
 refine L_val rfl rfl rfl (OpP.v (P_move rfl rfl)) ?_
 refine L_val rfl rfl rfl (OpP.v (P_extract rfl rfl rfl)) ?_
 refine L_val rfl rfl rfl (OpP.v (P_extract rfl rfl rfl)) ?_
 refine L_op rfl (W_alloc rfl rfl rfl ty_ze_26 fun b12 => ?_)
 refine L_op rfl (W_storeAll rfl rfl rfl rfl ty_ag_26 (rfl) (ledV_one _ _ _ _ rfl rfl) .h0 (rfl) ?_)
 refine L_val rfl rfl rfl (OpP.v (P_assign rfl rfl)) ?_
 refine L_nil ?_
 refine St.env (.cons (t := 0) rfl (.cons (t := 2) rfl (.cons (t := 6) rfl (.cons (t := 8) rfl (.cons (t := 9) rfl (.cons (t := 10) rfl (.cons (t := 11) rfl (.cons (t := 12) rfl (.cons (t := 13) rfl .nil))))))))) ?_
 refine Q_then ?_
 refine R_seq ?_
 refine R_region ?_
 refine L_val rfl rfl rfl (OpP.v (P_move rfl rfl)) ?_
 refine L_op rfl (W_call rfl rfl rfl rfl fn_ca_25 (rlnew_ok base c l hc (by omega) hok) (Split.nil _) (fun w a b _ hb dj m => (Sn.row hpre rfl).rw_ w ⟨_, hb, m.le (Heap.le_join_right dj)⟩) fun v2 rs2 ⟨u2, z1, z2⟩ => ?_)
 subst z1; subst z2
 refine St.ownForm (p := []) fun ub2 uc2 huv huc2 => ?_
 subst huv
 refine L_val rfl rfl rfl (OpP.v (P_move rfl rfl)) ?_
 refine L_val rfl rfl rfl (OpP.v (P_extract rfl rfl rfl)) ?_
 refine L_val rfl rfl rfl (OpP.v (P_extract rfl rfl rfl)) ?_
 refine L_op rfl (W_alloc rfl rfl rfl ty_ze_26 fun b14 => ?_)
 refine L_op rfl (W_storeAll rfl rfl rfl rfl ty_ag_26 (rfl) (ledV_one _ _ _ _ rfl rfl) .h0 (rfl) ?_)
 refine L_val rfl rfl rfl (OpP.v (P_assign rfl rfl)) ?_
 refine L_nil ?_
 refine St.env (.cons (t := 2) rfl (.cons (t := 6) rfl (.cons (t := 8) rfl (.cons (t := 9) rfl (.cons (t := 10) rfl (.cons (t := 11) rfl (.cons (t := 12) rfl (.cons (t := 13) rfl (.cons (t := 15) rfl .nil))))))))) ?_
 refine Q_then ?_
 refine R_seq ?_
 refine R_seq ?_
 refine R_region ?_
 refine L_val rfl rfl rfl (OpP.v (P_move rfl rfl)) ?_
 refine L_val rfl rfl rfl (OpP.v (P_move rfl rfl)) ?_
 refine L_val rfl rfl rfl (OpP.v (P_neq rfl rfl rfl)) ?_
 refine E_false (t := 39) rfl (by simp) ?_
 refine L_nil ?_
 refine St.env (.cons (t := 2) rfl (.cons (t := 6) rfl (.cons (t := 8) rfl (.cons (t := 9) rfl (.cons (t := 10) rfl (.cons (t := 11) rfl (.cons (t := 12) rfl (.cons (t := 15) rfl (.cons (t := 39) rfl .nil))))))))) ?_
 refine Q_then ?_
 refine R_condF rfl ?_
 refine R_skip ?_
 refine Q_then ?_
 refine R_seq ?_
 refine St.res (rs' := [blk b12 (ledV (.slice ub (newL8 l).acc.length uc) (.slice none 0 0) 0 (newL8 l).sup) 26, ownS 38 5 (.slice ub (newL8 l).acc.length uc) ((newL8 l).acc.length) (rc ((newL8 l).acc)), blk b9 B.s.cells 90, blk b8 A.s.cells 90, blk b6 p.cells 62]) (Weak.drop (Weak.drop (Weak.refl _))) ?_
 refine R_region ?_
 refine L_val rfl rfl rfl (V_loadAgg rfl rfl ty_ag_90 (Rds.blk .h3) (Stp.len A.ok)) ?_
 refine L_val rfl rfl rfl (V_loadAgg rfl rfl ty_ag_90 (Rds.blk .h2) (Stp.len B.ok)) ?_
 refine L_op rfl (W_lit (z := .nilIface) (rc [A, B]) rfl rfl rfl ty_sl_79 ty_lz_79 rfl rfl rfl (by decide) (by decide) (by intro v hv; simp only [List.mem_cons, List.not_mem_nil, or_false] at hv; rcases hv with rfl | rfl; exact Stp.len A.ok; exact Stp.len B.ok) (rfl) fun b43 => ?_)
 refine L_val rfl rfl rfl (OpP.v (P_move rfl rfl)) ?_
 refine L_op rfl (W_call rfl rfl rfl rfl fn_ca_39 (enters_ok (some ⟨b43, 0, none⟩) 2 [A, B] (Nat.le_refl _) (by show 2 ≤ 1000000000; decide) ch) (Split.nil _) (fun w a b _ hb dj m => (Sn.ofBlk .h0).rw_ w ⟨_, hb, m.le (Heap.le_join_right dj)⟩) fun v3 rs3 ⟨wb, rp, rq, mv, ov, sg, tg, e1, hw, e2⟩ => ?_)
 subst e1; subst e2
 refine St.res (rs' := [blk wb [.pointer (some ⟨rp, 0, none⟩), .pointer (some ⟨rq, 0, none⟩), mv, ov, .string (strOfNums ch)] 101, REG rp (sg) ([]), REF rq (tg) ([]), ownS 169 1 (mv) (sg.length) (ptrs (sg)), ownS 172 1 (ov) (tg.length) (ptrs (tg)), blk b12 (ledV (.slice ub (newL8 l).acc.length uc) (.slice none 0 0) 0 (newL8 l).sup) 26, ownS 38 5 (.slice ub (newL8 l).acc.length uc) ((newL8 l).acc.length) (rc ((newL8 l).acc)), blk b9 B.s.cells 90, blk b8 A.s.cells 90, blk b6 p.cells 62]) (Weak.keep (Weak.keep (Weak.keep (Weak.keep (Weak.keep (Weak.drop (Weak.refl _))))))) ?_
 refine L_val rfl rfl rfl (OpP.v (P_move rfl rfl)) ?_
 refine L_val rfl rfl rfl (OpP.v (P_extract rfl rfl rfl)) ?_
 refine L_val rfl rfl rfl (OpP.v (P_extract rfl rfl rfl)) ?_
 refine L_val rfl rfl rfl (OpP.v (P_assign rfl rfl)) ?_
 refine L_val rfl rfl rfl (OpP.v (P_assign rfl rfl)) ?_
 refine L_nil ?_
 refine St.env (.cons (t := 2) rfl (.cons (t := 6) rfl (.cons (t := 8) rfl (.cons (t := 9) rfl (.cons (t := 10) rfl (.cons (t := 11) rfl (.cons (t := 12) rfl (.cons (t := 15) rfl (.cons (t := 16) rfl .nil))))))))) ?_
 refine Q_then ?_
 refine R_seq ?_
 refine R_seq ?_
 refine R_region ?_
 refine L_val rfl rfl rfl (OpP.v (P_move rfl rfl)) ?_
 refine L_val rfl rfl rfl (OpP.v (P_not rfl rfl)) ?_
 refine E_false (t := 49) rfl (rfl) ?_
 refine L_nil ?_
 refine St.env (.cons (t := 2) rfl (.cons (t := 6) rfl (.cons (t := 8) rfl (.cons (t := 9) rfl (.cons (t := 10) rfl (.cons (t := 11) rfl (.cons (t := 12) rfl (.cons (t := 15) rfl (.cons (t := 16) rfl (.cons (t := 49) rfl .nil)))))))))) ?_
 refine Q_then ?_
 refine R_condF rfl ?_
 refine R_skip ?_
 refine Q_then ?_
 refine R_seq ?_
 refine R_seq ?_
 refine R_region ?_
 refine L_val rfl rfl rfl (OpP.v (P_move rfl rfl)) ?_
 refine L_val rfl rfl rfl (OpP.v (P_neq rfl rfl rfl)) ?_
 refine E_bool (t := 51) rfl (fun he => ?_) (fun he => ?_)
 ·skip
  refine L_val rfl rfl rfl (OpP.v (P_move rfl rfl)) ?_
  refine L_no rfl rfl rfl ?_
  refine L_no rfl rfl rfl ?_
  refine L_no rfl rfl rfl ?_
  refine L_no rfl rfl rfl ?_
  refine L_no rfl rfl rfl ?_
  refine L_no rfl rfl rfl ?_
  refine L_no rfl rfl rfl ?_
  refine L_val rfl rfl rfl (OpP.v (P_pick rfl rfl rfl)) ?_
  refine L_val rfl rfl rfl (OpP.v (P_move rfl rfl)) ?_
  refine L_no rfl rfl rfl ?_
  refine L_no rfl rfl rfl ?_
  refine L_no rfl rfl rfl ?_
  refine L_no rfl rfl rfl ?_
  refine L_no rfl rfl rfl ?_
  refine L_no rfl rfl rfl ?_
  refine L_val rfl rfl rfl (OpP.v (P_pick rfl rfl rfl)) ?_
  refine L_nil ?_
  refine St.env (.cons (t := 2) rfl (.cons (t := 6) rfl (.cons (t := 8) rfl (.cons (t := 9) rfl (.cons (t := 10) rfl (.cons (t := 11) rfl (.cons (t := 12) rfl (.cons (t := 16) rfl (.cons (t := 68) rfl .nil))))))))) ?_
  refine Q_then ?_
  refine R_condT rfl ?_
  refine R_seq ?_
  refine R_region ?_
  refine L_val rfl rfl rfl (OpP.v (P_assign rfl rfl)) ?_
  refine L_nil ?_
  refine St.env (.cons (t := 2) rfl (.cons (t := 6) rfl (.cons (t := 8) rfl (.cons (t := 9) rfl (.cons (t := 10) rfl (.cons (t := 11) rfl (.cons (t := 12) rfl (.cons (t := 16) rfl .nil)))))))) ?_
  refine Q_then ?_
  refine R_ret ?_
  refine Q_then_ret ?_
  exact R_endV rfl rfl (.tmp rfl .nil) (rfl)
 ·skip
  have he9 : newE l = 0 := by have h9 := of_decide_eq_false he; omega
  obtain ⟨hfew, hae, hsu⟩ := newE_zero he9
  have hf : AccFine l := accFine_of hae
  rw [newL8_fine he9] at huc ⊢
  have huc : l.length ≤ uc := huc
  refine L_val rfl rfl rfl (OpP.v (P_move rfl rfl)) ?_
  refine L_val rfl rfl rfl (OpP.v (P_fld0 rfl ty_fl_90_1 rfl)) ?_
  refine L_val rfl rfl rfl (OpP.v (P_fld rfl ty_fl_88_1 rfl)) ?_
  refine L_val rfl rfl rfl (V_load rfl rfl ty_sc_27 (Rd.blk .h8 (stp_tx A.s 1 _ rfl))) ?_
  refine L_val rfl rfl rfl (OpP.v (P_fld0 rfl ty_fl_90_1 rfl)) ?_
  refine L_val rfl rfl rfl (OpP.v (P_fld rfl ty_fl_88_1 rfl)) ?_
  refine L_val rfl rfl rfl (V_load rfl rfl ty_sc_27 (Rd.blk .h7 (stp_tx B.s 1 _ rfl))) ?_
  refine L_val rfl rfl rfl (OpP.v (P_eql rfl rfl rfl)) ?_
  refine E_bool (t := 59) rfl (fun hfr => ?_) (fun hfr => ?_)
  ·skip
   refine L_val rfl rfl rfl (OpP.v (P_pick rfl rfl rfl)) ?_
   refine L_val rfl rfl rfl (OpP.v (P_move rfl rfl)) ?_
   refine L_no rfl rfl rfl ?_
   refine L_no rfl rfl rfl ?_
   refine L_no rfl rfl rfl ?_
   refine L_no rfl rfl rfl ?_
   refine L_no rfl rfl rfl ?_
   refine L_no rfl rfl rfl ?_
   refine L_val rfl rfl rfl (OpP.v (P_pick rfl rfl rfl)) ?_
   refine L_nil ?_
   refine St.env (.cons (t := 2) rfl (.cons (t := 6) rfl (.cons (t := 8) rfl (.cons (t := 9) rfl (.cons (t := 10) rfl (.cons (t := 11) rfl (.cons (t := 12) rfl (.cons (t := 16) rfl (.cons (t := 68) rfl .nil))))))))) ?_
   refine Q_then ?_
   refine R_condT rfl ?_
   refine R_seq ?_
   refine R_region ?_
   refine L_val rfl rfl rfl (OpP.v (P_assign rfl rfl)) ?_
   refine L_nil ?_
   refine St.env (.cons (t := 2) rfl (.cons (t := 6) rfl (.cons (t := 8) rfl (.cons (t := 9) rfl (.cons (t := 10) rfl (.cons (t := 11) rfl (.cons (t := 12) rfl (.cons (t := 16) rfl .nil)))))))) ?_
   refine Q_then ?_
   refine R_ret ?_
   refine Q_then_ret ?_
   exact R_endV rfl rfl (.tmp rfl .nil) (rfl)
  ·skip
   have hfr := of_decide_eq_false hfr
   refine L_val rfl rfl rfl (OpP.v (P_pick rfl rfl rfl)) ?_
   refine L_val rfl rfl rfl (OpP.v (P_move rfl rfl)) ?_
   refine L_val rfl rfl rfl (V_loadAgg rfl rfl ty_ag_26 (Rds.blk .h5) (rfl)) ?_
   refine L_val rfl rfl rfl (OpP.v (P_fld0 rfl ty_fl_90_4 rfl)) ?_
   refine L_val rfl rfl rfl (V_load rfl rfl ty_sc_27 (Rd.blk .h8 (stp_end A.ok 2 _ rfl))) ?_
   refine L_op rfl (W_callV rfl rfl rfl rfl fn_ca_42 (lfind_ok ub uc l huc (by omega) (.slice none 0 0) rfl 0 (sumA l) A.s.b) ((Sn.own .h6 rfl).rw_) ?_)
   refine L_val rfl rfl rfl (OpP.v (P_field rfl ty_fld_38_0 ty_sc_27 rfl (rfl))) ?_
   refine L_val rfl rfl rfl (OpP.v (P_eql rfl rfl rfl)) ?_
   refine E_bool (t := 67) rfl (fun hz => ?_) (fun hz => ?_)
   ·skip
    refine L_val rfl rfl rfl (OpP.v (P_pick rfl rfl rfl)) ?_
    refine L_nil ?_
    refine St.env (.cons (t := 2) rfl (.cons (t := 6) rfl (.cons (t := 8) rfl (.cons (t := 9) rfl (.cons (t := 10) rfl (.cons (t := 11) rfl (.cons (t := 12) rfl (.cons (t := 16) rfl (.cons (t := 68) rfl .nil))))))))) ?_
    refine Q_then ?_
    refine R_condT rfl ?_
    refine R_seq ?_
    refine R_region ?_
    refine L_val rfl rfl rfl (OpP.v (P_assign rfl rfl)) ?_
    refine L_nil ?_
    refine St.env (.cons (t := 2) rfl (.cons (t := 6) rfl (.cons (t := 8) rfl (.cons (t := 9) rfl (.cons (t := 10) rfl (.cons (t := 11) rfl (.cons (t := 12) rfl (.cons (t := 16) rfl .nil)))))))) ?_
    refine Q_then ?_
    refine R_ret ?_
    refine Q_then_ret ?_
    exact R_endV rfl rfl (.tmp rfl .nil) (rfl)
   ·skip
    have hz := of_decide_eq_false hz
    have hb := find_has hz
    have hup := accFine_up hf
    refine L_val rfl rfl rfl (OpP.v (P_pick rfl rfl rfl)) ?_
    refine L_nil ?_
    refine St.env (.cons (t := 2) rfl (.cons (t := 6) rfl (.cons (t := 8) rfl (.cons (t := 9) rfl (.cons (t := 10) rfl (.cons (t := 11) rfl (.cons (t := 12) rfl (.cons (t := 16) rfl (.cons (t := 68) rfl .nil))))))))) ?_
    refine Q_then ?_
    refine R_condF rfl ?_
    refine R_skip ?_
    refine Q_then ?_
    refine R_seq ?_
    refine R_region ?_
    refine L_val rfl rfl rfl (OpP.v (P_move rfl rfl)) ?_
    refine L_val rfl rfl rfl (OpP.v (P_fld0 rfl ty_fl_90_1 rfl)) ?_
    refine L_val rfl rfl rfl (V_loadAgg rfl rfl ty_ag_88 ((Rds.blk .h8).part 1 (stp_tx A.s)) (A.ok.tx.cellsLen)) ?_
    refine L_op rfl (W_callR rfl rfl rfl rfl fn_ca_40 (signed_ok hG wb rp rq mv ov sg tg ([]) (by decide) (entS [A, B]) hw (by have := entS_len [A, B]; simp only [List.length_cons, List.length_nil] at this; omega) ch hcb A.s.tx A.ok.tx false) (Weak.refl _) (fun _ _ _ _ _ _ _ => trivial) ?_)
    refine L_val rfl rfl rfl (OpP.v (P_move rfl rfl)) ?_
    refine L_val rfl rfl rfl (OpP.v (P_extract rfl rfl rfl)) ?_
    refine L_val rfl rfl rfl (OpP.v (P_extract rfl rfl rfl)) ?_
    refine L_op rfl (W_alloc rfl rfl rfl ty_ze_88 fun b17 => ?_)
    refine L_op rfl (W_storeAll rfl rfl rfl rfl ty_ag_88 ((sgnTx_ok _ _ _ A.ok.tx).cellsLen) (Tx.one _) .h0 ((sgnTx_ok _ _ _ A.ok.tx).cellsLen) ?_)
    refine L_val rfl rfl rfl (OpP.v (P_assign rfl rfl)) ?_
    refine L_nil ?_
    refine St.env (.cons (t := 2) rfl (.cons (t := 6) rfl (.cons (t := 8) rfl (.cons (t := 9) rfl (.cons (t := 10) rfl (.cons (t := 11) rfl (.cons (t := 12) rfl (.cons (t := 16) rfl (.cons (t := 17) rfl .nil))))))))) ?_
    refine Q_then ?_
    refine R_seq ?_
    have hrl1 : (sgnR (entS [A, B]) ch A.s.tx false []).length ≤ 1 := by unfold sgnR; split; exact addR_length _ _; simp
    refine R_region ?_
    refine L_val rfl rfl rfl (OpP.v (P_move rfl rfl)) ?_
    refine L_val rfl rfl rfl (OpP.v (P_fld0 rfl ty_fl_90_1 rfl)) ?_
    refine L_val rfl rfl rfl (V_loadAgg rfl rfl ty_ag_88 ((Rds.blk .h8).part 1 (stp_tx B.s)) (B.ok.tx.cellsLen)) ?_
    refine L_op rfl (W_callR rfl rfl rfl rfl fn_ca_40 (signed_ok hG wb rp rq mv ov sg tg (sgnR (entS [A, B]) ch A.s.tx false []) (by have := hrl1; omega) (entS [A, B]) hw (by have := entS_len [A, B]; simp only [List.length_cons, List.length_nil] at this; omega) ch hcb B.s.tx B.ok.tx false) (Weak.trans (Weak.pick (p := [_]) (Weak.pick (p := [_]) (Weak.pick (p := [_]) (Weak.pick (p := [_]) (Weak.pick (p := [_]) (Weak.keep (Weak.keep (Weak.keep (Weak.keep (Weak.keep (Weak.keep (Weak.nil _)))))))))))) (Weak.refl _)) (fun _ _ _ _ _ _ _ => trivial) ?_)
    refine L_val rfl rfl rfl (OpP.v (P_move rfl rfl)) ?_
    refine L_val rfl rfl rfl (OpP.v (P_extract rfl rfl rfl)) ?_
    refine L_val rfl rfl rfl (OpP.v (P_extract rfl rfl rfl)) ?_
    refine L_op rfl (W_alloc rfl rfl rfl ty_ze_88 fun b18 => ?_)
    refine L_op rfl (W_storeAll rfl rfl rfl rfl ty_ag_88 ((sgnTx_ok _ _ _ B.ok.tx).cellsLen) (Tx.one _) .h0 ((sgnTx_ok _ _ _ B.ok.tx).cellsLen) ?_)
    refine L_val rfl rfl rfl (OpP.v (P_assign rfl rfl)) ?_
    refine L_nil ?_
    refine St.env (.cons (t := 2) rfl (.cons (t := 6) rfl (.cons (t := 8) rfl (.cons (t := 10) rfl (.cons (t := 11) rfl (.cons (t := 12) rfl (.cons (t := 16) rfl (.cons (t := 17) rfl (.cons (t := 18) rfl (.cons (t := 19) rfl .nil)))))))))) ?_
    refine Q_then ?_
    refine R_seq ?_
    refine R_seq ?_
    refine R_region ?_
    refine L_val rfl rfl rfl (OpP.v (P_move rfl rfl)) ?_
    refine L_val rfl rfl rfl (OpP.v (P_not rfl rfl)) ?_
    refine E_false (t := 84) rfl (rfl) ?_
    refine L_val rfl rfl rfl (OpP.v (P_move rfl rfl)) ?_
    refine L_val rfl rfl rfl (OpP.v (P_move rfl rfl)) ?_
    refine L_val rfl rfl rfl (OpP.v (P_not rfl rfl)) ?_
    refine E_false (t := 87) rfl (rfl) ?_
    refine L_val rfl rfl rfl (OpP.v (P_pick rfl rfl rfl)) ?_
    refine L_nil ?_
    refine St.env (.cons (t := 2) rfl (.cons (t := 6) rfl (.cons (t := 8) rfl (.cons (t := 10) rfl (.cons (t := 12) rfl (.cons (t := 16) rfl (.cons (t := 17) rfl (.cons (t := 18) rfl (.cons (t := 88) rfl .nil))))))))) ?_
    refine Q_then ?_
    refine R_condF rfl ?_
    refine R_skip ?_
    refine Q_then ?_
    have hxo := sgnTx_ok (entS [A, B]) ch false A.ok.tx
    have hyo := sgnTx_ok (entS [A, B]) ch false B.ok.tx
    have hxf := sgnTx_frm (entS [A, B]) ch A.s.tx false
    have hyf := sgnTx_frm (entS [A, B]) ch B.s.tx false
    generalize (sgnTx (entS [A, B]) ch A.s.tx false) = x at hxo hxf ⊢
    generalize (sgnTx (entS [A, B]) ch B.s.tx false) = y at hyo hyf ⊢
    generalize sgnR (entS [A, B]) ch B.s.tx false (sgnR (entS [A, B]) ch A.s.tx false []) = rcd
    have hfr2 : x.frm ≠ y.frm := by rw [hxf, hyf]; exact hfr
    refine St.res (rs' := [REG rp sg rcd, blk wb [.pointer (some ⟨rp, 0, none⟩), .pointer (some ⟨rq, 0, none⟩), mv, ov, .string (strOfNums ch)] 101, blk b8 A.s.cells 90, blk b6 p.cells 62, blk b17 x.cells 88, blk b18 y.cells 88, blk b12 (ledV (.slice ub l.length uc) (.slice none 0 0) 0 (sumA l)) 26, ownS 38 5 (.slice ub l.length uc) (l.length) (rc (l)), blk b9 B.s.cells 90, REF rq tg rcd, ownS 169 1 (mv) (sg.length) (ptrs (sg)), ownS 172 1 (ov) (tg.length) (ptrs (tg))]) (Weak.pick (p := [_, _]) (Weak.pick (p := [_]) (Weak.pick (p := [_, _, _, _, _, _, _, _]) (Weak.pick (p := [_, _, _, _, _, _, _, _]) (Weak.pick (p := [_, _, _, _]) (Weak.keep (Weak.pick (p := [_, _, _]) (Weak.pick (p := [_, _, _]) (Weak.pick (p := [_, _, _]) (Weak.keep (Weak.keep (Weak.keep (Weak.nil _))))))))))))) ?_
    refine R_joinE (G := Nat × Option Addr × Nat × Option Addr × Nat) (.cons (t := 2) rfl (.cons (t := 6) rfl (.cons (t := 8) rfl (.cons (t := 10) rfl (.cons (t := 12) rfl (.cons (t := 16) rfl (.cons (t := 17) rfl (.cons (t := 18) rfl .nil)))))))) (fun g => [(20, .pointer (some ⟨g.1, 0, none⟩)), (21, .int .i64 ((chkE rcd ch (⟨l, [], 0, sumA l⟩ : Led) p A.s.h x)))]) (fun g => [REG rp sg rcd, blk g.1 (ledV (.slice g.2.1 (appL rcd ch (⟨l, [], 0, sumA l⟩ : Led) p A.s.h A.s.b x).acc.length g.2.2.1) (.slice g.2.2.2.1 (appL rcd ch (⟨l, [], 0, sumA l⟩ : Led) p A.s.h A.s.b x).rel.length g.2.2.2.2) (appL rcd ch (⟨l, [], 0, sumA l⟩ : Led) p A.s.h A.s.b x).burnt (appL rcd ch (⟨l, [], 0, sumA l⟩ : Led) p A.s.h A.s.b x).sup) 26, ownS 38 5 (.slice g.2.1 (appL rcd ch (⟨l, [], 0, sumA l⟩ : Led) p A.s.h A.s.b x).acc.length g.2.2.1) ((appL rcd ch (⟨l, [], 0, sumA l⟩ : Led) p A.s.h A.s.b x).acc.length) (rc ((appL rcd ch (⟨l, [], 0, sumA l⟩ : Led) p A.s.h A.s.b x).acc)), ownS 135 4 (.slice g.2.2.2.1 (appL rcd ch (⟨l, [], 0, sumA l⟩ : Led) p A.s.h A.s.b x).rel.length g.2.2.2.2) ((appL rcd ch (⟨l, [], 0, sumA l⟩ : Led) p A.s.h A.s.b x).rel.length) (rc ((appL rcd ch (⟨l, [], 0, sumA l⟩ : Led) p A.s.h A.s.b x).rel)), blk wb [.pointer (some ⟨rp, 0, none⟩), .pointer (some ⟨rq, 0, none⟩), mv, ov, .string (strOfNums ch)] 101, blk b8 A.s.cells 90, blk b6 p.cells 62, blk b17 x.cells 88, blk b18 y.cells 88, blk b12 (ledV (.slice ub l.length uc) (.slice none 0 0) 0 (sumA l)) 26, ownS 38 5 (.slice ub l.length uc) (l.length) (rc (l)), blk b9 B.s.cells 90, REF rq tg rcd, ownS 169 1 (mv) (sg.length) (ptrs (sg)), ownS 172 1 (ov) (tg.length) (ptrs (tg))]) (fun g => (appL rcd ch (⟨l, [], 0, sumA l⟩ : Led) p A.s.h A.s.b x).acc.length ≤ g.2.2.1 ∧ (appL rcd ch (⟨l, [], 0, sumA l⟩ : Led) p A.s.h A.s.b x).rel.length ≤ g.2.2.2.2) ?_ ?_
    ·skip
     refine T_open (.op 0 1 (.op 1 0 (.op 2 0 (.op 3 0 (.op 4 1 (.op 5 0 (.op 6 1 (.op 7 0 (.op 8 1 (.op 9 0 (.op 10 1 (.op 11 1 (.two 12 16 (.op 13 0 (.op 14 0 (.op 15 0 (.op 16 2 (.op 17 3 (.op 18 0 .nil)))))) (.op 12 2 (.op 13 0 (.op 14 0 (.op 15 0 (.op 17 3 (.op 18 0 .nil))))))))))))))))))) mixed (by kernel_rfl) (QOk.then QOk.body) ?_
     refine T_val rfl rfl rfl rfl (V_loadAgg rfl rfl ty_ag_26 (by first | exact (Rds.blk .h6) | exact (Rds.blk .h7)) (rfl)) ?_
     refine T_pure rfl rfl rfl rfl (P_move rfl rfl) ?_
     refine T_pure rfl rfl rfl rfl (P_nil rfl rfl) ?_
     refine T_pure rfl rfl rfl rfl (P_fld0 rfl ty_fl_101_0 rfl) ?_
     refine T_val rfl rfl rfl rfl (V_load rfl rfl ty_sc_96 (by first | exact (Rd.blk .h1 rfl) | exact (Rd.blk .h2 rfl))) ?_
     refine T_pure rfl rfl rfl rfl (P_move rfl rfl) ?_
     refine T_val rfl rfl rfl rfl (V_loadAgg rfl rfl ty_ag_62 (by first | exact (Rds.blk .h3) | exact (Rds.blk .h4)) (rfl)) ?_
     refine T_pure rfl rfl rfl rfl (P_fld0 rfl ty_fl_90_3 rfl) ?_
     refine T_val rfl rfl rfl rfl (V_load rfl rfl ty_sc_24 (by first | exact (Rd.blk .h2 (stp_end A.ok 1 _ rfl)) | exact (Rd.blk .h3 (stp_end A.ok 1 _ rfl)))) ?_
     refine T_pure rfl rfl rfl rfl (P_fld0 rfl ty_fl_90_4 rfl) ?_
     refine T_val rfl rfl rfl rfl (V_load rfl rfl ty_sc_27 (by first | exact (Rd.blk .h2 (stp_end A.ok 2 _ rfl)) | exact (Rd.blk .h3 (stp_end A.ok 2 _ rfl)))) ?_
     refine T_val rfl rfl rfl rfl (V_loadAgg rfl rfl ty_ag_88 (by first | exact (Rds.blk .h4) | exact (Rds.blk .h5)) (hxo.cellsLen)) ?_
     refine T_two ?_ ?_
     ·skip
      refine T_keep rfl rfl (W_call rfl rfl rfl rfl fn_ca_43 (apply_ok hG.toGlobs rp sg rcd ub uc l huc (by omega) hok none 0 [] (Nat.le_refl _) (by decide) (fun y hy => by cases hy) 0 (sumA l) ⟨Int.le_refl 0, by decide⟩ ch hcb p hp3 A.s.h A.s.b A.ok.h x hxo) (by first | exact (Split.one (p := [])) | exact (Split.one (p := [_]))) (fun w a b ha hb dj m => ⟨by first | exact Sn.pre (Sn.own .h6 rfl) w a b ha hb dj m | exact Sn.pre (Sn.own .h7 rfl) w a b ha hb dj m, (fun j v hv => by cases hv)⟩) fun v17 rs17 ⟨u17, u17', z1, z2⟩ => ?_)
      subst z1; subst z2
      refine St.ownForm (p := []) fun u1b u1c huv hu1c => ?_
      subst huv
      refine St.ownForm (p := [_]) fun v1b v1c huv hv1c => ?_
      subst huv
      refine K_keepT (by first | exact (Weak.drop (Weak.drop (Weak.refl _))) | exact (Weak.drop (Weak.drop Weak.swap))) ?_
      refine T_pure rfl rfl rfl rfl (P_move rfl rfl) ?_
      refine T_pure rfl rfl rfl rfl (P_extract rfl rfl rfl) ?_
      refine T_pure rfl rfl rfl rfl (P_extract rfl rfl rfl) ?_
      refine T_keep rfl rfl (W_alloc rfl rfl rfl ty_ze_26 fun b20 => (K_keepT (Weak.drop (Weak.refl _)) ?_))
      first | (refine T_new rfl rfl (W_storeAll rfl rfl rfl rfl ty_ag_26 (rfl) (ledV_one _ _ _ _ rfl rfl) .h0 (rfl) (K_newT ?_))) | (refine T_new rfl rfl (W_storeAll rfl rfl rfl rfl ty_ag_26 (rfl) (ledV_one _ _ _ _ rfl rfl) .h1 (rfl) (K_newT ?_))) | (refine T_new rfl rfl (W_storeAll rfl rfl rfl rfl ty_ag_26 (rfl) (ledV_one _ _ _ _ rfl rfl) .h2 (rfl) (K_newT ?_))) | (refine T_new rfl rfl (W_storeAll rfl rfl rfl rfl ty_ag_26 (rfl) (ledV_one _ _ _ _ rfl rfl) .h3 (rfl) (K_newT ?_))) | (refine T_new rfl rfl (W_storeAll rfl rfl rfl rfl ty_ag_26 (rfl) (ledV_one _ _ _ _ rfl rfl) .h4 (rfl) (K_newT ?_))) | (refine T_new rfl rfl (W_storeAll rfl rfl rfl rfl ty_ag_26 (rfl) (ledV_one _ _ _ _ rfl rfl) .h5 (rfl) (K_newT ?_))) | (refine T_new rfl rfl (W_storeAll rfl rfl rfl rfl ty_ag_26 (rfl) (ledV_one _ _ _ _ rfl rfl) .h6 (rfl) (K_newT ?_))) | (refine T_new rfl rfl (W_storeAll rfl rfl rfl rfl ty_ag_26 (rfl) (ledV_one _ _ _ _ rfl rfl) .h7 (rfl) (K_newT ?_)))
      refine T_pure rfl rfl rfl rfl (P_assign rfl rfl) ?_
      refine T_nil ?_
      refine St.env (.cons (t := 2) rfl (.cons (t := 6) rfl (.cons (t := 8) rfl (.cons (t := 10) rfl (.cons (t := 12) rfl (.cons (t := 16) rfl (.cons (t := 17) rfl (.cons (t := 18) rfl (.cons (t := 20) rfl (.cons (t := 21) rfl .nil)))))))))) ?_
      exact Q_meet (b20, u1b, u1c, v1b, v1c) (by show (appL rcd ch (⟨l, [], 0, sumA l⟩ : Led) p A.s.h A.s.b x).acc.length ≤ (u1c) ∧ (appL rcd ch (⟨l, [], 0, sumA l⟩ : Led) p A.s.h A.s.b x).rel.length ≤ (v1c); exact ⟨hu1c, hv1c⟩) (by repeat (first | exact .nil | refine .cons rfl ?_ | refine .consE rfl (by first | rfl | (congr 1; omega) | (congr 1; push_cast; omega)) ?_)) (by first | exact (Weak.pick (p := [_, _, _]) (Weak.keep (Weak.keep (Weak.keep (Weak.keep (Weak.keep (Weak.keep (Weak.keep (Weak.keep (Weak.keep (Weak.keep (Weak.keep (Weak.keep (Weak.keep (Weak.keep (Weak.nil _)))))))))))))))) | exact (Weak.pick (p := [_, _]) (Weak.pick (p := [_, _]) (Weak.keep (Weak.keep (Weak.keep (Weak.keep (Weak.keep (Weak.keep (Weak.keep (Weak.keep (Weak.keep (Weak.keep (Weak.keep (Weak.keep (Weak.keep (Weak.nil _)))))))))))))))))
     ·skip
      refine T_keep rfl rfl (W_alloc rfl rfl rfl ty_ze_26 fun b20 => (K_keepT (Weak.drop (Weak.refl _)) ?_))
      refine T_keep rfl rfl (W_call rfl rfl rfl rfl fn_ca_43 (apply_ok hG.toGlobs rp sg rcd ub uc l huc (by omega) hok none 0 [] (Nat.le_refl _) (by decide) (fun y hy => by cases hy) 0 (sumA l) ⟨Int.le_refl 0, by decide⟩ ch hcb p hp3 A.s.h A.s.b A.ok.h x hxo) (by first | exact (Split.one (p := [])) | exact (Split.one (p := [_]))) (fun w a b ha hb dj m => ⟨by first | exact Sn.pre (Sn.own .h6 rfl) w a b ha hb dj m | exact Sn.pre (Sn.own .h7 rfl) w a b ha hb dj m, (fun j v hv => by cases hv)⟩) fun v17 rs17 ⟨u17, u17', z1, z2⟩ => ?_)
      subst z1; subst z2
      refine St.ownForm (p := []) fun u1b u1c huv hu1c => ?_
      subst huv
      refine St.ownForm (p := [_]) fun v1b v1c huv hv1c => ?_
      subst huv
      refine K_keepT (by first | exact (Weak.drop (Weak.drop (Weak.refl _))) | exact (Weak.drop (Weak.drop Weak.swap))) ?_
      refine T_pure rfl rfl rfl rfl (P_move rfl rfl) ?_
      refine T_pure rfl rfl rfl rfl (P_extract rfl rfl rfl) ?_
      refine T_pure rfl rfl rfl rfl (P_extract rfl rfl rfl) ?_
      first | (refine T_new rfl rfl (W_storeAll rfl rfl rfl rfl ty_ag_26 (rfl) (ledV_one _ _ _ _ rfl rfl) .h0 (rfl) (K_newT ?_))) | (refine T_new rfl rfl (W_storeAll rfl rfl rfl rfl ty_ag_26 (rfl) (ledV_one _ _ _ _ rfl rfl) .h1 (rfl) (K_newT ?_))) | (refine T_new rfl rfl (W_storeAll rfl rfl rfl rfl ty_ag_26 (rfl) (ledV_one _ _ _ _ rfl rfl) .h2 (rfl) (K_newT ?_))) | (refine T_new rfl rfl (W_storeAll rfl rfl rfl rfl ty_ag_26 (rfl) (ledV_one _ _ _ _ rfl rfl) .h3 (rfl) (K_newT ?_))) | (refine T_new rfl rfl (W_storeAll rfl rfl rfl rfl ty_ag_26 (rfl) (ledV_one _ _ _ _ rfl rfl) .h4 (rfl) (K_newT ?_))) | (refine T_new rfl rfl (W_storeAll rfl rfl rfl rfl ty_ag_26 (rfl) (ledV_one _ _ _ _ rfl rfl) .h5 (rfl) (K_newT ?_))) | (refine T_new rfl rfl (W_storeAll rfl rfl rfl rfl ty_ag_26 (rfl) (ledV_one _ _ _ _ rfl rfl) .h6 (rfl) (K_newT ?_))) | (refine T_new rfl rfl (W_storeAll rfl rfl rfl rfl ty_ag_26 (rfl) (ledV_one _ _ _ _ rfl rfl) .h7 (rfl) (K_newT ?_)))
      refine T_pure rfl rfl rfl rfl (P_assign rfl rfl) ?_
      refine T_nil ?_
      refine St.env (.cons (t := 2) rfl (.cons (t := 6) rfl (.cons (t := 8) rfl (.cons (t := 10) rfl (.cons (t := 12) rfl (.cons (t := 16) rfl (.cons (t := 17) rfl (.cons (t := 18) rfl (.cons (t := 20) rfl (.cons (t := 21) rfl .nil)))))))))) ?_
      exact Q_meet (b20, u1b, u1c, v1b, v1c) (by show (appL rcd ch (⟨l, [], 0, sumA l⟩ : Led) p A.s.h A.s.b x).acc.length ≤ (u1c) ∧ (appL rcd ch (⟨l, [], 0, sumA l⟩ : Led) p A.s.h A.s.b x).rel.length ≤ (v1c); exact ⟨hu1c, hv1c⟩) (by repeat (first | exact .nil | refine .cons rfl ?_ | refine .consE rfl (by first | rfl | (congr 1; omega) | (congr 1; push_cast; omega)) ?_)) (by first | exact (Weak.pick (p := [_, _, _]) (Weak.keep (Weak.keep (Weak.keep (Weak.keep (Weak.keep (Weak.keep (Weak.keep (Weak.keep (Weak.keep (Weak.keep (Weak.keep (Weak.keep (Weak.keep (Weak.keep (Weak.nil _)))))))))))))))) | exact (Weak.pick (p := [_, _]) (Weak.pick (p := [_, _]) (Weak.keep (Weak.keep (Weak.keep (Weak.keep (Weak.keep (Weak.keep (Weak.keep (Weak.keep (Weak.keep (Weak.keep (Weak.keep (Weak.keep (Weak.keep (Weak.nil _)))))))))))))))))
    ·rintro ⟨b20, u1b, u1c, v1b, v1c⟩ hinv
     replace hinv : (appL rcd ch (⟨l, [], 0, sumA l⟩ : Led) p A.s.h A.s.b x).acc.length ≤ u1c ∧ (appL rcd ch (⟨l, [], 0, sumA l⟩ : Led) p A.s.h A.s.b x).rel.length ≤ v1c := hinv
     show St (cx gl) _ ((20, .pointer (some ⟨b20, 0, none⟩)) :: (21, .int .i64 ((chkE rcd ch (⟨l, [], 0, sumA l⟩ : Led) p A.s.h x))) :: _) [REG rp sg rcd, blk b20 (ledV (.slice u1b (appL rcd ch (⟨l, [], 0, sumA l⟩ : Led) p A.s.h A.s.b x).acc.length u1c) (.slice v1b (appL rcd ch (⟨l, [], 0, sumA l⟩ : Led) p A.s.h A.s.b x).rel.length v1c) (appL rcd ch (⟨l, [], 0, sumA l⟩ : Led) p A.s.h A.s.b x).burnt (appL rcd ch (⟨l, [], 0, sumA l⟩ : Led) p A.s.h A.s.b x).sup) 26, ownS 38 5 (.slice u1b (appL rcd ch (⟨l, [], 0, sumA l⟩ : Led) p A.s.h A.s.b x).acc.length u1c) ((appL rcd ch (⟨l, [], 0, sumA l⟩ : Led) p A.s.h A.s.b x).acc.length) (rc ((appL rcd ch (⟨l, [], 0, sumA l⟩ : Led) p A.s.h A.s.b x).acc)), ownS 135 4 (.slice v1b (appL rcd ch (⟨l, [], 0, sumA l⟩ : Led) p A.s.h A.s.b x).rel.length v1c) ((appL rcd ch (⟨l, [], 0, sumA l⟩ : Led) p A.s.h A.s.b x).rel.length) (rc ((appL rcd ch (⟨l, [], 0, sumA l⟩ : Led) p A.s.h A.s.b x).rel)), blk wb [.pointer (some ⟨rp, 0, none⟩), .pointer (some ⟨rq, 0, none⟩), mv, ov, .string (strOfNums ch)] 101, blk b8 A.s.cells 90, blk b6 p.cells 62, blk b17 x.cells 88, blk b18 y.cells 88, blk b12 (ledV (.slice ub l.length uc) (.slice none 0 0) 0 (sumA l)) 26, ownS 38 5 (.slice ub l.length uc) (l.length) (rc (l)), blk b9 B.s.cells 90, REF rq tg rcd, ownS 169 1 (mv) (sg.length) (ptrs (sg)), ownS 172 1 (ov) (tg.length) (ptrs (tg))] _
     obtain ⟨hu1c, hv1c⟩ := hinv
     refine R_joinE (G := Nat × Option Addr × Nat × Option Addr × Nat) (.cons (t := 2) rfl (.cons (t := 6) rfl (.cons (t := 8) rfl (.cons (t := 10) rfl (.cons (t := 16) rfl (.cons (t := 17) rfl (.cons (t := 18) rfl (.cons (t := 20) rfl (.cons (t := 21) rfl .nil))))))))) (fun g => [(22, .pointer (some ⟨g.1, 0, none⟩)), (23, .int .i64 ((chkE rcd ch (⟨l, [], 0, sumA l⟩ : Led) p A.s.h y)))]) (fun g => [REG rp sg rcd, blk g.1 (ledV (.slice g.2.1 (appL rcd ch (⟨l, [], 0, sumA l⟩ : Led) p A.s.h A.s.b y).acc.length g.2.2.1) (.slice g.2.2.2.1 (appL rcd ch (⟨l, [], 0, sumA l⟩ : Led) p A.s.h A.s.b y).rel.length g.2.2.2.2) (appL rcd ch (⟨l, [], 0, sumA l⟩ : Led) p A.s.h A.s.b y).burnt (appL rcd ch (⟨l, [], 0, sumA l⟩ : Led) p A.s.h A.s.b y).sup) 26, ownS 38 5 (.slice g.2.1 (appL rcd ch (⟨l, [], 0, sumA l⟩ : Led) p A.s.h A.s.b y).acc.length g.2.2.1) ((appL rcd ch (⟨l, [], 0, sumA l⟩ : Led) p A.s.h A.s.b y).acc.length) (rc ((appL rcd ch (⟨l, [], 0, sumA l⟩ : Led) p A.s.h A.s.b y).acc)), ownS 135 4 (.slice g.2.2.2.1 (appL rcd ch (⟨l, [], 0, sumA l⟩ : Led) p A.s.h A.s.b y).rel.length g.2.2.2.2) ((appL rcd ch (⟨l, [], 0, sumA l⟩ : Led) p A.s.h A.s.b y).rel.length) (rc ((appL rcd ch (⟨l, [], 0, sumA l⟩ : Led) p A.s.h A.s.b y).rel)), blk b20 (ledV (.slice u1b (appL rcd ch (⟨l, [], 0, sumA l⟩ : Led) p A.s.h A.s.b x).acc.length u1c) (.slice v1b (appL rcd ch (⟨l, [], 0, sumA l⟩ : Led) p A.s.h A.s.b x).rel.length v1c) (appL rcd ch (⟨l, [], 0, sumA l⟩ : Led) p A.s.h A.s.b x).burnt (appL rcd ch (⟨l, [], 0, sumA l⟩ : Led) p A.s.h A.s.b x).sup) 26, ownS 38 5 (.slice u1b (appL rcd ch (⟨l, [], 0, sumA l⟩ : Led) p A.s.h A.s.b x).acc.length u1c) ((appL rcd ch (⟨l, [], 0, sumA l⟩ : Led) p A.s.h A.s.b x).acc.length) (rc ((appL rcd ch (⟨l, [], 0, sumA l⟩ : Led) p A.s.h A.s.b x).acc)), ownS 135 4 (.slice v1b (appL rcd ch (⟨l, [], 0, sumA l⟩ : Led) p A.s.h A.s.b x).rel.length v1c) ((appL rcd ch (⟨l, [], 0, sumA l⟩ : Led) p A.s.h A.s.b x).rel.length) (rc ((appL rcd ch (⟨l, [], 0, sumA l⟩ : Led) p A.s.h A.s.b x).rel)), blk wb [.pointer (some ⟨rp, 0, none⟩), .pointer (some ⟨rq, 0, none⟩), mv, ov, .string (strOfNums ch)] 101, blk b8 A.s.cells 90, blk b6 p.cells 62, blk b17 x.cells 88, blk b18 y.cells 88, blk b12 (ledV (.slice ub l.length uc) (.slice none 0 0) 0 (sumA l)) 26, ownS 38 5 (.slice ub l.length uc) (l.length) (rc (l)), blk b9 B.s.cells 90, REF rq tg rcd, ownS 169 1 (mv) (sg.length) (ptrs (sg)), ownS 172 1 (ov) (tg.length) (ptrs (tg))]) (fun g => (appL rcd ch (⟨l, [], 0, sumA l⟩ : Led) p A.s.h A.s.b y).acc.length ≤ g.2.2.1 ∧ (appL rcd ch (⟨l, [], 0, sumA l⟩ : Led) p A.s.h A.s.b y).rel.length ≤ g.2.2.2.2) ?_ ?_
     ·skip
      refine T_open (.op 0 1 (.op 1 0 (.op 2 0 (.op 3 0 (.op 4 1 (.op 5 0 (.op 6 1 (.op 7 0 (.op 8 1 (.op 9 0 (.op 10 1 (.op 11 1 (.two 12 16 (.op 13 0 (.op 14 0 (.op 15 0 (.op 16 2 (.op 17 3 (.op 18 0 .nil)))))) (.op 12 2 (.op 13 0 (.op 14 0 (.op 15 0 (.op 17 3 (.op 18 0 .nil))))))))))))))))))) mixed (by kernel_rfl) (QOk.then QOk.body) ?_
      refine T_val rfl rfl rfl rfl (V_loadAgg rfl rfl ty_ag_26 (by first | exact (Rds.blk .h9) | exact (Rds.blk .h10)) (rfl)) ?_
      refine T_pure rfl rfl rfl rfl (P_move rfl rfl) ?_
      refine T_pure rfl rfl rfl rfl (P_nil rfl rfl) ?_
      refine T_pure rfl rfl rfl rfl (P_fld0 rfl ty_fl_101_0 rfl) ?_
      refine T_val rfl rfl rfl rfl (V_load rfl rfl ty_sc_96 (by first | exact (Rd.blk .h4 rfl) | exact (Rd.blk .h5 rfl))) ?_
      refine T_pure rfl rfl rfl rfl (P_move rfl rfl) ?_
      refine T_val rfl rfl rfl rfl (V_loadAgg rfl rfl ty_ag_62 (by first | exact (Rds.blk .h6) | exact (Rds.blk .h7)) (rfl)) ?_
      refine T_pure rfl rfl rfl rfl (P_fld0 rfl ty_fl_90_3 rfl) ?_
      refine T_val rfl rfl rfl rfl (V_load rfl rfl ty_sc_24 (by first | exact (Rd.blk .h5 (stp_end A.ok 1 _ rfl)) | exact (Rd.blk .h6 (stp_end A.ok 1 _ rfl)))) ?_
      refine T_pure rfl rfl rfl rfl (P_fld0 rfl ty_fl_90_4 rfl) ?_
      refine T_val rfl rfl rfl rfl (V_load rfl rfl ty_sc_27 (by first | exact (Rd.blk .h5 (stp_end A.ok 2 _ rfl)) | exact (Rd.blk .h6 (stp_end A.ok 2 _ rfl)))) ?_
      refine T_val rfl rfl rfl rfl (V_loadAgg rfl rfl ty_ag_88 (by first | exact (Rds.blk .h8) | exact (Rds.blk .h9)) (hyo.cellsLen)) ?_
      refine T_two ?_ ?_
      ·skip
       refine T_keep rfl rfl (W_call rfl rfl rfl rfl fn_ca_43 (apply_ok hG.toGlobs rp sg rcd ub uc l huc (by omega) hok none 0 [] (Nat.le_refl _) (by decide) (fun y hy => by cases hy) 0 (sumA l) ⟨Int.le_refl 0, by decide⟩ ch hcb p hp3 A.s.h A.s.b A.ok.h y hyo) (by first | exact (Split.one (p := [])) | exact (Split.one (p := [_]))) (fun w a b ha hb dj m => ⟨by first | exact Sn.pre (Sn.own .h9 rfl) w a b ha hb dj m | exact Sn.pre (Sn.own .h10 rfl) w a b ha hb dj m, (fun j v hv => by cases hv)⟩) fun v18 rs18 ⟨u18, u18', z1, z2⟩ => ?_)
       subst z1; subst z2
       refine St.ownForm (p := []) fun u2b u2c huv hu2c => ?_
       subst huv
       refine St.ownForm (p := [_]) fun v2b v2c huv hv2c => ?_
       subst huv
       refine K_keepT (by first | exact (Weak.drop (Weak.drop (Weak.refl _))) | exact (Weak.drop (Weak.drop Weak.swap))) ?_
       refine T_pure rfl rfl rfl rfl (P_move rfl rfl) ?_
       refine T_pure rfl rfl rfl rfl (P_extract rfl rfl rfl) ?_
       refine T_pure rfl rfl rfl rfl (P_extract rfl rfl rfl) ?_
       refine T_keep rfl rfl (W_alloc rfl rfl rfl ty_ze_26 fun b22 => (K_keepT (Weak.drop (Weak.refl _)) ?_))
       first | (refine T_new rfl rfl (W_storeAll rfl rfl rfl rfl ty_ag_26 (rfl) (ledV_one _ _ _ _ rfl rfl) .h0 (rfl) (K_newT ?_))) | (refine T_new rfl rfl (W_storeAll rfl rfl rfl rfl ty_ag_26 (rfl) (ledV_one _ _ _ _ rfl rfl) .h1 (rfl) (K_newT ?_))) | (refine T_new rfl rfl (W_storeAll rfl rfl rfl rfl ty_ag_26 (rfl) (ledV_one _ _ _ _ rfl rfl) .h2 (rfl) (K_newT ?_))) | (refine T_new rfl rfl (W_storeAll rfl rfl rfl rfl ty_ag_26 (rfl) (ledV_one _ _ _ _ rfl rfl) .h3 (rfl) (K_newT ?_))) | (refine T_new rfl rfl (W_storeAll rfl rfl rfl rfl ty_ag_26 (rfl) (ledV_one _ _ _ _ rfl rfl) .h4 (rfl) (K_newT ?_))) | (refine T_new rfl rfl (W_storeAll rfl rfl rfl rfl ty_ag_26 (rfl) (ledV_one _ _ _ _ rfl rfl) .h5 (rfl) (K_newT ?_))) | (refine T_new rfl rfl (W_storeAll rfl rfl rfl rfl ty_ag_26 (rfl) (ledV_one _ _ _ _ rfl rfl) .h6 (rfl) (K_newT ?_))) | (refine T_new rfl rfl (W_storeAll rfl rfl rfl rfl ty_ag_26 (rfl) (ledV_one _ _ _ _ rfl rfl) .h7 (rfl) (K_newT ?_)))
       refine T_pure rfl rfl rfl rfl (P_assign rfl rfl) ?_
       refine T_nil ?_
       refine St.env (.cons (t := 2) rfl (.cons (t := 6) rfl (.cons (t := 8) rfl (.cons (t := 10) rfl (.cons (t := 16) rfl (.cons (t := 17) rfl (.cons (t := 18) rfl (.cons (t := 20) rfl (.cons (t := 21) rfl (.cons (t := 22) rfl (.cons (t := 23) rfl .nil))))))))))) ?_
       exact Q_meet (b22, u2b, u2c, v2b, v2c) (by show (appL rcd ch (⟨l, [], 0, sumA l⟩ : Led) p A.s.h A.s.b y).acc.length ≤ (u2c) ∧ (appL rcd ch (⟨l, [], 0, sumA l⟩ : Led) p A.s.h A.s.b y).rel.length ≤ (v2c); exact ⟨hu2c, hv2c⟩) (by repeat (first | exact .nil | refine .cons rfl ?_ | refine .consE rfl (by first | rfl | (congr 1; omega) | (congr 1; push_cast; omega)) ?_)) (by first | exact (Weak.pick (p := [_, _, _]) (Weak.keep (Weak.keep (Weak.keep (Weak.keep (Weak.keep (Weak.keep (Weak.keep (Weak.keep (Weak.keep (Weak.keep (Weak.keep (Weak.keep (Weak.keep (Weak.keep (Weak.keep (Weak.keep (Weak.keep (Weak.nil _))))))))))))))))))) | exact (Weak.pick (p := [_, _]) (Weak.pick (p := [_, _]) (Weak.keep (Weak.keep (Weak.keep (Weak.keep (Weak.keep (Weak.keep (Weak.keep (Weak.keep (Weak.keep (Weak.keep (Weak.keep (Weak.keep (Weak.keep (Weak.keep (Weak.keep (Weak.keep (Weak.nil _))))))))))))))))))))
      ·skip
       refine T_keep rfl rfl (W_alloc rfl rfl rfl ty_ze_26 fun b22 => (K_keepT (Weak.drop (Weak.refl _)) ?_))
       refine T_keep rfl rfl (W_call rfl rfl rfl rfl fn_ca_43 (apply_ok hG.toGlobs rp sg rcd ub uc l huc (by omega) hok none 0 [] (Nat.le_refl _) (by decide) (fun y hy => by cases hy) 0 (sumA l) ⟨Int.le_refl 0, by decide⟩ ch hcb p hp3 A.s.h A.s.b A.ok.h y hyo) (by first | exact (Split.one (p := [])) | exact (Split.one (p := [_]))) (fun w a b ha hb dj m => ⟨by first | exact Sn.pre (Sn.own .h9 rfl) w a b ha hb dj m | exact Sn.pre (Sn.own .h10 rfl) w a b ha hb dj m, (fun j v hv => by cases hv)⟩) fun v18 rs18 ⟨u18, u18', z1, z2⟩ => ?_)
       subst z1; subst z2
       refine St.ownForm (p := []) fun u2b u2c huv hu2c => ?_
       subst huv
       refine St.ownForm (p := [_]) fun v2b v2c huv hv2c => ?_
       subst huv
       refine K_keepT (by first | exact (Weak.drop (Weak.drop (Weak.refl _))) | exact (Weak.drop (Weak.drop Weak.swap))) ?_
       refine T_pure rfl rfl rfl rfl (P_move rfl rfl) ?_
       refine T_pure rfl rfl rfl rfl (P_extract rfl rfl rfl) ?_
       refine T_pure rfl rfl rfl rfl (P_extract rfl rfl rfl) ?_
       first | (refine T_new rfl rfl (W_storeAll rfl rfl rfl rfl ty_ag_26 (rfl) (ledV_one _ _ _ _ rfl rfl) .h0 (rfl) (K_newT ?_))) | (refine T_new rfl rfl (W_storeAll rfl rfl rfl rfl ty_ag_26 (rfl) (ledV_one _ _ _ _ rfl rfl) .h1 (rfl) (K_newT ?_))) | (refine T_new rfl rfl (W_storeAll rfl rfl rfl rfl ty_ag_26 (rfl) (ledV_one _ _ _ _ rfl rfl) .h2 (rfl) (K_newT ?_))) | (refine T_new rfl rfl (W_storeAll rfl rfl rfl rfl ty_ag_26 (rfl) (ledV_one _ _ _ _ rfl rfl) .h3 (rfl) (K_newT ?_))) | (refine T_new rfl rfl (W_storeAll rfl rfl rfl rfl ty_ag_26 (rfl) (ledV_one _ _ _ _ rfl rfl) .h4 (rfl) (K_newT ?_))) | (refine T_new rfl rfl (W_storeAll rfl rfl rfl rfl ty_ag_26 (rfl) (ledV_one _ _ _ _ rfl rfl) .h5 (rfl) (K_newT ?_))) | (refine T_new rfl rfl (W_storeAll rfl rfl rfl rfl ty_ag_26 (rfl) (ledV_one _ _ _ _ rfl rfl) .h6 (rfl) (K_newT ?_))) | (refine T_new rfl rfl (W_storeAll rfl rfl rfl rfl ty_ag_26 (rfl) (ledV_one _ _ _ _ rfl rfl) .h7 (rfl) (K_newT ?_)))
       refine T_pure rfl rfl rfl rfl (P_assign rfl rfl) ?_
       refine T_nil ?_
       refine St.env (.cons (t := 2) rfl (.cons (t := 6) rfl (.cons (t := 8) rfl (.cons (t := 10) rfl (.cons (t := 16) rfl (.cons (t := 17) rfl (.cons (t := 18) rfl (.cons (t := 20) rfl (.cons (t := 21) rfl (.cons (t := 22) rfl (.cons (t := 23) rfl .nil))))))))))) ?_
       exact Q_meet (b22, u2b, u2c, v2b, v2c) (by show (appL rcd ch (⟨l, [], 0, sumA l⟩ : Led) p A.s.h A.s.b y).acc.length ≤ (u2c) ∧ (appL rcd ch (⟨l, [], 0, sumA l⟩ : Led) p A.s.h A.s.b y).rel.length ≤ (v2c); exact ⟨hu2c, hv2c⟩) (by repeat (first | exact .nil | refine .cons rfl ?_ | refine .consE rfl (by first | rfl | (congr 1; omega) | (congr 1; push_cast; omega)) ?_)) (by first | exact (Weak.pick (p := [_, _, _]) (Weak.keep (Weak.keep (Weak.keep (Weak.keep (Weak.keep (Weak.keep (Weak.keep (Weak.keep (Weak.keep (Weak.keep (Weak.keep (Weak.keep (Weak.keep (Weak.keep (Weak.keep (Weak.keep (Weak.keep (Weak.nil _))))))))))))))))))) | exact (Weak.pick (p := [_, _]) (Weak.pick (p := [_, _]) (Weak.keep (Weak.keep (Weak.keep (Weak.keep (Weak.keep (Weak.keep (Weak.keep (Weak.keep (Weak.keep (Weak.keep (Weak.keep (Weak.keep (Weak.keep (Weak.keep (Weak.keep (Weak.keep (Weak.nil _))))))))))))))))))))
     ·rintro ⟨b22, u2b, u2c, v2b, v2c⟩ hinv
      replace hinv : (appL rcd ch (⟨l, [], 0, sumA l⟩ : Led) p A.s.h A.s.b y).acc.length ≤ u2c ∧ (appL rcd ch (⟨l, [], 0, sumA l⟩ : Led) p A.s.h A.s.b y).rel.length ≤ v2c := hinv
      show St (cx gl) _ ((22, .pointer (some ⟨b22, 0, none⟩)) :: (23, .int .i64 ((chkE rcd ch (⟨l, [], 0, sumA l⟩ : Led) p A.s.h y))) :: _) [REG rp sg rcd, blk b22 (ledV (.slice u2b (appL rcd ch (⟨l, [], 0, sumA l⟩ : Led) p A.s.h A.s.b y).acc.length u2c) (.slice v2b (appL rcd ch (⟨l, [], 0, sumA l⟩ : Led) p A.s.h A.s.b y).rel.length v2c) (appL rcd ch (⟨l, [], 0, sumA l⟩ : Led) p A.s.h A.s.b y).burnt (appL rcd ch (⟨l, [], 0, sumA l⟩ : Led) p A.s.h A.s.b y).sup) 26, ownS 38 5 (.slice u2b (appL rcd ch (⟨l, [], 0, sumA l⟩ : Led) p A.s.h A.s.b y).acc.length u2c) ((appL rcd ch (⟨l, [], 0, sumA l⟩ : Led) p A.s.h A.s.b y).acc.length) (rc ((appL rcd ch (⟨l, [], 0, sumA l⟩ : Led) p A.s.h A.s.b y).acc)), ownS 135 4 (.slice v2b (appL rcd ch (⟨l, [], 0, sumA l⟩ : Led) p A.s.h A.s.b y).rel.length v2c) ((appL rcd ch (⟨l, [], 0, sumA l⟩ : Led) p A.s.h A.s.b y).rel.length) (rc ((appL rcd ch (⟨l, [], 0, sumA l⟩ : Led) p A.s.h A.s.b y).rel)), blk b20 (ledV (.slice u1b (appL rcd ch (⟨l, [], 0, sumA l⟩ : Led) p A.s.h A.s.b x).acc.length u1c) (.slice v1b (appL rcd ch (⟨l, [], 0, sumA l⟩ : Led) p A.s.h A.s.b x).rel.length v1c) (appL rcd ch (⟨l, [], 0, sumA l⟩ : Led) p A.s.h A.s.b x).burnt (appL rcd ch (⟨l, [], 0, sumA l⟩ : Led) p A.s.h A.s.b x).sup) 26, ownS 38 5 (.slice u1b (appL rcd ch (⟨l, [], 0, sumA l⟩ : Led) p A.s.h A.s.b x).acc.length u1c) ((appL rcd ch (⟨l, [], 0, sumA l⟩ : Led) p A.s.h A.s.b x).acc.length) (rc ((appL rcd ch (⟨l, [], 0, sumA l⟩ : Led) p A.s.h A.s.b x).acc)), ownS 135 4 (.slice v1b (appL rcd ch (⟨l, [], 0, sumA l⟩ : Led) p A.s.h A.s.b x).rel.length v1c) ((appL rcd ch (⟨l, [], 0, sumA l⟩ : Led) p A.s.h A.s.b x).rel.length) (rc ((appL rcd ch (⟨l, [], 0, sumA l⟩ : Led) p A.s.h A.s.b x).rel)), blk wb [.pointer (some ⟨rp, 0, none⟩), .pointer (some ⟨rq, 0, none⟩), mv, ov, .string (strOfNums ch)] 101, blk b8 A.s.cells 90, blk b6 p.cells 62, blk b17 x.cells 88, blk b18 y.cells 88, blk b12 (ledV (.slice ub l.length uc) (.slice none 0 0) 0 (sumA l)) 26, ownS 38 5 (.slice ub l.length uc) (l.length) (rc (l)), blk b9 B.s.cells 90, REF rq tg rcd, ownS 169 1 (mv) (sg.length) (ptrs (sg)), ownS 172 1 (ov) (tg.length) (ptrs (tg))] _
      obtain ⟨hu2c, hv2c⟩ := hinv
      refine R_seq ?_
      refine R_seq ?_
      refine R_region ?_
      refine L_val rfl rfl rfl (OpP.v (P_move rfl rfl)) ?_
      refine L_val rfl rfl rfl (OpP.v (P_neq rfl rfl rfl)) ?_
      refine E_bool (t := 122) rfl (fun c1 => ?_) (fun c1 => ?_)
      ·skip
       refine L_val rfl rfl rfl (OpP.v (P_move rfl rfl)) ?_
       refine L_no rfl rfl rfl ?_
       refine L_no rfl rfl rfl ?_
       refine L_val rfl rfl rfl (OpP.v (P_pick rfl rfl rfl)) ?_
       refine L_nil ?_
       refine St.env (.cons (t := 2) rfl (.cons (t := 6) rfl (.cons (t := 8) rfl (.cons (t := 10) rfl (.cons (t := 16) rfl (.cons (t := 17) rfl (.cons (t := 18) rfl (.cons (t := 20) rfl (.cons (t := 21) rfl (.cons (t := 22) rfl (.cons (t := 23) rfl (.cons (t := 126) rfl .nil)))))))))))) ?_
       refine Q_then ?_
       refine R_condT rfl ?_
       refine R_seq ?_
       refine R_region ?_
       refine L_val rfl rfl rfl (OpP.v (P_assign rfl rfl)) ?_
       refine L_nil ?_
       refine St.env (.cons (t := 2) rfl (.cons (t := 6) rfl (.cons (t := 8) rfl (.cons (t := 10) rfl (.cons (t := 16) rfl (.cons (t := 17) rfl (.cons (t := 18) rfl (.cons (t := 20) rfl (.cons (t := 21) rfl (.cons (t := 22) rfl (.cons (t := 23) rfl .nil))))))))))) ?_
       refine Q_then ?_
       refine R_ret ?_
       refine Q_then_ret ?_
       exact R_endV rfl rfl (.tmp rfl .nil) (rfl)
      ·skip
       have c1 : (chkE rcd ch (⟨l, [], 0, sumA l⟩ : Led) p A.s.h x) = 0 := by have := of_decide_eq_false c1; omega
       refine L_val rfl rfl rfl (OpP.v (P_move rfl rfl)) ?_
       refine L_val rfl rfl rfl (OpP.v (P_move rfl rfl)) ?_
       refine L_val rfl rfl rfl (OpP.v (P_neq rfl rfl rfl)) ?_
       refine E_bool (t := 125) rfl (fun c2 => ?_) (fun c2 => ?_)
       ·skip
        refine L_val rfl rfl rfl (OpP.v (P_pick rfl rfl rfl)) ?_
        refine L_nil ?_
        refine St.env (.cons (t := 2) rfl (.cons (t := 6) rfl (.cons (t := 8) rfl (.cons (t := 10) rfl (.cons (t := 16) rfl (.cons (t := 17) rfl (.cons (t := 18) rfl (.cons (t := 20) rfl (.cons (t := 21) rfl (.cons (t := 22) rfl (.cons (t := 23) rfl (.cons (t := 126) rfl .nil)))))))))))) ?_
        refine Q_then ?_
        refine R_condT rfl ?_
        refine R_seq ?_
        refine R_region ?_
        refine L_val rfl rfl rfl (OpP.v (P_assign rfl rfl)) ?_
        refine L_nil ?_
        refine St.env (.cons (t := 2) rfl (.cons (t := 6) rfl (.cons (t := 8) rfl (.cons (t := 10) rfl (.cons (t := 16) rfl (.cons (t := 17) rfl (.cons (t := 18) rfl (.cons (t := 20) rfl (.cons (t := 21) rfl (.cons (t := 22) rfl (.cons (t := 23) rfl .nil))))))))))) ?_
        refine Q_then ?_
        refine R_ret ?_
        refine Q_then_ret ?_
        exact R_endV rfl rfl (.tmp rfl .nil) (rfl)
       ·skip
        have c2 : (chkE rcd ch (⟨l, [], 0, sumA l⟩ : Led) p A.s.h y) = 0 := by have := of_decide_eq_false c2; omega
        refine L_val rfl rfl rfl (OpP.v (P_pick rfl rfl rfl)) ?_
        refine L_nil ?_
        refine St.env (.cons (t := 2) rfl (.cons (t := 6) rfl (.cons (t := 8) rfl (.cons (t := 10) rfl (.cons (t := 16) rfl (.cons (t := 17) rfl (.cons (t := 18) rfl (.cons (t := 20) rfl (.cons (t := 21) rfl (.cons (t := 22) rfl (.cons (t := 23) rfl (.cons (t := 126) rfl .nil)))))))))))) ?_
        refine Q_then ?_
        refine R_condF rfl ?_
        refine R_skip ?_
        refine Q_then ?_
        refine R_seq ?_
        have fx1 := app_facts hup hok hxo A.ok.b hb A.ok.h hp3 c1
        have fx2 := app_facts hup hok hyo A.ok.b hb A.ok.h hp3 c2
        have hturn := app_turns hup hok hxo hyo A.ok.b hb hfr2 c1 c2
        rw [appL_zero c1] at hu1c hv1c ⊢
        rw [appL_zero c2] at hu2c hv2c ⊢
        generalize (appP (⟨l, [], 0, sumA l⟩ : Led) p A.s.h A.s.b x) = Lx at fx1 hturn hu1c hv1c ⊢
        generalize (appP (⟨l, [], 0, sumA l⟩ : Led) p A.s.h A.s.b y) = Ly at fx2 hturn hu2c hv2c ⊢
        obtain ⟨l1, r1, bu1, su1⟩ := Lx
        obtain ⟨g11, g12, g13, g14, g15⟩ := fx1
        obtain rfl : bu1 = 0 := g15
        replace g13 : l1.length ≤ l.length + 1 := g13
        replace g14 : r1.length ≤ 1 := g14
        replace hu1c : l1.length ≤ u1c := hu1c
        replace hv1c : r1.length ≤ v1c := hv1c
        obtain ⟨l2, r2, bu2, su2⟩ := Ly
        obtain ⟨g21, g22, g23, g24, g25⟩ := fx2
        obtain rfl : bu2 = 0 := g25
        replace g23 : l2.length ≤ l.length + 1 := g23
        replace g24 : r2.length ≤ 1 := g24
        replace hu2c : l2.length ≤ u2c := hu2c
        replace hv2c : r2.length ≤ v2c := hv2c
        refine St.res (rs' := [REG rp sg rcd, blk b22 (ledV (.slice u2b l2.length u2c) (.slice v2b r2.length v2c) 0 su2) 26, ownS 38 5 (.slice u2b l2.length u2c) (l2.length) (rc (l2)), ownS 135 4 (.slice v2b r2.length v2c) (r2.length) (rc (r2)), blk b20 (ledV (.slice u1b l1.length u1c) (.slice v1b r1.length v1c) 0 su1) 26, ownS 38 5 (.slice u1b l1.length u1c) (l1.length) (rc (l1)), ownS 135 4 (.slice v1b r1.length v1c) (r1.length) (rc (r1)), blk wb [.pointer (some ⟨rp, 0, none⟩), .pointer (some ⟨rq, 0, none⟩), mv, ov, .string (strOfNums ch)] 101, blk b8 A.s.cells 90, blk b6 p.cells 62, blk b17 x.cells 88, blk b18 y.cells 88, blk b12 (ledV (.slice ub l.length uc) (.slice none 0 0) 0 (sumA l)) 26, ownS 38 5 (.slice ub l.length uc) (l.length) (rc (l)), blk b9 B.s.cells 90, REF rq tg rcd, ownS 169 1 (mv) (sg.length) (ptrs (sg)), ownS 172 1 (ov) (tg.length) (ptrs (tg))]) (Weak.refl _) ?_
        refine R_open [(0, 1), (1, 0), (2, 0), (3, 0), (4, 1), (5, 0), (6, 1), (7, 0), (8, 1), (9, 0), (10, 1), (11, 1), (12, 2), (13, 0), (14, 0), (15, 0), (16, 3), (17, 0)] mixed (by kernel_rfl) (QOk.then QOk.body) ?_
        refine O_val rfl rfl rfl rfl (V_loadAgg rfl rfl ty_ag_26 (by first | exact (Rds.blk .h4)) (rfl)) ?_
        refine O_pure rfl rfl rfl rfl (P_move rfl rfl) ?_
        refine O_pure rfl rfl rfl rfl (P_nil rfl rfl) ?_
        refine O_pure rfl rfl rfl rfl (P_fld0 rfl ty_fl_101_0 rfl) ?_
        refine O_val rfl rfl rfl rfl (V_load rfl rfl ty_sc_96 (by first | exact (Rd.blk .h7 rfl))) ?_
        refine O_pure rfl rfl rfl rfl (P_move rfl rfl) ?_
        refine O_val rfl rfl rfl rfl (V_loadAgg rfl rfl ty_ag_62 (by first | exact (Rds.blk .h9)) (rfl)) ?_
        refine O_pure rfl rfl rfl rfl (P_fld0 rfl ty_fl_90_3 rfl) ?_
        refine O_val rfl rfl rfl rfl (V_load rfl rfl ty_sc_24 (by first | exact (Rd.blk .h8 (stp_end A.ok 1 _ rfl)))) ?_
        refine O_pure rfl rfl rfl rfl (P_fld0 rfl ty_fl_90_4 rfl) ?_
        refine O_val rfl rfl rfl rfl (V_load rfl rfl ty_sc_27 (by first | exact (Rd.blk .h8 (stp_end A.ok 2 _ rfl)))) ?_
        refine O_val rfl rfl rfl rfl (V_loadAgg rfl rfl ty_ag_88 (by first | exact (Rds.blk .h11)) (hyo.cellsLen)) ?_
        refine O_keep rfl rfl (W_call rfl rfl rfl rfl fn_ca_43 (apply_ok hG.toGlobs rp sg rcd u1b u1c l1 hu1c (by omega) g11 v1b v1c r1 hv1c (by omega) g12 0 su1 ⟨Int.le_refl 0, by decide⟩ ch hcb p hp3 A.s.h A.s.b A.ok.h y hyo) (by first | exact (Split.one (p := []))) (fun w a b ha hb dj m => ⟨by first | exact Sn.pre (Sn.own .h4 rfl) w a b ha hb dj m, by first | exact Sn.pre (Sn.own .h5 rfl) w a b ha hb dj m⟩) fun v21 rs21 ⟨u21, u21', z1, z2⟩ => ?_)
        subst z1; subst z2
        refine St.ownForm (p := []) fun u3b u3c huv hu3c => ?_
        subst huv
        refine St.ownForm (p := [_]) fun v3b v3c huv hv3c => ?_
        subst huv
        refine K_keep (by first | exact (Weak.drop (Weak.drop (Weak.refl _))) | exact (Weak.drop (Weak.drop Weak.swap))) ?_
        refine O_pure rfl rfl rfl rfl (P_move rfl rfl) ?_
        refine O_pure rfl rfl rfl rfl (P_extract rfl rfl rfl) ?_
        refine O_pure rfl rfl rfl rfl (P_extract rfl rfl rfl) ?_
        first | (refine O_new rfl rfl (W_storeAll rfl rfl rfl rfl ty_ag_26 (rfl) (ledV_one _ _ _ _ rfl rfl) .h0 (rfl) (K_new ?_))) | (refine O_new rfl rfl (W_storeAll rfl rfl rfl rfl ty_ag_26 (rfl) (ledV_one _ _ _ _ rfl rfl) .h1 (rfl) (K_new ?_))) | (refine O_new rfl rfl (W_storeAll rfl rfl rfl rfl ty_ag_26 (rfl) (ledV_one _ _ _ _ rfl rfl) .h2 (rfl) (K_new ?_))) | (refine O_new rfl rfl (W_storeAll rfl rfl rfl rfl ty_ag_26 (rfl) (ledV_one _ _ _ _ rfl rfl) .h3 (rfl) (K_new ?_))) | (refine O_new rfl rfl (W_storeAll rfl rfl rfl rfl ty_ag_26 (rfl) (ledV_one _ _ _ _ rfl rfl) .h4 (rfl) (K_new ?_))) | (refine O_new rfl rfl (W_storeAll rfl rfl rfl rfl ty_ag_26 (rfl) (ledV_one _ _ _ _ rfl rfl) .h5 (rfl) (K_new ?_))) | (refine O_new rfl rfl (W_storeAll rfl rfl rfl rfl ty_ag_26 (rfl) (ledV_one _ _ _ _ rfl rfl) .h6 (rfl) (K_new ?_))) | (refine O_new rfl rfl (W_storeAll rfl rfl rfl rfl ty_ag_26 (rfl) (ledV_one _ _ _ _ rfl rfl) .h7 (rfl) (K_new ?_)))
        refine O_pure rfl rfl rfl rfl (P_assign rfl rfl) ?_
        refine O_nil ?_
        refine St.env (.cons (t := 2) rfl (.cons (t := 6) rfl (.cons (t := 8) rfl (.cons (t := 10) rfl (.cons (t := 16) rfl (.cons (t := 17) rfl (.cons (t := 20) rfl (.cons (t := 21) rfl (.cons (t := 22) rfl (.cons (t := 23) rfl .nil)))))))))) ?_
        refine Q_then ?_
        refine R_seq ?_
        refine St.res (rs' := [REG rp sg rcd, blk b22 (ledV (.slice u2b l2.length u2c) (.slice v2b r2.length v2c) 0 su2) 26, ownS 38 5 (.slice u2b l2.length u2c) (l2.length) (rc (l2)), ownS 135 4 (.slice v2b r2.length v2c) (r2.length) (rc (r2)), blk b20 (ledV (.slice u3b (appL rcd ch (⟨l1, r1, 0, su1⟩ : Led) p A.s.h A.s.b y).acc.length u3c) (.slice v3b (appL rcd ch (⟨l1, r1, 0, su1⟩ : Led) p A.s.h A.s.b y).rel.length v3c) (appL rcd ch (⟨l1, r1, 0, su1⟩ : Led) p A.s.h A.s.b y).burnt (appL rcd ch (⟨l1, r1, 0, su1⟩ : Led) p A.s.h A.s.b y).sup) 26, ownS 38 5 (.slice u3b (appL rcd ch (⟨l1, r1, 0, su1⟩ : Led) p A.s.h A.s.b y).acc.length u3c) ((appL rcd ch (⟨l1, r1, 0, su1⟩ : Led) p A.s.h A.s.b y).acc.length) (rc ((appL rcd ch (⟨l1, r1, 0, su1⟩ : Led) p A.s.h A.s.b y).acc)), ownS 135 4 (.slice v3b (appL rcd ch (⟨l1, r1, 0, su1⟩ : Led) p A.s.h A.s.b y).rel.length v3c) ((appL rcd ch (⟨l1, r1, 0, su1⟩ : Led) p A.s.h A.s.b y).rel.length) (rc ((appL rcd ch (⟨l1, r1, 0, su1⟩ : Led) p A.s.h A.s.b y).rel)), blk wb [.pointer (some ⟨rp, 0, none⟩), .pointer (some ⟨rq, 0, none⟩), mv, ov, .string (strOfNums ch)] 101, blk b8 A.s.cells 90, blk b6 p.cells 62, blk b17 x.cells 88, blk b18 y.cells 88, blk b12 (ledV (.slice ub l.length uc) (.slice none 0 0) 0 (sumA l)) 26, ownS 38 5 (.slice ub l.length uc) (l.length) (rc (l)), blk b9 B.s.cells 90, REF rq tg rcd, ownS 169 1 (mv) (sg.length) (ptrs (sg)), ownS 172 1 (ov) (tg.length) (ptrs (tg))]) (Weak.pick (p := [_, _]) (Weak.pick (p := [_, _]) (Weak.pick (p := [_, _]) (Weak.pick (p := [_, _]) (Weak.pick (p := [_, _]) (Weak.keep (Weak.keep (Weak.pick (p := [_, _]) (Weak.pick (p := [_, _]) (Weak.pick (p := [_, _]) (Weak.pick (p := [_, _]) (Weak.pick (p := [_, _]) (Weak.pick (p := [_, _]) (Weak.pick (p := [_, _]) (Weak.pick (p := [_, _]) (Weak.pick (p := [_, _]) (Weak.pick (p := [_, _]) (Weak.pick (p := [_, _]) (Weak.nil _))))))))))))))))))) ?_
        refine R_open [(0, 1), (1, 0), (2, 0), (3, 0), (4, 1), (5, 0), (6, 1), (7, 0), (8, 1), (9, 0), (10, 1), (11, 1), (12, 2), (13, 0), (14, 0), (15, 0), (16, 3), (17, 0)] mixed (by kernel_rfl) (QOk.then QOk.body) ?_
        refine O_val rfl rfl rfl rfl (V_loadAgg rfl rfl ty_ag_26 (by first | exact (Rds.blk .h1)) (rfl)) ?_
        refine O_pure rfl rfl rfl rfl (P_move rfl rfl) ?_
        refine O_pure rfl rfl rfl rfl (P_nil rfl rfl) ?_
        refine O_pure rfl rfl rfl rfl (P_fld0 rfl ty_fl_101_0 rfl) ?_
        refine O_val rfl rfl rfl rfl (V_load rfl rfl ty_sc_96 (by first | exact (Rd.blk .h7 rfl))) ?_
        refine O_pure rfl rfl rfl rfl (P_move rfl rfl) ?_
        refine O_val rfl rfl rfl rfl (V_loadAgg rfl rfl ty_ag_62 (by first | exact (Rds.blk .h9)) (rfl)) ?_
        refine O_pure rfl rfl rfl rfl (P_fld0 rfl ty_fl_90_3 rfl) ?_
        refine O_val rfl rfl rfl rfl (V_load rfl rfl ty_sc_24 (by first | exact (Rd.blk .h8 (stp_end A.ok 1 _ rfl)))) ?_
        refine O_pure rfl rfl rfl rfl (P_fld0 rfl ty_fl_90_4 rfl) ?_
        refine O_val rfl rfl rfl rfl (V_load rfl rfl ty_sc_27 (by first | exact (Rd.blk .h8 (stp_end A.ok 2 _ rfl)))) ?_
        refine O_val rfl rfl rfl rfl (V_loadAgg rfl rfl ty_ag_88 (by first | exact (Rds.blk .h10)) (hxo.cellsLen)) ?_
        refine O_keep rfl rfl (W_call rfl rfl rfl rfl fn_ca_43 (apply_ok hG.toGlobs rp sg rcd u2b u2c l2 hu2c (by omega) g21 v2b v2c r2 hv2c (by omega) g22 0 su2 ⟨Int.le_refl 0, by decide⟩ ch hcb p hp3 A.s.h A.s.b A.ok.h x hxo) (by first | exact (Split.one (p := []))) (fun w a b ha hb dj m => ⟨by first | exact Sn.pre (Sn.own .h1 rfl) w a b ha hb dj m, by first | exact Sn.pre (Sn.own .h2 rfl) w a b ha hb dj m⟩) fun v22 rs22 ⟨u22, u22', z1, z2⟩ => ?_)
        subst z1; subst z2
        refine St.ownForm (p := []) fun u4b u4c huv hu4c => ?_
        subst huv
        refine St.ownForm (p := [_]) fun v4b v4c huv hv4c => ?_
        subst huv
        refine K_keep (by first | exact (Weak.drop (Weak.drop (Weak.refl _))) | exact (Weak.drop (Weak.drop Weak.swap))) ?_
        refine O_pure rfl rfl rfl rfl (P_move rfl rfl) ?_
        refine O_pure rfl rfl rfl rfl (P_extract rfl rfl rfl) ?_
        refine O_pure rfl rfl rfl rfl (P_extract rfl rfl rfl) ?_
        first | (refine O_new rfl rfl (W_storeAll rfl rfl rfl rfl ty_ag_26 (rfl) (ledV_one _ _ _ _ rfl rfl) .h0 (rfl) (K_new ?_))) | (refine O_new rfl rfl (W_storeAll rfl rfl rfl rfl ty_ag_26 (rfl) (ledV_one _ _ _ _ rfl rfl) .h1 (rfl) (K_new ?_))) | (refine O_new rfl rfl (W_storeAll rfl rfl rfl rfl ty_ag_26 (rfl) (ledV_one _ _ _ _ rfl rfl) .h2 (rfl) (K_new ?_))) | (refine O_new rfl rfl (W_storeAll rfl rfl rfl rfl ty_ag_26 (rfl) (ledV_one _ _ _ _ rfl rfl) .h3 (rfl) (K_new ?_))) | (refine O_new rfl rfl (W_storeAll rfl rfl rfl rfl ty_ag_26 (rfl) (ledV_one _ _ _ _ rfl rfl) .h4 (rfl) (K_new ?_))) | (refine O_new rfl rfl (W_storeAll rfl rfl rfl rfl ty_ag_26 (rfl) (ledV_one _ _ _ _ rfl rfl) .h5 (rfl) (K_new ?_))) | (refine O_new rfl rfl (W_storeAll rfl rfl rfl rfl ty_ag_26 (rfl) (ledV_one _ _ _ _ rfl rfl) .h6 (rfl) (K_new ?_))) | (refine O_new rfl rfl (W_storeAll rfl rfl rfl rfl ty_ag_26 (rfl) (ledV_one _ _ _ _ rfl rfl) .h7 (rfl) (K_new ?_)))
        refine O_pure rfl rfl rfl rfl (P_assign rfl rfl) ?_
        refine O_nil ?_
        refine St.env (.cons (t := 10) rfl (.cons (t := 20) rfl (.cons (t := 21) rfl (.cons (t := 22) rfl (.cons (t := 23) rfl .nil))))) ?_
        refine Q_then ?_
        refine R_seq ?_
        refine St.res (rs' := [REG rp sg rcd, blk b22 (ledV (.slice u4b (appL rcd ch (⟨l2, r2, 0, su2⟩ : Led) p A.s.h A.s.b x).acc.length u4c) (.slice v4b (appL rcd ch (⟨l2, r2, 0, su2⟩ : Led) p A.s.h A.s.b x).rel.length v4c) (appL rcd ch (⟨l2, r2, 0, su2⟩ : Led) p A.s.h A.s.b x).burnt (appL rcd ch (⟨l2, r2, 0, su2⟩ : Led) p A.s.h A.s.b x).sup) 26, ownS 38 5 (.slice u4b (appL rcd ch (⟨l2, r2, 0, su2⟩ : Led) p A.s.h A.s.b x).acc.length u4c) ((appL rcd ch (⟨l2, r2, 0, su2⟩ : Led) p A.s.h A.s.b x).acc.length) (rc ((appL rcd ch (⟨l2, r2, 0, su2⟩ : Led) p A.s.h A.s.b x).acc)), ownS 135 4 (.slice v4b (appL rcd ch (⟨l2, r2, 0, su2⟩ : Led) p A.s.h A.s.b x).rel.length v4c) ((appL rcd ch (⟨l2, r2, 0, su2⟩ : Led) p A.s.h A.s.b x).rel.length) (rc ((appL rcd ch (⟨l2, r2, 0, su2⟩ : Led) p A.s.h A.s.b x).rel)), blk b20 (ledV (.slice u3b (appL rcd ch (⟨l1, r1, 0, su1⟩ : Led) p A.s.h A.s.b y).acc.length u3c) (.slice v3b (appL rcd ch (⟨l1, r1, 0, su1⟩ : Led) p A.s.h A.s.b y).rel.length v3c) (appL rcd ch (⟨l1, r1, 0, su1⟩ : Led) p A.s.h A.s.b y).burnt (appL rcd ch (⟨l1, r1, 0, su1⟩ : Led) p A.s.h A.s.b y).sup) 26, ownS 38 5 (.slice u3b (appL rcd ch (⟨l1, r1, 0, su1⟩ : Led) p A.s.h A.s.b y).acc.length u3c) ((appL rcd ch (⟨l1, r1, 0, su1⟩ : Led) p A.s.h A.s.b y).acc.length) (rc ((appL rcd ch (⟨l1, r1, 0, su1⟩ : Led) p A.s.h A.s.b y).acc)), ownS 135 4 (.slice v3b (appL rcd ch (⟨l1, r1, 0, su1⟩ : Led) p A.s.h A.s.b y).rel.length v3c) ((appL rcd ch (⟨l1, r1, 0, su1⟩ : Led) p A.s.h A.s.b y).rel.length) (rc ((appL rcd ch (⟨l1, r1, 0, su1⟩ : Led) p A.s.h A.s.b y).rel)), blk wb [.pointer (some ⟨rp, 0, none⟩), .pointer (some ⟨rq, 0, none⟩), mv, ov, .string (strOfNums ch)] 101, blk b8 A.s.cells 90, blk b6 p.cells 62, blk b17 x.cells 88, blk b18 y.cells 88, blk b12 (ledV (.slice ub l.length uc) (.slice none 0 0) 0 (sumA l)) 26, ownS 38 5 (.slice ub l.length uc) (l.length) (rc (l)), blk b9 B.s.cells 90, REF rq tg rcd, ownS 169 1 (mv) (sg.length) (ptrs (sg)), ownS 172 1 (ov) (tg.length) (ptrs (tg))]) (Weak.pick (p := [_, _]) (Weak.pick (p := [_, _]) (Weak.keep (Weak.keep (Weak.pick (p := [_, _]) (Weak.pick (p := [_, _]) (Weak.pick (p := [_, _]) (Weak.pick (p := [_, _]) (Weak.pick (p := [_, _]) (Weak.pick (p := [_, _]) (Weak.pick (p := [_, _]) (Weak.pick (p := [_, _]) (Weak.pick (p := [_, _]) (Weak.pick (p := [_, _]) (Weak.pick (p := [_, _]) (Weak.pick (p := [_, _]) (Weak.pick (p := [_, _]) (Weak.pick (p := [_, _]) (Weak.nil _))))))))))))))))))) ?_
        refine R_region ?_
        refine L_val rfl rfl rfl (OpP.v (P_move rfl rfl)) ?_
        refine L_val rfl rfl rfl (OpP.v (P_neq rfl rfl rfl)) ?_
        refine E_bool (t := 160) rfl (fun c3 => ?_) (fun c3 => ?_)
        ·skip
         refine L_val rfl rfl rfl (OpP.v (P_move rfl rfl)) ?_
         refine L_no rfl rfl rfl ?_
         refine L_no rfl rfl rfl ?_
         refine L_val rfl rfl rfl (OpP.v (P_pick rfl rfl rfl)) ?_
         refine L_val rfl rfl rfl (OpP.v (P_move rfl rfl)) ?_
         refine L_no rfl rfl rfl ?_
         refine L_no rfl rfl rfl ?_
         refine L_no rfl rfl rfl ?_
         refine L_val rfl rfl rfl (OpP.v (P_pick rfl rfl rfl)) ?_
         refine L_val rfl rfl rfl (OpP.v (P_assign rfl rfl)) ?_
         refine L_nil ?_
         refine St.env (.cons (t := 10) rfl .nil) ?_
         refine Q_then ?_
         refine R_ret ?_
         exact R_endV rfl rfl (.tmp rfl .nil) (rfl)
        ·skip
         have c3 : (chkE rcd ch (⟨l1, r1, 0, su1⟩ : Led) p A.s.h y) = 0 := by have := of_decide_eq_false c3; omega
         refine L_val rfl rfl rfl (OpP.v (P_move rfl rfl)) ?_
         refine L_val rfl rfl rfl (OpP.v (P_move rfl rfl)) ?_
         refine L_val rfl rfl rfl (OpP.v (P_neq rfl rfl rfl)) ?_
         refine E_bool (t := 163) rfl (fun c4 => ?_) (fun c4 => ?_)
         ·skip
          refine L_val rfl rfl rfl (OpP.v (P_pick rfl rfl rfl)) ?_
          refine L_val rfl rfl rfl (OpP.v (P_move rfl rfl)) ?_
          refine L_no rfl rfl rfl ?_
          refine L_no rfl rfl rfl ?_
          refine L_no rfl rfl rfl ?_
          refine L_val rfl rfl rfl (OpP.v (P_pick rfl rfl rfl)) ?_
          refine L_val rfl rfl rfl (OpP.v (P_assign rfl rfl)) ?_
          refine L_nil ?_
          refine St.env (.cons (t := 10) rfl .nil) ?_
          refine Q_then ?_
          refine R_ret ?_
          exact R_endV rfl rfl (.tmp rfl .nil) (rfl)
         ·skip
          have c4 : (chkE rcd ch (⟨l2, r2, 0, su2⟩ : Led) p A.s.h x) = 0 := by have := of_decide_eq_false c4; omega
          have hT := hturn c3 c4
          obtain ⟨hT1, hT2⟩ := app_len (⟨l2, r2, 0, su2⟩ : Led) p A.s.h A.s.b x
          rw [appL_zero c3, hT] at hu3c hv3c ⊢
          rw [appL_zero c4] at hu4c hv4c ⊢
          generalize (appP (⟨l2, r2, 0, su2⟩ : Led) p A.s.h A.s.b x) = T at hT1 hT2 hu3c hv3c hu4c hv4c ⊢
          replace hT1 : T.acc.length ≤ l2.length + 1 := hT1
          replace hT2 : T.rel.length ≤ r2.length + 1 := hT2
          refine L_val rfl rfl rfl (OpP.v (P_pick rfl rfl rfl)) ?_
          refine L_val rfl rfl rfl (OpP.v (P_move rfl rfl)) ?_
          refine L_val rfl rfl rfl (V_loadAgg rfl rfl ty_ag_26 (Rds.blk .h4) (rfl)) ?_
          refine L_val rfl rfl rfl (V_loadAgg rfl rfl ty_ag_26 (Rds.blk .h1) (rfl)) ?_
          refine L_op rfl (W_callV rfl rfl rfl rfl fn_ca_34 (sameL_ok u3b v3b u4b v4b u3c v3c u4c v4c T.acc T.rel T.burnt T.sup hu3c hv3c hu4c hv4c (by omega) (by omega)) (fun w nw => ⟨(Sn.own .h5 rfl).rw_ w nw, (Sn.own .h6 rfl).rw_ w nw, (Sn.own .h2 rfl).rw_ w nw, (Sn.own .h3 rfl).rw_ w nw⟩) ?_)
          refine L_val rfl rfl rfl (OpP.v (P_pick rfl rfl rfl)) ?_
          refine L_val rfl rfl rfl (OpP.v (P_assign rfl rfl)) ?_
          refine L_nil ?_
          refine St.env (.cons (t := 10) rfl .nil) ?_
          refine Q_then ?_
          refine R_ret ?_
          exact R_endV rfl rfl (.tmp rfl .nil) (rfl)
end Go.Proofs.YtfhjhaogmdaepaaGreatDoor

/- How steps are read. Printed by gen.py. -/
set_option linter.unusedVariables false
set_option linter.unusedSimpArgs false
set_option maxRecDepth 100000
namespace Go.Proofs.YtfhjhaogmdaepaaGreatDoor
open Go Go.RowKit Go.ChangeShapes Go.WideShapes Go.Proofs
theorem cells_stp : Tryz.prog.cellsOf 90 = 28 := by kernel_rfl
theorem fs_stp : fsB Tryz.prog 90 [(3, 0, 1), (88, 1, 22), (4, 23, 1), (24, 24, 1), (27, 25, 1), (27, 26, 1), (24, 27, 1)] = true := by kernel_rfl
def stpOf (a : Int × Tx × Bool × Int × Int × Int × Int × Unit) : Stp := ⟨a.1, a.2.1, a.2.2.1, a.2.2.2.1, a.2.2.2.2.1, a.2.2.2.2.2.1, a.2.2.2.2.2.2.1⟩
def rd_stp := PLift.up (Reads.as (cells' := Stp.cells) (Hd' := fun _ x => x.ok) (bulk' := fun _ => 1) (Small' := fun _ => True) stpOf (Reads.struct fs_stp cells_stp (ReadsF.cons (Reads.int ty_int_3) (ReadsF.cons rd_tx.down (ReadsF.cons (Reads.bool ty_bool_4) (ReadsF.cons (Reads.int ty_int_24) (ReadsF.cons (Reads.int ty_int_27) (ReadsF.cons (Reads.int ty_int_27) (ReadsF.cons (Reads.int ty_int_24) ReadsF.nil)))))))) (fun a => by simp [Stp.cells, stpOf]) (fun W a h => by
 obtain ⟨⟨⟨h0, _⟩, ⟨h1, _⟩, ⟨h2, _⟩, ⟨h3, _⟩, ⟨h4, _⟩, ⟨h5, _⟩, ⟨h6, _⟩, _⟩, _⟩ := h
 exact ⟨h1, fits64 h3, fits64 h4, fits64 h5, fits64 h6⟩) (fun _ => by omega) (fun _ _ => trivial))
end Go.Proofs.YtfhjhaogmdaepaaGreatDoor

/- What the listed variables hold. Printed by gen.py. -/
set_option linter.unusedVariables false
set_option linter.unusedSimpArgs false
set_option maxRecDepth 100000
namespace Go.Proofs.YtfhjhaogmdaepaaGreatDoor
open Go Go.RowKit Go.ChangeShapes Go.WideShapes Go.Proofs
theorem ownNone : ownKnob Tryz.prog.godebug = none := by kernel_rfl
noncomputable def laid3 : List (String × DataW Unit) := [("assent/assentref02.adds", Rows.laid_assent_assentref02_adds), ("assent/digest.adds", Rows.laid_assent_digest_adds), ("assent/digest.begin", Rows.laid_assent_digest_begin)]
theorem laid3_door (os : Os) (args : Array Value) : laidMetH Tryz.prog laid3 ((World.doorLaid Tryz.prog 400 os).forCall (fun _ _ => 0) ⟨#[], args, []⟩).memory :=
 laidMetH_of_parts3 (fuel := 8) (laidMet_of_run' 8 (by kernel_rfl) (by kernel_rfl)) (by kernel_rfl) (by kernel_rfl)
theorem gRef : Tryz.prog.globalNamed "assent/assentref02.adds" = some 0 := by kernel_rfl
theorem gAdds : Tryz.prog.globalNamed "assent/digest.adds" = some 4 := by kernel_rfl
theorem gBegin : Tryz.prog.globalNamed "assent/digest.begin" = some 3 := by kernel_rfl
theorem tRef : (Tryz.prog.globals[0]?).map (·.type) = some 208 := by kernel_rfl
theorem tAdds : (Tryz.prog.globals[4]?).map (·.type) = some 208 := by kernel_rfl
theorem tBegin : (Tryz.prog.globals[3]?).map (·.type) = some 131 := by kernel_rfl
theorem cells_108 : Tryz.prog.cellsOf 108 = 1 := by kernel_rfl
theorem cells_208 : Tryz.prog.cellsOf 208 = 64 := by kernel_rfl
theorem cells_131 : Tryz.prog.cellsOf 131 = 8 := by kernel_rfl
theorem arr_of_laid {H : Type} {enc : TypeId × Value → H} {W : World} {base : Nat} {sp : Nat → Bool} {hd : Bool} {t n fuel : Nat} {cs : Array Value} {zs : List Int} {ps : List MemPlace} (ht : Tryz.prog.underlying t = some (.array n 108)) (hc : Tryz.prog.cellsOf t = n)
  (h : DataW.trod enc Tryz.prog W base sp hd fuel t cs.toList = some (.agg (lits .u32 zs), ps)) : cs = (ints .u32 zs).toArray := by
 obtain ⟨ys, h1, _, h3, _⟩ := open_intArr ht ty_int_108 cells_108 hc h
 simp only [Prod.mk.injEq, DataW.agg.injEq] at h3
 rw [lits_inj h3.1, ← h1]
theorem glob_of {W : World} {i : Nat} {o : Obj} (h : W.heap[i]? = some o) : (W.heap[i]?).getD default = o := by rw [h]; rfl
/-- What the condition gives: the world's first blocks are the program's tables. -/
theorem globs_of_laid {W : World} (h : laidMetH Tryz.prog laid3 W) : ∃ gl, GlobsR gl ∧ (cx gl).ok W := by
 rw [MakeChecks.laidMetH_plain _ _ _ (by kernel_rfl)] at h
 obtain ⟨ps, ⟨g0, t0, cs0, f0, p0, q0, hg0, ht0, hv0, hd0, ⟨g1, t1, cs1, f1, p1, q1, hg1, ht1, hv1, hd1, ⟨g2, t2, cs2, f2, p2, q2, hg2, ht2, hv2, hd2, _, _⟩, _⟩, _⟩, _, _⟩ := h
 obtain rfl := Option.some.inj (gRef.symm.trans hg0)
 obtain rfl := Option.some.inj (gAdds.symm.trans hg1)
 obtain rfl := Option.some.inj (gBegin.symm.trans hg2)
 obtain rfl := Option.some.inj (tRef.symm.trans ht0)
 obtain rfl := Option.some.inj (tAdds.symm.trans ht1)
 obtain rfl := Option.some.inj (tBegin.symm.trans ht2)
 obtain rfl := arr_of_laid (zs := addsK) ty_un_208 cells_208 hd0
 obtain rfl := arr_of_laid (zs := addsK) ty_un_208 cells_208 hd1
 obtain rfl := arr_of_laid (zs := beginK) ty_un_131 cells_131 hd2
 obtain ⟨T0, r0, e0⟩ := var_heap gRef hv0
 obtain ⟨T1, r1, e1⟩ := var_heap gAdds hv1
 obtain ⟨T2, r2, e2⟩ := var_heap gBegin hv2
 refine ⟨fun i => (W.heap[i]?).getD default, ⟨⟨⟨T2, r2, glob_of e2⟩, ⟨T1, r1, glob_of e1⟩⟩, ⟨T0, r0, glob_of e0⟩⟩, fun i hi => ?_⟩
 have hi : i < 5 := hi
 have hs := lt_of_some (w := W) e1
 show W.heap[i]? = some ((W.heap[i]?).getD default)
 rw [Array.getElem?_eq_getElem (by omega)]; rfl
end Go.Proofs.YtfhjhaogmdaepaaGreatDoor
