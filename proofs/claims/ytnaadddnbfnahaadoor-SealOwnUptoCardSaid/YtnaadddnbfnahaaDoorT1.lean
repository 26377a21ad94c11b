/- The document's registry. Printed by gen.py. -/
import Derived.Test.YtnaadddnbfnahaaDoorS8
import Derived.Test.YtnaadddnbfnahaaDoorRead
set_option linter.unusedVariables false
set_option linter.unusedSimpArgs false
set_option maxRecDepth 100000
namespace Go.Proofs.YtnaadddnbfnahaaDoor
open Go Go.RowKit Go.Proofs
def recC (rc : List Rcd) : List Value := rc.flatMap fun x => [.int .u64 x.1, .string (strOfNums x.2)]
theorem recC_snoc (rc : List Rcd) (x : Rcd) : recC rc ++ [.int .u64 x.1, .string (strOfNums x.2)] = recC (rc ++ [x]) := by simp [recC]
def tgH (q : Nat) (x : Int × Nat) : HP := blk x.2 [.pointer (some ⟨q, 0, none⟩), .int .u64 x.1] 135
def enOf (tg : List (Int × Nat)) : List Int := tg.map (·.1)
theorem enOf_length (tg : List (Int × Nat)) : (enOf tg).length = tg.length := by simp [enOf]
def RecOK (rc : List Rcd) : Prop := ∀ x ∈ rc, IsB x.2 ∧ x.2.length ≤ 1048576
def refL (q : Nat) (ve vr : Value) (tg : List (Int × Nat)) (rc : List Rcd) : List HP :=
  [blk q [.bool true, ve, vr] 118, ownS 23 1 ve tg.length (ints .u64 (enOf tg)), ownS 133 2 vr rc.length (recC rc), fam (tgH q) tg]
/-- The document's registry. -/
def REF (q : Nat) (tg : List (Int × Nat)) (rc : List Rcd) : HP := ExP (fun x : Value × Value => RecOK rc) fun x => bundle (refL q x.1 x.2 tg rc)
theorem ref_close {q : Nat} {ve vr : Value} {tg : List (Int × Nat)} {rc : List Rcd} {rs : List HP} (h : RecOK rc) : Weak (refL q ve vr tg rc ++ rs) (REF q tg rc :: rs) :=
  Weak.bundle.trans (Weak.toEx (p := fun x : Value × Value => RecOK rc) (s := fun x => bundle (refL q x.1 x.2 tg rc)) (ve, vr) h)
theorem RecOK.snoc {rc : List Rcd} {x : Rcd} (h : RecOK rc) (h1 : IsB x.2) (h2 : x.2.length ≤ 1048576) : RecOK (rc ++ [x]) := fun y hy => by
  rcases List.mem_append.1 hy with hy | hy
  · exact h y hy
  · simp only [List.mem_singleton] at hy; subst hy; exact ⟨h1, h2⟩
section
variable {C : Cx} {F : Fx} {rs : List HP}
theorem rd_rec {T b cap n i : Nat} {rc : List Rcd} {x : Rcd} (m : Has rs (ownS T 2 (.slice (some ⟨b, 0, none⟩) n cap) n (recC rc)) (ownS T 2 (.slice (some ⟨b, 0, none⟩) n cap) n (recC rc)) rs) (hi : rc[i]? = some x) : Rd C F rs ⟨b, 0 + i * 2, none⟩ (.int .u64 x.1) ∧ Rd C F rs ⟨b, 0 + i * 2 + 1, none⟩ (.string (strOfNums x.2)) := by
  have h := rows_at (g := fun x : Rcd => [Value.int .u64 x.1, .string (strOfNums x.2)]) (n := 2) (fun _ _ => rfl) hi
  have h0 := h 0 _ rfl
  have h1 := h 1 _ rfl
  rw [Nat.zero_add]
  exact ⟨Rd.own m h0, Rd.own m h1⟩
theorem rd_tg {q i : Nat} {a : Int} {s : Nat} {tg : List (Int × Nat)} (m : Has rs (fam (tgH q) tg) (fam (tgH q) tg) rs) (hi : tg[i]? = some (a, s)) : Rd C F rs ⟨s, 0, none⟩ (.pointer (some ⟨q, 0, none⟩)) ∧ Rd C F rs ⟨s, 1, none⟩ (.int .u64 a) := by
  have h : Sn C F rs (some ⟨s, 0, none⟩) [.pointer (some ⟨q, 0, none⟩), .int .u64 a] := Sn.fam m hi fun rs m => Sn.ofBlk m
  have key : ∀ (j : Nat) (u : Value), [Value.pointer (some ⟨q, 0, none⟩), .int .u64 a][j]? = some u → Rd C F rs ⟨s, j, none⟩ u := fun j u hu w nw => by
    obtain ⟨ad, e, hc⟩ := h.rw_ w nw j u hu
    rw [Option.some.injEq] at e
    subst e
    rwa [add_zero_off, Nat.zero_add] at hc
  exact ⟨key 0 _ rfl, key 1 _ rfl⟩
end
theorem not_mem_of_all {α : Type} {l : List α} {x : α} (h : ∀ j, j < l.length → ∀ y, l[j]? = some y → y ≠ x) : x ∉ l := fun hm => by
  obtain ⟨i, hi, e⟩ := List.mem_iff_getElem.1 hm
  exact h i hi x (by rw [List.getElem?_eq_getElem hi, e]) rfl
theorem rgood_ok {gl : Nat → Obj} (q : Nat) (v1 v2 : Value) (b : Bool) : SpecR (cx gl) 54 [.pointer (some ⟨q, 0, none⟩)] (fun _ _ => True) [blk q [.bool b, v1, v2] 118] (.bool b) [blk q [.bool b, v1, v2] 118] := by
  refine Spec.enter (C := cx gl) Tryd.func54 rfl 11 rfl rfl fun w0 h0 hsep hsub hpre => ?_
  show St (cx gl) _ [(0, .pointer (some ⟨q, 0, none⟩))] _ _
  refine R_seq ?_
  refine R_region ?_
  refine L_val rfl rfl rfl (OpP.v (P_assign rfl rfl)) ?_
  refine L_nil ?_
  refine Q_then ?_
  refine R_seq ?_
  refine R_region ?_
  refine L_val rfl rfl rfl (OpP.v (P_move rfl rfl)) ?_
  refine L_val rfl rfl rfl (OpP.v (P_neNil rfl ty_ptr_73 rfl rfl)) ?_
  refine L_val rfl rfl rfl (OpP.v (P_move rfl rfl)) ?_
  refine L_val rfl rfl rfl (OpP.v (P_move rfl rfl)) ?_
  refine L_val rfl rfl rfl (OpP.v (P_nil rfl rfl)) ?_
  refine L_val rfl rfl rfl (OpP.v (P_fld0 rfl ty_fl_118_0 rfl)) ?_
  refine L_val rfl rfl rfl (V_load rfl rfl ty_sc_4 (by first | exact Rd.blk .h0 rfl | exact Rd.blk .h1 rfl | exact Rd.blk .h2 rfl | exact Rd.blk .h3 rfl | exact Rd.blk .h4 rfl | exact Rd.blk .h5 rfl | exact Rd.blk .h6 rfl | exact Rd.blk .h7 rfl)) ?_
  refine L_val rfl rfl rfl (OpP.v (P_pick rfl rfl rfl)) ?_
  refine L_val rfl rfl rfl (OpP.v (P_assign rfl rfl)) ?_
  refine L_nil ?_
  refine St.env (.cons (t := 2) rfl .nil) ?_
  refine Q_then ?_
  refine R_ret ?_
  exact R_end (rs2 := _) rfl rfl (.tmp rfl .nil) (⟨rfl, rfl⟩) (Weak.refl _)
theorem rnew_ok {gl : Nat → Obj} : Spec (cx gl) 47 [] (fun _ _ => True) [] (fun v rs => ∃ q, v = .pointer (some ⟨q, 0, none⟩) ∧ rs = [REF q [] []]) := by
  refine Spec.enter (C := cx gl) Tryd.func47 rfl 3 rfl rfl fun w0 h0 hsep hsub hpre => ?_
  obtain rfl : h0 = Heap.none := hsep
  show St (cx gl) _ [] _ _
  refine R_seq ?_
  refine R_region ?_
  refine L_val rfl rfl rfl (OpP.v (P_assign rfl rfl)) ?_
  refine L_nil ?_
  refine Q_then ?_
  refine R_seq ?_
  refine R_region ?_
  refine L_val rfl rfl rfl (OpP.v (P_buildStruct rfl ty_pl_118 ty_ze_118 rfl rfl (rfl))) ?_
  refine E_as (t := 1) (v' := .agg [.bool true, .slice none 0 0, .slice none 0 0].toArray) rfl (rfl) ?_
  refine L_op rfl (W_box ([.bool true, .slice none 0 0, .slice none 0 0]) rfl rfl rfl rfl rfl fun b2 => ?_)
  refine L_val rfl rfl rfl (OpP.v (P_assign rfl rfl)) ?_
  refine L_nil ?_
  refine St.env (.cons (t := 0) rfl .nil) ?_
  refine Q_then ?_
  refine R_ret ?_
  refine St.res (rs' := [blk b2 [.bool true, .slice none 0 0, .slice none 0 0] 118, ownS 23 1 (.slice none 0 0) 0 (ints .u64 (enOf [])), ownS 133 2 (.slice none 0 0) 0 (recC []), fam (tgH b2) []]) (Weak.keep (Weak.newNil.trans (Weak.keep (Weak.newNil.trans (Weak.keep Weak.famNil))))) ?_
  exact R_end (rs2 := _) rfl rfl (.tmp rfl .nil) (⟨b2, rfl, rfl⟩) (ref_close (rs := []) (fun _ h => by cases h))
theorem rcount_ok {gl : Nat → Obj} (q : Nat) (tg : List (Int × Nat)) (rc : List Rcd) : SpecR (cx gl) 32 [.pointer (some ⟨q, 0, none⟩)] (fun _ _ => True) [REF q tg rc] (.int .i64 (rc.length : Int)) [REF q tg rc] := by
  refine Spec.enter (C := cx gl) Tryd.func32 rfl 11 rfl rfl fun w0 h0 hsep hsub hpre => ?_
  show St (cx gl) _ [(0, .pointer (some ⟨q, 0, none⟩))] _ _
  refine St.openP (p := []) (fun ⟨ve, vr⟩ hok => ?_)
  refine St.unbundle [] ?_
  refine St.ownForm (p := [_]) fun eb ec heb hec => ?_
  dsimp only at heb; subst heb
  refine St.ownForm (p := [_, _]) fun rb rcap hrb hrc_ => ?_
  dsimp only at hrb; subst hrb
  refine St.res (rs' := [blk q [.bool true, .slice eb tg.length ec, .slice rb rc.length rcap] 118, ownS 23 1 (.slice eb tg.length ec) (tg).length (ints .u64 (enOf (tg))), ownS 133 2 (.slice rb rc.length rcap) (rc).length (recC (rc)), fam (tgH q) (tg)]) (Weak.refl _) ?_
  refine R_seq ?_
  refine R_region ?_
  refine L_val rfl rfl rfl (OpP.v (P_assign rfl rfl)) ?_
  refine L_nil ?_
  refine Q_then ?_
  refine R_seq ?_
  refine R_seq ?_
  refine R_region ?_
  refine L_val rfl rfl rfl (OpP.v (P_move rfl rfl)) ?_
  refine L_op rfl (W_callR rfl rfl rfl rfl fn_ca_54 (rgood_ok q (.slice eb tg.length ec) (.slice rb rc.length rcap) true) (Split.one (p := [])) (fun _ _ _ _ _ _ _ => trivial) ?_)
  refine St.res (rs' := [blk q [.bool true, .slice eb tg.length ec, .slice rb rc.length rcap] 118, ownS 23 1 (.slice eb tg.length ec) (tg).length (ints .u64 (enOf (tg))), ownS 133 2 (.slice rb rc.length rcap) (rc).length (recC (rc)), fam (tgH q) (tg)]) (Weak.refl _) ?_
  refine L_val rfl rfl rfl (OpP.v (P_not rfl rfl)) ?_
  refine E_false (t := 5) rfl (rfl) ?_
  refine L_nil ?_
  refine St.env (.cons (t := 0) rfl (.cons (t := 2) rfl (.cons (t := 5) rfl .nil))) ?_
  refine Q_then ?_
  refine R_condF rfl ?_
  refine R_skip ?_
  refine Q_then ?_
  refine R_seq ?_
  refine R_region ?_
  refine L_val rfl rfl rfl (OpP.v (P_move rfl rfl)) ?_
  refine L_val rfl rfl rfl (OpP.v (P_nil rfl rfl)) ?_
  refine L_val rfl rfl rfl (OpP.v (P_fld0 rfl ty_fl_118_2 rfl)) ?_
  refine L_val rfl rfl rfl (V_load rfl rfl ty_sc_116 (by first | exact Rd.blk .h0 rfl | exact Rd.blk .h1 rfl | exact Rd.blk .h2 rfl | exact Rd.blk .h3 rfl | exact Rd.blk .h4 rfl | exact Rd.blk .h5 rfl | exact Rd.blk .h6 rfl | exact Rd.blk .h7 rfl)) ?_
  refine L_val rfl rfl rfl (OpP.v (P_len rfl ty_sl_116 rfl)) ?_
  refine L_val rfl rfl rfl (OpP.v (P_assign rfl rfl)) ?_
  refine L_nil ?_
  refine St.env (.cons (t := 2) rfl .nil) ?_
  refine Q_then ?_
  refine R_ret ?_
  exact R_end (rs2 := [REF q (tg) (rc)]) rfl rfl (.tmp rfl .nil) (⟨rfl, rfl⟩) (ref_close (rs := []) hok)
theorem raddr_ok {gl : Nat → Obj} (q : Nat) (tg : List (Int × Nat)) (rc : List Rcd) (i : Nat) (a : Int) (s : Nat) (hi : tg[i]? = some (a, s)) : SpecR (cx gl) 53 [.pointer (some ⟨s, 0, none⟩)] (fun _ _ => True) [REF q tg rc] (.int .u64 a) [REF q tg rc] := by
  refine Spec.enter (C := cx gl) Tryd.func53 rfl 9 rfl rfl fun w0 h0 hsep hsub hpre => ?_
  show St (cx gl) _ [(0, .pointer (some ⟨s, 0, none⟩))] _ _
  refine St.openP (p := []) (fun ⟨ve, vr⟩ hok => ?_)
  refine St.unbundle [] ?_
  refine St.ownForm (p := [_]) fun eb ec heb hec => ?_
  dsimp only at heb; subst heb
  refine St.ownForm (p := [_, _]) fun rb rcap hrb hrc_ => ?_
  dsimp only at hrb; subst hrb
  refine St.res (rs' := [blk q [.bool true, .slice eb tg.length ec, .slice rb rc.length rcap] 118, ownS 23 1 (.slice eb tg.length ec) (tg).length (ints .u64 (enOf (tg))), ownS 133 2 (.slice rb rc.length rcap) (rc).length (recC (rc)), fam (tgH q) (tg)]) (Weak.refl _) ?_
  refine R_seq ?_
  refine R_region ?_
  refine L_val rfl rfl rfl (OpP.v (P_assign rfl rfl)) ?_
  refine L_nil ?_
  refine Q_then ?_
  refine R_seq ?_
  refine R_seq ?_
  refine R_region ?_
  refine L_val rfl rfl rfl (OpP.v (P_move rfl rfl)) ?_
  refine L_val rfl rfl rfl (OpP.v (P_eqNil rfl ty_ptr_114 rfl rfl)) ?_
  refine L_nil ?_
  refine St.env (.cons (t := 0) rfl (.cons (t := 2) rfl (.cons (t := 4) rfl .nil))) ?_
  refine Q_then ?_
  refine R_condF rfl ?_
  refine R_skip ?_
  refine Q_then ?_
  refine R_seq ?_
  refine R_region ?_
  refine L_val rfl rfl rfl (OpP.v (P_move rfl rfl)) ?_
  refine L_val rfl rfl rfl (OpP.v (P_nil rfl rfl)) ?_
  refine L_val rfl rfl rfl (OpP.v (P_fld0 rfl ty_fl_135_1 rfl)) ?_
  refine L_val rfl rfl rfl (V_load rfl rfl ty_sc_23 ((rd_tg .h3 hi).2)) ?_
  refine L_val rfl rfl rfl (OpP.v (P_assign rfl rfl)) ?_
  refine L_nil ?_
  refine St.env (.cons (t := 2) rfl .nil) ?_
  refine Q_then ?_
  refine R_ret ?_
  exact R_end (rs2 := [REF q (tg) (rc)]) rfl rfl (.tmp rfl .nil) (⟨rfl, rfl⟩) (ref_close (rs := []) hok)
theorem rknown_ok {gl : Nat → Obj} (q : Nat) (tg : List (Int × Nat)) (rc : List Rcd) (a : Int) (hT : tg.length ≤ 4398046511104) : SpecR (cx gl) 51 [.pointer (some ⟨q, 0, none⟩), .int .u64 a] (fun _ _ => True) [REF q tg rc] (.bool (decide (a ∈ enOf tg))) [REF q tg rc] := by
  refine Spec.enter (C := cx gl) Tryd.func51 rfl 27 rfl rfl fun w0 h0 hsep hsub hpre => ?_
  show St (cx gl) _ [(0, .pointer (some ⟨q, 0, none⟩)), (1, .int .u64 a)] _ _
  refine St.openP (p := []) (fun ⟨ve, vr⟩ hok => ?_)
  refine St.unbundle [] ?_
  refine St.ownForm (p := [_]) fun eb ec heb hec => ?_
  dsimp only at heb; subst heb
  refine St.ownForm (p := [_, _]) fun rb rcap hrb hrc_ => ?_
  dsimp only at hrb; subst hrb
  refine St.res (rs' := [blk q [.bool true, .slice eb tg.length ec, .slice rb rc.length rcap] 118, ownS 23 1 (.slice eb tg.length ec) (tg).length (ints .u64 (enOf (tg))), ownS 133 2 (.slice rb rc.length rcap) (rc).length (recC (rc)), fam (tgH q) (tg)]) (Weak.refl _) ?_
  refine R_seq ?_
  refine R_region ?_
  refine L_val rfl rfl rfl (OpP.v (P_assign rfl rfl)) ?_
  refine L_nil ?_
  refine Q_then ?_
  refine R_seq ?_
  refine R_seq ?_
  refine R_region ?_
  refine L_val rfl rfl rfl (OpP.v (P_move rfl rfl)) ?_
  refine L_op rfl (W_callR rfl rfl rfl rfl fn_ca_54 (rgood_ok q (.slice eb tg.length ec) (.slice rb rc.length rcap) true) (Split.one (p := [])) (fun _ _ _ _ _ _ _ => trivial) ?_)
  refine St.res (rs' := [blk q [.bool true, .slice eb tg.length ec, .slice rb rc.length rcap] 118, ownS 23 1 (.slice eb tg.length ec) (tg).length (ints .u64 (enOf (tg))), ownS 133 2 (.slice rb rc.length rcap) (rc).length (recC (rc)), fam (tgH q) (tg)]) (Weak.refl _) ?_
  refine L_val rfl rfl rfl (OpP.v (P_not rfl rfl)) ?_
  refine E_false (t := 8) rfl (rfl) ?_
  refine L_nil ?_
  refine St.env (.cons (t := 0) rfl (.cons (t := 1) rfl (.cons (t := 4) rfl (.cons (t := 8) rfl .nil)))) ?_
  refine Q_then ?_
  refine R_condF rfl ?_
  refine R_skip ?_
  refine Q_then ?_
  refine R_seq ?_
  refine R_seq ?_
  refine R_region ?_
  refine L_val rfl rfl rfl (OpP.v (P_assign rfl rfl)) ?_
  refine L_nil ?_
  refine St.env (.cons (t := 0) rfl (.cons (t := 1) rfl (.cons (t := 4) rfl (.cons (t := 5) rfl .nil)))) ?_
  refine Q_then ?_
  refine R_block ?_
  refine R_loopE (G := Nat) (.cons (t := 0) rfl (.cons (t := 1) rfl (.cons (t := 4) rfl .nil))) (fun g => [(5, .int .i64 (g : Int))]) (fun _ => _) (fun g => g ≤ tg.length ∧ ∀ j, j < g → ∀ y, (enOf tg)[j]? = some y → y ≠ a) (fun g => tg.length - g) (0) (⟨Nat.zero_le _, fun j hj => by omega⟩) (by repeat (first | exact .nil | refine .cons rfl ?_ | refine .consE rfl (by first | rfl | (congr 1; omega) | (congr 1; push_cast; omega)) ?_)) (Weak.refl _) ?_
  intro i hinv
  replace hinv : i ≤ tg.length ∧ ∀ j, j < i → ∀ y, (enOf tg)[j]? = some y → y ≠ a := hinv
  show St (cx gl) _ ((5, .int .i64 (i : Int)) :: _) _ _
  obtain ⟨hi, hall⟩ := hinv
  refine R_seq ?_
  refine R_seq ?_
  refine R_region ?_
  refine L_val rfl rfl rfl (OpP.v (P_move rfl rfl)) ?_
  refine L_val rfl rfl rfl (OpP.v (P_move rfl rfl)) ?_
  refine L_val rfl rfl rfl (OpP.v (P_nil rfl rfl)) ?_
  refine L_val rfl rfl rfl (OpP.v (P_fld0 rfl ty_fl_118_1 rfl)) ?_
  refine L_val rfl rfl rfl (V_load rfl rfl ty_sc_52 (by first | exact Rd.blk .h0 rfl | exact Rd.blk .h1 rfl | exact Rd.blk .h2 rfl | exact Rd.blk .h3 rfl | exact Rd.blk .h4 rfl | exact Rd.blk .h5 rfl | exact Rd.blk .h6 rfl | exact Rd.blk .h7 rfl)) ?_
  refine L_val rfl rfl rfl (OpP.v (P_len rfl ty_sl_52 rfl)) ?_
  refine L_val rfl rfl rfl (OpP.v (P_lss rfl rfl rfl)) ?_
  refine L_nil ?_
  refine Q_then ?_
  refine R_condP rfl (fun hlt0 => ?_) (fun hlt0 => ?_)
  · skip
    have hlt : i < tg.length := by omega
    have hlt2 : i < (enOf tg).length := by rw [enOf_length]; exact hlt
    refine St.ownSome (p := [_]) (by omega) fun ebb ebc heb2 _ => ?_
    simp only [Value.slice.injEq] at heb2
    obtain ⟨rfl, _, rfl⟩ := heb2
    refine R_skip ?_
    refine Q_then ?_
    refine R_seq ?_
    refine R_block ?_
    refine R_seq ?_
    refine R_region ?_
    refine L_val rfl rfl rfl (OpP.v (P_move rfl rfl)) ?_
    refine L_val rfl rfl rfl (OpP.v (P_nil rfl rfl)) ?_
    refine L_val rfl rfl rfl (OpP.v (P_fld0 rfl ty_fl_118_1 rfl)) ?_
    refine L_val rfl rfl rfl (V_load rfl rfl ty_sc_52 (by first | exact Rd.blk .h0 rfl | exact Rd.blk .h1 rfl | exact Rd.blk .h2 rfl | exact Rd.blk .h3 rfl | exact Rd.blk .h4 rfl | exact Rd.blk .h5 rfl | exact Rd.blk .h6 rfl | exact Rd.blk .h7 rfl)) ?_
    refine L_val rfl rfl rfl (OpP.v (P_move rfl rfl)) ?_
    refine L_val rfl rfl rfl (OpP.v (P_ixs (i) rfl ty_sl_52 rfl rfl (by first | rfl | omega) (by omega))) ?_
    refine L_val rfl rfl rfl (V_load rfl rfl ty_sc_23 (rd_own1 .h1 (by unfold ints; rw [List.getElem?_map, List.getElem?_eq_getElem hlt2]; rfl))) ?_
    refine L_val rfl rfl rfl (OpP.v (P_move rfl rfl)) ?_
    refine L_val rfl rfl rfl (OpP.v (P_eql rfl rfl rfl)) ?_
    refine L_nil ?_
    refine Q_then ?_
    refine R_condP rfl (fun hne => ?_) (fun hne => ?_)
    · skip
      refine R_seq ?_
      refine R_region ?_
      refine L_val rfl rfl rfl (OpP.v (P_assign rfl rfl)) ?_
      refine L_nil ?_
      refine Q_then ?_
      refine R_ret ?_
      refine Q_block_ret ?_
      refine Q_then_ret ?_
      refine Q_then_ret ?_
      refine Q_block_ret ?_
      refine Q_then_ret ?_
      exact R_end (rs2 := [REF q (tg) (rc)]) rfl rfl (.tmp rfl .nil) (⟨by show Value.bool _ = Value.bool _; rw [decide_eq_true (show a ∈ enOf tg by rw [← hne]; exact List.getElem_mem hlt2)], rfl⟩) (ref_close (rs := []) hok)
    · skip
      refine R_skip ?_
      refine Q_block ?_
      refine Q_then ?_
      refine R_region ?_
      refine L_val rfl rfl rfl (OpP.v (P_move rfl rfl)) ?_
      first | (refine L_val rfl rfl rfl (OpP.v (P_addN rfl rfl rfl (by simp only [fits]; omega))) ?_) | (refine L_val rfl rfl rfl (OpP.v (P_add rfl rfl rfl)) ?_)
      refine L_val rfl rfl rfl (OpP.v (P_assign rfl rfl)) ?_
      refine L_nil ?_
      exact Q_round (i + 1) (⟨by show i + 1 ≤ _; omega, fun j hj y hy => by
          by_cases h : j < i
          · exact hall j h y hy
          · obtain rfl : j = i := by (have hj : j < i + 1 := hj); omega
            rw [List.getElem?_eq_getElem (by rw [enOf_length]; omega), Option.some.injEq] at hy
            rw [← hy]; exact hne⟩) (by show tg.length - (i + 1) < tg.length - i; omega) (by repeat (first | exact .nil | refine .cons rfl ?_ | refine .consE rfl (by first | rfl | (congr 1; omega) | (congr 1; push_cast; omega)) ?_)) (Weak.refl _)
  · skip
    obtain rfl : i = tg.length := by omega
    refine R_exit ?_
    refine Q_then_exit ?_
    refine Q_then_exit ?_
    refine Q_block_eq ?_
    refine St.env (.cons (t := 4) rfl .nil) ?_
    refine Q_then ?_
    refine R_seq ?_
    refine R_region ?_
    refine L_val rfl rfl rfl (OpP.v (P_assign rfl rfl)) ?_
    refine L_nil ?_
    refine Q_then ?_
    refine R_ret ?_
    exact R_end (rs2 := [REF q (tg) (rc)]) rfl rfl (.tmp rfl .nil) (⟨by show Value.bool _ = Value.bool _; rw [decide_eq_false (not_mem_of_all fun j hj y hy => hall j (by rw [← enOf_length]; exact hj) y hy)], rfl⟩) (ref_close (rs := []) hok)
theorem rhas_ok {gl : Nat → Obj} (q : Nat) (tg : List (Int × Nat)) (rc : List Rcd) (eb rb : Option Addr) (ec rcap : Nat) (hok : RecOK rc) (a : Int) (base : Option Addr) (c : Nat) (xs : List Int) (hb : IsB xs) (hC : rc.length ≤ 4398046511104) : SpecR (cx gl) 80 [.pointer (some ⟨q, 0, none⟩), .int .u64 a, .slice base xs.length c] (fun w h => Seen w h base (ints .u8 xs)) [blk q [.bool true, .slice eb tg.length ec, .slice rb rc.length rcap] 118, ownS 23 1 (.slice eb tg.length ec) (tg).length (ints .u64 (enOf (tg))), ownS 133 2 (.slice rb rc.length rcap) (rc).length (recC (rc)), fam (tgH q) (tg)] (.bool (decide ((a, xs) ∈ rc))) [blk q [.bool true, .slice eb tg.length ec, .slice rb rc.length rcap] 118, ownS 23 1 (.slice eb tg.length ec) (tg).length (ints .u64 (enOf (tg))), ownS 133 2 (.slice rb rc.length rcap) (rc).length (recC (rc)), fam (tgH q) (tg)] := by
  refine Spec.enter (C := cx gl) Tryd.func80 rfl 40 rfl rfl fun w0 h0 hsep hsub hpre => ?_
  show St (cx gl) _ [(0, .pointer (some ⟨q, 0, none⟩)), (1, .int .u64 a), (2, .slice base xs.length c)] _ _
  refine R_seq ?_
  refine R_region ?_
  refine L_val rfl rfl rfl (OpP.v (P_assign rfl rfl)) ?_
  refine L_nil ?_
  refine Q_then ?_
  refine R_seq ?_
  refine R_seq ?_
  refine R_region ?_
  refine L_val rfl rfl rfl (OpP.v (P_assign rfl rfl)) ?_
  refine L_nil ?_
  refine Q_then ?_
  refine R_block ?_
  refine R_loopE (G := Nat) (.cons (t := 0) rfl (.cons (t := 1) rfl (.cons (t := 2) rfl (.cons (t := 6) rfl .nil)))) (fun g => [(7, .int .i64 (g : Int))]) (fun _ => _) (fun g => g ≤ rc.length ∧ ∀ j, j < g → ∀ y, rc[j]? = some y → y ≠ (a, xs)) (fun g => rc.length - g) (0) (⟨Nat.zero_le _, fun j hj => by omega⟩) (by repeat (first | exact .nil | refine .cons rfl ?_ | refine .consE rfl (by first | rfl | (congr 1; omega) | (congr 1; push_cast; omega)) ?_)) (Weak.refl _) ?_
  intro i hinv
  replace hinv : i ≤ rc.length ∧ ∀ j, j < i → ∀ y, rc[j]? = some y → y ≠ (a, xs) := hinv
  show St (cx gl) _ ((7, .int .i64 (i : Int)) :: _) _ _
  obtain ⟨hi, hall⟩ := hinv
  refine R_seq ?_
  refine R_seq ?_
  refine R_region ?_
  refine L_val rfl rfl rfl (OpP.v (P_move rfl rfl)) ?_
  refine L_val rfl rfl rfl (OpP.v (P_move rfl rfl)) ?_
  refine L_val rfl rfl rfl (OpP.v (P_nil rfl rfl)) ?_
  refine L_val rfl rfl rfl (OpP.v (P_fld0 rfl ty_fl_118_2 rfl)) ?_
  refine L_val rfl rfl rfl (V_load rfl rfl ty_sc_116 (by first | exact Rd.blk .h0 rfl | exact Rd.blk .h1 rfl | exact Rd.blk .h2 rfl | exact Rd.blk .h3 rfl | exact Rd.blk .h4 rfl | exact Rd.blk .h5 rfl | exact Rd.blk .h6 rfl | exact Rd.blk .h7 rfl)) ?_
  refine L_val rfl rfl rfl (OpP.v (P_len rfl ty_sl_116 rfl)) ?_
  refine L_val rfl rfl rfl (OpP.v (P_lss rfl rfl rfl)) ?_
  refine L_nil ?_
  refine Q_then ?_
  refine R_condP rfl (fun hlt0 => ?_) (fun hlt0 => ?_)
  · skip
    have hlt : i < rc.length := by omega
    refine St.ownSome (p := [_, _]) (by omega) fun rbb rbc hrb2 _ => ?_
    simp only [Value.slice.injEq] at hrb2
    obtain ⟨rfl, _, rfl⟩ := hrb2
    refine R_skip ?_
    refine Q_then ?_
    refine R_seq ?_
    refine R_block ?_
    refine R_seq ?_
    refine R_open [(0, 0), (1, 0), (2, 0), (3, 1), (4, 0), (5, 0), (6, 0), (7, 1), (8, 0), (9, 0), (10, 0), (11, 0), (12, 0), (13, 0), (14, 1), (15, 0), (16, 0), (17, 0), (18, 1), (19, 0), (20, 1), (21, 0), (22, 0)] mixed (by kernel_rfl) (QOk.then (QOk.block (QOk.then (QOk.then (QOk.block (QOk.then QOk.body)))))) ?_
    refine O_pure rfl rfl rfl rfl (P_move rfl rfl) ?_
    refine O_pure rfl rfl rfl rfl (P_nil rfl rfl) ?_
    refine O_pure rfl rfl rfl rfl (P_fld0 rfl ty_fl_118_2 rfl) ?_
    refine O_val rfl rfl rfl rfl (V_load rfl rfl ty_sc_116 (by first | exact Rd.blk .h0 rfl | exact Rd.blk .h1 rfl | exact Rd.blk .h2 rfl | exact Rd.blk .h3 rfl | exact Rd.blk .h4 rfl | exact Rd.blk .h5 rfl | exact Rd.blk .h6 rfl | exact Rd.blk .h7 rfl)) ?_
    refine O_pure rfl rfl rfl rfl (P_move rfl rfl) ?_
    refine O_pure rfl rfl rfl rfl (P_ixs (i) rfl ty_sl_116 rfl rfl (by first | rfl | omega) (by omega)) ?_
    refine O_pure rfl rfl rfl rfl (P_fld rfl ty_fl_133_0 rfl) ?_
    refine O_val rfl rfl rfl rfl (V_load rfl rfl ty_sc_23 ((rd_rec .h2 (List.getElem?_eq_getElem hlt)).1)) ?_
    refine O_pure rfl rfl rfl rfl (P_move rfl rfl) ?_
    refine O_pure rfl rfl rfl rfl (P_eql rfl rfl rfl) ?_
    refine O_pure rfl rfl rfl rfl (P_move rfl rfl) ?_
    refine E_bool (t := 27) rfl (fun hg => ?_) (fun hg => ?_)
    · skip
      refine O_pure rfl rfl rfl rfl (P_move rfl rfl) ?_
      refine O_pure rfl rfl rfl rfl (P_nil rfl rfl) ?_
      refine O_pure rfl rfl rfl rfl (P_fld0 rfl ty_fl_118_2 rfl) ?_
      refine O_val rfl rfl rfl rfl (V_load rfl rfl ty_sc_116 (by first | exact Rd.blk .h0 rfl | exact Rd.blk .h1 rfl | exact Rd.blk .h2 rfl | exact Rd.blk .h3 rfl | exact Rd.blk .h4 rfl | exact Rd.blk .h5 rfl | exact Rd.blk .h6 rfl | exact Rd.blk .h7 rfl)) ?_
      refine O_pure rfl rfl rfl rfl (P_move rfl rfl) ?_
      refine O_pure rfl rfl rfl rfl (P_ixs (i) rfl ty_sl_116 rfl rfl (by first | rfl | omega) (by omega)) ?_
      refine O_pure rfl rfl rfl rfl (P_fld rfl ty_fl_133_1 rfl) ?_
      refine O_val rfl rfl rfl rfl (V_load rfl rfl ty_sc_9 ((rd_rec .h2 (List.getElem?_eq_getElem hlt)).2)) ?_
      refine O_pure rfl rfl rfl rfl (P_move rfl rfl) ?_
      refine O_val rfl rfl rfl rfl (V_str rfl (slB_spec ty_sl_24).1 ty_int_5 ty_str_9 rfl ((Sn.old hpre).rw_)) ?_
      refine O_pure rfl rfl rfl rfl (P_eqStr rfl rfl rfl (hok _ (List.getElem_mem hlt)).1 hb) ?_
      refine O_pure rfl rfl rfl rfl (P_pick rfl rfl rfl) ?_
      refine O_nil ?_
      refine Q_then ?_
      refine R_condP rfl (fun hm => ?_) (fun hm => ?_)
      · skip
        refine R_seq ?_
        refine R_region ?_
        refine L_val rfl rfl rfl (OpP.v (P_assign rfl rfl)) ?_
        refine L_nil ?_
        refine Q_then ?_
        refine R_ret ?_
        refine Q_block_ret ?_
        refine Q_then_ret ?_
        refine Q_then_ret ?_
        refine Q_block_ret ?_
        refine Q_then_ret ?_
        exact R_end (rs2 := _) rfl rfl (.tmp rfl .nil) (⟨by show Value.bool _ = Value.bool _; rw [decide_eq_true (show (a, xs) ∈ rc by rw [show (a, xs) = rc[i] from (Prod.ext (of_decide_eq_true hg) hm).symm]; exact List.getElem_mem hlt)], rfl⟩) (Weak.refl _)
      · skip
        refine R_skip ?_
        refine Q_block ?_
        refine Q_then ?_
        refine R_region ?_
        refine L_val rfl rfl rfl (OpP.v (P_move rfl rfl)) ?_
        first | (refine L_val rfl rfl rfl (OpP.v (P_addN rfl rfl rfl (by simp only [fits]; omega))) ?_) | (refine L_val rfl rfl rfl (OpP.v (P_add rfl rfl rfl)) ?_)
        refine L_val rfl rfl rfl (OpP.v (P_assign rfl rfl)) ?_
        refine L_nil ?_
        exact Q_round (i + 1) (⟨by show i + 1 ≤ _; omega, fun j hj y hy => by
            by_cases h : j < i
            · exact hall j h y hy
            · obtain rfl : j = i := by (have hj : j < i + 1 := hj); omega
              rw [List.getElem?_eq_getElem hlt, Option.some.injEq] at hy
              rw [← hy]; exact fun e => hm (congrArg Prod.snd e)⟩) (by show rc.length - (i + 1) < rc.length - i; omega) (by repeat (first | exact .nil | refine .cons rfl ?_ | refine .consE rfl (by first | rfl | (congr 1; omega) | (congr 1; push_cast; omega)) ?_)) (Weak.refl _)
    · skip
      refine O_no rfl rfl rfl rfl ?_
      refine O_no rfl rfl rfl rfl ?_
      refine O_no rfl rfl rfl rfl ?_
      refine O_noX rfl rfl rfl rfl ?_
      refine O_no rfl rfl rfl rfl ?_
      refine O_no rfl rfl rfl rfl ?_
      refine O_no rfl rfl rfl rfl ?_
      refine O_noX rfl rfl rfl rfl ?_
      refine O_no rfl rfl rfl rfl ?_
      refine O_noX rfl rfl rfl rfl ?_
      refine O_no rfl rfl rfl rfl ?_
      refine O_pure rfl rfl rfl rfl (P_pick rfl rfl rfl) ?_
      refine O_nil ?_
      refine Q_then ?_
      refine R_condF rfl ?_
      refine R_skip ?_
      refine Q_block ?_
      refine Q_then ?_
      refine R_region ?_
      refine L_val rfl rfl rfl (OpP.v (P_move rfl rfl)) ?_
      first | (refine L_val rfl rfl rfl (OpP.v (P_addN rfl rfl rfl (by simp only [fits]; omega))) ?_) | (refine L_val rfl rfl rfl (OpP.v (P_add rfl rfl rfl)) ?_)
      refine L_val rfl rfl rfl (OpP.v (P_assign rfl rfl)) ?_
      refine L_nil ?_
      exact Q_round (i + 1) (⟨by show i + 1 ≤ _; omega, fun j hj y hy => by
          by_cases h : j < i
          · exact hall j h y hy
          · obtain rfl : j = i := by (have hj : j < i + 1 := hj); omega
            rw [List.getElem?_eq_getElem hlt, Option.some.injEq] at hy
            rw [← hy]; exact fun e => of_decide_eq_false hg (congrArg Prod.fst e)⟩) (by show rc.length - (i + 1) < rc.length - i; omega) (by repeat (first | exact .nil | refine .cons rfl ?_ | refine .consE rfl (by first | rfl | (congr 1; omega) | (congr 1; push_cast; omega)) ?_)) (Weak.refl _)
  · skip
    obtain rfl : i = rc.length := by omega
    refine R_exit ?_
    refine Q_then_exit ?_
    refine Q_then_exit ?_
    refine Q_block_eq ?_
    refine St.env (.cons (t := 6) rfl .nil) ?_
    refine Q_then ?_
    refine R_seq ?_
    refine R_region ?_
    refine L_val rfl rfl rfl (OpP.v (P_assign rfl rfl)) ?_
    refine L_nil ?_
    refine Q_then ?_
    refine R_ret ?_
    exact R_end (rs2 := _) rfl rfl (.tmp rfl .nil) (⟨by show Value.bool _ = Value.bool _; rw [decide_eq_false (not_mem_of_all fun j hj y hy => hall j hj y hy)], rfl⟩) (Weak.refl _)
end Go.Proofs.YtnaadddnbfnahaaDoor
