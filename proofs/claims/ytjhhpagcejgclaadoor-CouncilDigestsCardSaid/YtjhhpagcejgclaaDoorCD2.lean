/- Walks: Items, the reference's Digest. Printed by gen.py. -/
import Derived.Test.YtjhhpagcejgclaaDoorCD1
set_option linter.unusedVariables false
set_option linter.unusedSimpArgs false
set_option maxRecDepth 100000
namespace Go.Proofs.YtjhhpagcejgclaaDoor
open Go Go.RowKit Go.Proofs
def itemsOk (qs : List Ob) (l : List Mem) : Prop := qs.map Ob.xs = l.map itemB ∧ ∀ u ∈ qs, u.xs.length ≤ u.c
theorem itemsOk.len {qs : List Ob} {l : List Mem} (h : itemsOk qs l) : qs.length = l.length := by have := congrArg List.length h.1; simpa using this
theorem itemsOk.snoc {qs : List Ob} {l : List Mem} {i : Nat} {m : Mem} {u : Ob} (h : itemsOk qs (l.take i)) (hm : l[i]? = some m) (hu : u.xs = itemB m) (hc : u.xs.length ≤ u.c) : itemsOk (qs ++ [u]) (l.take (i + 1)) := by
  refine ⟨?_, fun x hx => ?_⟩
  · rw [List.map_append, h.1, List.take_add_one, hm, List.map_append]; simp [hu]
  · rcases List.mem_append.1 hx with hx | hx
    · exact h.2 x hx
    · obtain rfl := List.mem_singleton.1 hx; exact hc
theorem fam_items {C : Cx} {F : Fx} {rs : List HP} {b : Option Addr} {c n : Nat} {qs : List Ob} (hq : ∀ u ∈ qs, u.xs.length ≤ u.c) (m1 : Has rs (fam Ob.own qs) (fam Ob.own qs) rs) (m2 : Has rs (ownS 46 1 (.slice b n c) n (qs.map Ob.val)) (ownS 46 1 (.slice b n c) n (qs.map Ob.val)) rs) : ∀ w, Now C F rs w → Items w b (qs.map Ob.val) (qs.map Ob.xs) := fun w nw => by
  refine ⟨(Sn.own m2 rfl).rw_ w nw, by simp, fun i v xs hv hx => ?_⟩
  rw [List.getElem?_map] at hv hx
  obtain ⟨u, hu, rfl⟩ := Option.map_eq_some_iff.1 hv
  rw [hu] at hx
  obtain rfl := Option.some.inj hx
  exact ⟨u.b, u.c, rfl, hq u (List.mem_of_getElem? hu), (Sn.fam m1 hu fun rs m => Sn.own m rfl).rw_ w nw⟩
def digE (l : List Mem) : Int := if soundE l ≠ 0 then soundE l else rootE (l.map itemB)
def digD (l : List Mem) : List Int := if soundE l ≠ 0 then List.replicate 32 0 else rootD (l.map itemB)
def digV (l : List Mem) : Value := .tuple #[.agg (ints .u8 (digD l)).toArray, .int .i64 (digE l)]
theorem digD_length (l : List Mem) : (digD l).length = 32 := by unfold digD; split; simp; exact rootD_length _
theorem Items_ok {gl : Nat → Obj} (base : Option Addr) (c : Nat) (l : List Mem) (hc : l.length ≤ c) (hmax : l.length ≤ 5864062014700) (hok : ∀ m ∈ l, m.ok) (h64 : l.length ≤ 64) : Spec (cx gl) 17 [.agg [.slice base l.length c].toArray] (fun w _ => Row w base (memC l)) [] (fun v rs => ∃ qs : List Ob, itemsOk qs l ∧ rs = [fam Ob.own qs, ownS 46 1 (v) (l.length) (qs.map Ob.val)]) := by
  refine Spec.enter (C := cx gl) Tryd.func17 rfl 33 rfl rfl fun w0 h0 hsep hsub hpre => ?_
  obtain rfl : h0 = Heap.none := hsep
  show St (cx gl) _ [(0, .agg [.slice base l.length c].toArray)] _ _
  refine R_seq ?_
  refine R_region ?_
  refine L_op rfl (W_box ([.slice base l.length c]) rfl rfl rfl rfl rfl fun b1 => ?_)
  refine L_val rfl rfl rfl (OpP.v (P_assign rfl rfl)) ?_
  refine L_nil ?_
  refine St.env (.cons (t := 1) rfl (.cons (t := 2) rfl .nil)) ?_
  refine Q_then ?_
  refine R_seq ?_
  refine R_region ?_
  refine L_val rfl rfl rfl (OpP.v (P_assign rfl rfl)) ?_
  refine L_nil ?_
  refine Q_then ?_
  refine R_seq ?_
  refine R_seq ?_
  refine R_region ?_
  refine L_val rfl rfl rfl (OpP.v (P_assign rfl rfl)) ?_
  refine L_nil ?_
  refine Q_then ?_
  refine R_block ?_
  refine R_loopE (G := Nat × List Ob × Value) (.cons (t := 1) rfl (.cons (t := 2) rfl .nil)) (fun g => [(3, g.2.2), (4, .int .i64 (g.1 : Int))]) (fun g => [fam Ob.own g.2.1, ownS 46 1 (g.2.2) (g.1) (g.2.1.map Ob.val), blk b1 [.slice base l.length c] 24]) (fun g => g.1 ≤ l.length ∧ itemsOk g.2.1 (l.take g.1)) (fun g => l.length - g.1) (0, [], .slice none 0 0) (⟨Nat.zero_le _, rfl, fun u hu => by cases hu⟩) (by repeat (first | exact .nil | refine .cons rfl ?_ | refine .consE rfl (by first | rfl | (congr 1; omega) | (congr 1; push_cast; omega)) ?_)) (Weak.trans (Weak.newNil (T := 46) (sz := 1)) (Weak.famNil (f := Ob.own))) ?_
  rintro ⟨i, qs, v⟩ hinv
  replace hinv : i ≤ l.length ∧ itemsOk qs (l.take i) := hinv
  show St (cx gl) _ ((3, v) :: (4, .int .i64 (i : Int)) :: _) [fam Ob.own qs, ownS 46 1 (v) (i) (qs.map Ob.val), blk b1 [.slice base l.length c] 24] _
  obtain ⟨hi, hq⟩ := hinv
  refine R_seq ?_
  refine R_seq ?_
  refine R_region ?_
  refine L_val rfl rfl rfl (OpP.v (P_move rfl rfl)) ?_
  refine L_val rfl rfl rfl (OpP.v (P_fld0 rfl ty_fl_24_0 rfl)) ?_
  refine L_val rfl rfl rfl (V_load rfl rfl ty_sc_22 (Rd.blk .h2 rfl)) ?_
  refine L_val rfl rfl rfl (OpP.v (P_len rfl ty_sl_22 rfl)) ?_
  refine L_val rfl rfl rfl (OpP.v (P_lss rfl rfl rfl)) ?_
  refine L_nil ?_
  refine Q_then ?_
  refine R_condP rfl (fun hlt => ?_) (fun hlt => ?_)
  · skip
    have hlt' : i < l.length := by omega
    obtain ⟨m, hm⟩ : ∃ m, l[i]? = some m := ⟨_, List.getElem?_eq_getElem hlt'⟩
    obtain ⟨pb, pj, rfl, hrow⟩ := hpre.some_ (by rw [memC_length]; omega)
    refine R_skip ?_
    refine Q_then ?_
    refine R_seq ?_
    refine R_block ?_
    refine R_seq ?_
    refine St.res (Weak.newNil (T := 5) (sz := 1)) ?_
    refine R_region ?_
    refine L_val rfl rfl rfl (OpP.v (P_fld0 rfl ty_fl_24_0 rfl)) ?_
    refine L_val rfl rfl rfl (V_load rfl rfl ty_sc_22 (Rd.blk .h3 rfl)) ?_
    refine L_val rfl rfl rfl (OpP.v (P_move rfl rfl)) ?_
    refine L_val rfl rfl rfl (OpP.v (P_ixs (i) rfl ty_sl_22 rfl rfl (by first | rfl | omega) (by omega))) ?_
    refine L_val rfl rfl rfl (OpP.v (P_fld rfl ty_fl_37_0 rfl)) ?_
    refine L_val rfl rfl rfl (V_load rfl rfl ty_sc_35 (rd_mem hrow rfl hm rfl)) ?_
    refine L_op rfl (W_call rfl rfl rfl rfl fn_ca_32 (word_ok (.slice none 0 0) 0 ([]) m.a (by omega)) (Split.one (p := [])) (fun _ _ _ _ _ _ _ => trivial) fun v1 rs1 (e1 : rs1 = _) => ?_)
    subst e1
    refine L_val rfl rfl rfl (OpP.v (P_assign rfl rfl)) ?_
    refine L_nil ?_
    refine Q_then ?_
    refine R_seq ?_
    refine R_region ?_
    refine L_val rfl rfl rfl (OpP.v (P_move rfl rfl)) ?_
    refine L_val rfl rfl rfl (OpP.v (P_fld0 rfl ty_fl_24_0 rfl)) ?_
    refine L_val rfl rfl rfl (V_load rfl rfl ty_sc_22 (Rd.blk .h3 rfl)) ?_
    refine L_val rfl rfl rfl (OpP.v (P_move rfl rfl)) ?_
    refine L_val rfl rfl rfl (OpP.v (P_ixs (i) rfl ty_sl_22 rfl rfl (by first | rfl | omega) (by omega))) ?_
    refine L_val rfl rfl rfl (OpP.v (P_fld rfl ty_fl_37_1 rfl)) ?_
    refine L_val rfl rfl rfl (V_load rfl rfl ty_sc_34 (rd_mem hrow rfl hm rfl)) ?_
    refine L_op rfl (W_call rfl rfl rfl rfl fn_ca_32 (word_ok (v1) 8 (word8 m.a 8) m.p (by omega)) (Split.one (p := [])) (fun _ _ _ _ _ _ _ => trivial) fun v2 rs2 (e2 : rs2 = _) => ?_)
    subst e2
    refine St.ownForm (p := []) fun ub uc huv huc => ?_
    subst huv
    have huc : (itemB m).length ≤ uc := by rw [itemB_length]; omega
    refine L_val rfl rfl rfl (OpP.v (P_assign rfl rfl)) ?_
    refine L_nil ?_
    refine Q_then ?_
    refine R_region ?_
    refine L_val rfl rfl rfl (OpP.v (P_move rfl rfl)) ?_
    refine L_val rfl rfl rfl (OpP.v (P_move rfl rfl)) ?_
    refine L_op rfl (W_lit (z := .nilIface) ([.slice ub 16 uc]) rfl rfl rfl ty_sl_42 ty_lz_42 rfl rfl rfl (by decide) (by decide) (by simp [Value.cells]) (rfl) fun b30 => ?_)
    refine L_op rfl (W_append (p := [_, _, _]) rfl rfl rfl ty_sl_42 ty_ap_42 ty_src_42 rfl rfl rfl (Src.slice (sz := 1) (m := 1) (news := [.slice ub 16 uc]) (Rds.blk .h0) rfl (by intro v hv; simp only [List.mem_singleton] at hv; subst hv; rfl)) (by omega) (by simp only [maxLen]; omega) fun v31 => ?_)
    refine L_val rfl rfl rfl (OpP.v (P_assign rfl rfl)) ?_
    refine L_nil ?_
    refine Q_block ?_
    refine Q_then ?_
    refine R_region ?_
    refine L_val rfl rfl rfl (OpP.v (P_move rfl rfl)) ?_
    first | (refine L_val rfl rfl rfl (OpP.v (P_addN rfl rfl rfl (by simp only [fits]; omega))) ?_) | (refine L_val rfl rfl rfl (OpP.v (P_add rfl rfl rfl)) ?_)
    refine L_val rfl rfl rfl (OpP.v (P_assign rfl rfl)) ?_
    refine L_nil ?_
    exact Q_round (i + 1, qs ++ [Ob.mk ub uc (itemB m)], v31) (⟨by omega, hq.snoc hm rfl huc⟩) (by show l.length - (i + 1) < l.length - i; omega) (by repeat (first | exact .nil | refine .cons rfl ?_ | refine .consE rfl (by first | rfl | (congr 1; omega) | (congr 1; push_cast; omega)) ?_)) (Weak.drop (Weak.trans (Weak.refl _) (Weak.trans (Weak.famAdd (f := Ob.own) (x := Ob.mk ub uc (itemB m))) (Weak.keep (ownS.to1 rfl (by rw [List.map_append]; rfl))))))
  · skip
    have hin : i = l.length := by omega
    refine R_exit ?_
    refine Q_then_exit ?_
    refine Q_then_exit ?_
    refine Q_block_eq ?_
    refine St.env (.cons (t := 2) rfl (.cons (t := 3) rfl .nil)) ?_
    refine Q_then ?_
    refine R_seq ?_
    refine R_region ?_
    refine L_val rfl rfl rfl (OpP.v (P_move rfl rfl)) ?_
    refine L_val rfl rfl rfl (OpP.v (P_assign rfl rfl)) ?_
    refine L_nil ?_
    refine St.env (.cons (t := 2) rfl .nil) ?_
    refine Q_then ?_
    refine R_ret ?_
    exact R_end (rs2 := _) rfl rfl (.tmp rfl .nil) (⟨qs, by rw [hin, List.take_length] at hq; exact hq, rfl⟩) (Weak.keep (ownS.to2 hin rfl))
end Go.Proofs.YtjhhpagcejgclaaDoor
