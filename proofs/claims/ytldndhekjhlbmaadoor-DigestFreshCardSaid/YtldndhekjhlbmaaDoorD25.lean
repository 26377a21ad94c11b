/- Walks: list, listKept. Printed by gen.py. -/
import Derived.Test.YtldndhekjhlbmaaDoorD24
import Derived.Test.YtldndhekjhlbmaaDoorAlive
import Derived.Test.YtldndhekjhlbmaaDoorEngL
set_option linter.unusedVariables false
set_option linter.unusedSimpArgs false
set_option maxRecDepth 100000
namespace Go.Proofs.YtldndhekjhlbmaaDoor
open Go Go.RowKit Go.Proofs
/-- An item that was copied with two marks behind it: its block, its room, its bytes, what lies behind. -/
structure Rm where
  b : Nat
  cap : Nat
  x : List Int
  junk : List Value
def Rm.full (q : Rm) : Value := .slice (some ⟨q.b, 0, none⟩) (q.x.length + 2) q.cap
def Rm.item (q : Rm) : Value := .slice (some ⟨q.b, 0, none⟩) q.x.length q.cap
def Rm.cell (q : Rm) : Nat × List Value × Nat := (q.b, ints .u8 (q.x ++ [201, 202]) ++ q.junk, 5)
def markC : List Value := ints .u8 [109, 97, 114, 107]
/-- What 'list' leaves. -/
def listRs (qs : List Rm) (fv lv : Value) (m1 m2 : Nat) : List HP := [ownS 26 1 lv (qs.length + 2) (qs.map Rm.item ++ [.slice (some ⟨m1, 0, none⟩) 4 4, .slice (some ⟨m2, 0, none⟩) 4 4]), blk m2 markC 5, blk m1 markC 5, pile (qs.map Rm.cell), ownS 26 1 fv qs.length (qs.map Rm.full)]
theorem rm_snoc (q : List Rm) (b cap : Nat) (x : List Int) (junk : List Value) : (q ++ [Rm.mk b cap x junk]).map Rm.cell = q.map Rm.cell ++ [(b, ints .u8 (x ++ [201, 202]) ++ junk, 5)] := by simp [Rm.cell]
theorem take_snoc {α : Type} {l : List α} {i : Nat} {x : α} (h : l[i]? = some x) : l.take (i + 1) = l.take i ++ [x] := by
  rw [List.take_add_one, h]; rfl
theorem one_of_slice (b : Option Addr) (n c : Nat) : ∀ v ∈ [Value.slice b n c], v.oneCell' = true := by simp [Value.oneCell']
section
variable {C : Cx} {F : Fx} {rs : List HP}
theorem Rm.bytes {qs : List Rm} {q : Rm} {i : Nat} (m : Has rs (pile (qs.map Rm.cell)) (pile (qs.map Rm.cell)) rs) (hq : qs[i]? = some q) : Sn C F rs (some ⟨q.b, 0, none⟩) (ints .u8 (q.x ++ [201, 202]) ++ q.junk) :=
  Sn.ofPile (i := i) (T := 5) m (by rw [List.getElem?_map, hq]; rfl)
theorem Rm.items {qs : List Rm} {v : Value} {n c : Nat} {base : Option Addr} {xss : List (List Int)} {more : List Value} (hm : Has rs (pile (qs.map Rm.cell)) (pile (qs.map Rm.cell)) rs) (hv : Has rs (ownS 26 1 v n (qs.map Rm.item ++ more)) (ownS 26 1 v n (qs.map Rm.item ++ more)) rs) (he : v = .slice base n c)
    (hx : qs.map Rm.x = xss) (ho : ∀ q ∈ qs, q.x.length + 2 ≤ q.cap) : ∀ w, Now C F rs w → Items w base (qs.map Rm.item) xss := fun w nw => by
  refine ⟨((Sn.own hv he).left).rw_ w nw, by rw [← hx]; simp, fun i u x hu hx' => ?_⟩
  rw [← hx, List.getElem?_map] at hx'
  obtain ⟨q, hq, rfl⟩ := Option.map_eq_some_iff.1 hx'
  rw [List.getElem?_map, hq] at hu
  obtain rfl : q.item = u := Option.some.inj hu
  refine ⟨_, _, rfl, by have := ho q (List.mem_of_getElem? hq); omega, ?_⟩
  have h := (Rm.bytes (C := C) (F := F) hm hq).rw_ w nw
  intro j v hv
  exact h j v (by
    rw [← ints_append, List.append_assoc, List.getElem?_append_left (List.getElem?_eq_some_iff.1 hv).1]; exact hv)
end
theorem list_ok {gl : Nat → Obj} (base : Option Addr) (c : Nat) (vs : List Value) (xss : List (List Int)) (hvx : vs.length = xss.length) (hc : vs.length ≤ c) (hmax : vs.length ≤ 1048576) (hb : ∀ x ∈ xss, x.length ≤ 1048576) : Spec (cx gl) 37 [.slice base vs.length c] (fun w _ => Items w base vs xss) [] (fun v rs => ∃ fv lv m1 m2 qs, v = .tuple #[fv, lv] ∧ qs.map Rm.x = xss ∧ (∀ q ∈ qs, q.x.length + 2 ≤ q.cap) ∧ rs = listRs qs fv lv m1 m2) := by
  refine Spec.enter (C := cx gl) Tryd.func37 rfl 42 rfl rfl fun w0 h0 hsep hsub hpre => ?_
  obtain rfl : h0 = Heap.none := hsep
  show St (cx gl) _ [(0, .slice base vs.length c)] _ _
  refine R_seq ?_
  refine R_region ?_
  refine L_val rfl rfl rfl (OpP.v (P_assign rfl rfl)) ?_
  refine L_val rfl rfl rfl (OpP.v (P_assign rfl rfl)) ?_
  refine L_nil ?_
  refine Q_then ?_
  refine R_seq ?_
  refine R_region ?_
  refine L_val rfl rfl rfl (OpP.v (P_assign rfl rfl)) ?_
  refine L_nil ?_
  refine Q_then ?_
  refine R_seq ?_
  refine R_region ?_
  refine L_val rfl rfl rfl (OpP.v (P_assign rfl rfl)) ?_
  refine L_nil ?_
  refine Q_then ?_
  refine R_seq ?_
  refine R_seq ?_
  refine R_region ?_
  refine L_val rfl rfl rfl (OpP.v (P_assign rfl rfl)) ?_
  refine L_nil ?_
  refine Q_then ?_
  refine R_block ?_
  refine St.res (rs' := [ownS 26 1 (.slice none 0 0) 0 ([]), ownS 26 1 (.slice none 0 0) 0 ([])]) (Weak.trans Weak.newNil Weak.newNil) ?_
  refine St.res (rs' := [pile [], ownS 26 1 (.slice none 0 0) 0 ([]), ownS 26 1 (.slice none 0 0) 0 ([])]) (Weak.newPile) ?_
  refine R_loopE (G := List Rm × Value × Value) (.cons (t := 0) rfl (.cons (t := 2) rfl (.cons (t := 3) rfl .nil))) (fun g => [(4, g.2.1), (5, g.2.2), (6, .int .i64 (g.1.length : Int))]) (fun g => [pile (g.1.map Rm.cell), ownS 26 1 g.2.2 g.1.length (g.1.map Rm.item), ownS 26 1 g.2.1 g.1.length (g.1.map Rm.full)]) (fun g => g.1.map Rm.x = xss.take g.1.length ∧ (∀ r ∈ g.1, r.x.length + 2 ≤ r.cap) ∧ g.1.length ≤ vs.length) (fun g => vs.length - g.1.length) ([], .slice none 0 0, .slice none 0 0) (⟨rfl, (fun _ h => by cases h), Nat.zero_le _⟩) (by repeat (first | exact .nil | refine .cons rfl ?_ | refine .consE rfl (by first | rfl | (congr 1; omega) | (congr 1; push_cast; omega)) ?_)) (Weak.refl _) ?_
  rintro ⟨q, fv, lv⟩ hinv
  replace hinv : q.map Rm.x = xss.take q.length ∧ (∀ r ∈ q, r.x.length + 2 ≤ r.cap) ∧ q.length ≤ vs.length := hinv
  show St (cx gl) _ ((4, fv) :: (5, lv) :: (6, .int .i64 (q.length : Int)) :: _) [pile (q.map Rm.cell), ownS 26 1 lv q.length (q.map Rm.item), ownS 26 1 fv q.length (q.map Rm.full)] _
  obtain ⟨hq, hqo, hql⟩ := hinv
  refine R_seq ?_
  refine R_seq ?_
  refine R_region ?_
  refine L_val rfl rfl rfl (OpP.v (P_move rfl rfl)) ?_
  refine L_val rfl rfl rfl (OpP.v (P_move rfl rfl)) ?_
  refine L_val rfl rfl rfl (OpP.v (P_len rfl ty_sl_36 rfl)) ?_
  refine L_val rfl rfl rfl (OpP.v (P_lss rfl rfl rfl)) ?_
  refine L_nil ?_
  refine Q_then ?_
  refine R_condP rfl (fun hlt => ?_) (fun hlt => ?_)
  · skip
    have hlt' : q.length + 1 ≤ vs.length := by omega
    obtain ⟨x, hx⟩ : ∃ x, xss[q.length]? = some x := ⟨_, List.getElem?_eq_getElem (by omega)⟩
    obtain ⟨u, hu⟩ : ∃ u, vs[q.length]? = some u := ⟨_, List.getElem?_eq_getElem (by omega)⟩
    obtain ⟨ib, ic, rfl, hic, hri⟩ := hpre.2.2 _ u x hu hx
    obtain ⟨pb, pj, rfl, hrow⟩ := hpre.1.some_ (by omega)
    have hxl := hb x (List.mem_of_getElem? hx)
    refine R_skip ?_
    refine Q_then ?_
    refine R_seq ?_
    refine R_block ?_
    refine R_seq ?_
    refine R_region ?_
    refine L_val rfl rfl rfl (OpP.v (P_move rfl rfl)) ?_
    refine L_val rfl rfl rfl (OpP.v (P_move rfl rfl)) ?_
    refine L_val rfl rfl rfl (OpP.v (P_ixs (q.length) rfl ty_sl_36 rfl rfl (by first | rfl | omega) (by omega))) ?_
    refine L_val rfl rfl rfl (V_load rfl rfl ty_sc_26 (Rd.row hrow rfl hu)) ?_
    refine L_op rfl (W_call rfl rfl rfl rfl fn_ca_14 (roomy_ok ib ic x (by omega)) (Split.nil _) (fun w a b _ _ _ m => (Sn.row hri rfl).rw_ w ⟨_, ‹_›, m.le (Heap.le_join_right ‹_›)⟩) fun v18 rs1 (e1 : rs1 = _) => ?_)
    subst e1
    refine St.openOwn (p := []) (by omega) fun tb tcap junk htc htl htv => ?_
    subst htv
    refine St.res (rs' := [blk tb (ints .u8 (x ++ [201, 202]) ++ junk) 5, pile (q.map Rm.cell), ownS 26 1 lv q.length (q.map Rm.item), ownS 26 1 fv q.length (q.map Rm.full)]) (Weak.refl _) ?_
    refine L_val rfl rfl rfl (OpP.v (P_assign rfl rfl)) ?_
    refine L_nil ?_
    refine Q_then ?_
    refine R_seq ?_
    refine R_region ?_
    refine L_val rfl rfl rfl (OpP.v (P_move rfl rfl)) ?_
    refine L_val rfl rfl rfl (OpP.v (P_move rfl rfl)) ?_
    refine L_op rfl (W_lit (z := .nilIface) ([.slice (some ⟨tb, 0, none⟩) (x.length + 2) tcap]) rfl rfl rfl ty_sl_36 ty_lz_36 rfl rfl rfl (by decide) (by decide) (by simp [Value.cells]) (rfl) fun b21 => ?_)
    refine L_op rfl (W_append (p := [_, _, _, _]) rfl rfl rfl ty_sl_36 ty_ap_36 ty_src_36 rfl rfl rfl (Src.slice (sz := 1) (m := 1) (news := [.slice (some ⟨tb, 0, none⟩) (x.length + 2) tcap]) (Rds.blk .h0) rfl (one_of_slice _ _ _)) (by omega) (by simp only [maxLen]; omega) fun v22 => ?_)
    refine St.res (rs' := [blk tb (ints .u8 (x ++ [201, 202]) ++ junk) 5, pile (q.map Rm.cell), ownS 26 1 lv q.length (q.map Rm.item), ownS 26 1 v22 (q.length + 1) (q.map Rm.full ++ [.slice (some ⟨tb, 0, none⟩) (x.length + 2) tcap])]) (Weak.drop (Weak.refl _)) ?_
    refine L_val rfl rfl rfl (OpP.v (P_assign rfl rfl)) ?_
    refine L_nil ?_
    refine Q_then ?_
    refine R_region ?_
    refine L_val rfl rfl rfl (OpP.v (P_move rfl rfl)) ?_
    refine L_val rfl rfl rfl (OpP.v (P_move rfl rfl)) ?_
    refine L_val rfl rfl rfl (OpP.v (P_move rfl rfl)) ?_
    refine L_val rfl rfl rfl (OpP.v (P_move rfl rfl)) ?_
    refine L_val rfl rfl rfl (OpP.v (P_ixs (q.length) rfl ty_sl_36 rfl rfl (by first | rfl | omega) (by omega))) ?_
    refine L_val rfl rfl rfl (V_load rfl rfl ty_sc_26 (Rd.row hrow rfl hu)) ?_
    refine L_val rfl rfl rfl (OpP.v (P_len rfl ty_sl_26 rfl)) ?_
    refine L_val rfl rfl rfl (OpP.v (P_slice 0 x.length rfl ty_sl_26 rfl rfl ⟨_, rfl⟩ (by omega) (by omega))) ?_
    refine E_as (t := 30) (v' := .slice (some ⟨tb, 0, none⟩) x.length tcap) rfl (by unfold sliced; rw [if_neg (by omega)]; simp [add_zero_off]) ?_
    refine L_op rfl (W_lit (z := .nilIface) ([.slice (some ⟨tb, 0, none⟩) x.length tcap]) rfl rfl rfl ty_sl_36 ty_lz_36 rfl rfl rfl (by decide) (by decide) (by simp [Value.cells]) (rfl) fun b31 => ?_)
    refine L_op rfl (W_append (p := [_, _, _]) rfl rfl rfl ty_sl_36 ty_ap_36 ty_src_36 rfl rfl rfl (Src.slice (sz := 1) (m := 1) (news := [.slice (some ⟨tb, 0, none⟩) x.length tcap]) (Rds.blk .h0) rfl (one_of_slice _ _ _)) (by omega) (by simp only [maxLen]; omega) fun v32 => ?_)
    refine St.res (rs' := [blk tb (ints .u8 (x ++ [201, 202]) ++ junk) 5, pile (q.map Rm.cell), ownS 26 1 v32 (q.length + 1) (q.map Rm.item ++ [.slice (some ⟨tb, 0, none⟩) x.length tcap]), ownS 26 1 v22 (q.length + 1) (q.map Rm.full ++ [.slice (some ⟨tb, 0, none⟩) (x.length + 2) tcap])]) (Weak.drop (Weak.refl _)) ?_
    refine St.res Weak.pileAdd ?_
    refine St.res (rs' := [pile ((q ++ [(Rm.mk tb tcap x junk)]).map Rm.cell), ownS 26 1 v32 (q ++ [(Rm.mk tb tcap x junk)]).length ((q ++ [(Rm.mk tb tcap x junk)]).map Rm.item), ownS 26 1 v22 (q ++ [(Rm.mk tb tcap x junk)]).length ((q ++ [(Rm.mk tb tcap x junk)]).map Rm.full)]) (by rw [rm_snoc, List.map_append, List.map_append, List.length_append]; exact Weak.refl _) ?_
    refine L_val rfl rfl rfl (OpP.v (P_assign rfl rfl)) ?_
    refine L_nil ?_
    refine Q_block ?_
    refine Q_then ?_
    refine R_region ?_
    refine L_val rfl rfl rfl (OpP.v (P_move rfl rfl)) ?_
    first | (refine L_val rfl rfl rfl (OpP.v (P_addN rfl rfl rfl (by simp only [fits]; omega))) ?_) | (refine L_val rfl rfl rfl (OpP.v (P_add rfl rfl rfl)) ?_)
    refine L_val rfl rfl rfl (OpP.v (P_assign rfl rfl)) ?_
    refine L_nil ?_
    refine E_nat (t := 6) (n := (q ++ [(Rm.mk tb tcap x junk)]).length) rfl (by rw [List.length_append]; rfl) ?_
    exact Q_round ((q ++ [(Rm.mk tb tcap x junk)]), v22, v32) (⟨by show (q ++ [(Rm.mk tb tcap x junk)]).map Rm.x = xss.take (q ++ [(Rm.mk tb tcap x junk)]).length; rw [List.map_append, List.length_append, hq]; exact (take_snoc hx).symm, fun r hr => by rcases List.mem_append.1 hr with h | h; exact hqo r h; (obtain rfl := List.mem_singleton.1 h; exact htc), by show (q ++ [(Rm.mk tb tcap x junk)]).length ≤ vs.length; rw [List.length_append]; exact hlt'⟩) (by show vs.length - (q ++ [(Rm.mk tb tcap x junk)]).length < vs.length - q.length; rw [List.length_append, List.length_singleton]; omega) (by repeat (first | exact .nil | refine .cons rfl ?_ | refine .consE rfl (by first | rfl | (congr 1; omega) | (congr 1; push_cast; omega)) ?_)) (Weak.refl _)
  · skip
    refine R_exit ?_
    refine Q_then_exit ?_
    refine Q_then_exit ?_
    refine Q_block_eq ?_
    refine St.env (.cons (t := 2) rfl (.cons (t := 3) rfl (.cons (t := 4) rfl (.cons (t := 5) rfl .nil)))) ?_
    refine Q_then ?_
    refine R_seq ?_
    refine R_region ?_
    refine L_val rfl rfl rfl (OpP.v (P_move rfl rfl)) ?_
    refine L_op rfl (W_lit (z := .nilIface) (markC) rfl rfl rfl ty_sl_26 ty_lz_26 rfl rfl rfl (by decide) (by decide) (by simp [Value.cells]) (rfl) fun b34 => ?_)
    refine L_op rfl (W_mark rfl rfl rfl (slB_spec ty_sl_26).1 ty_int_5 rfl .h0 ?_)
    refine L_op rfl (W_lit (z := .nilIface) (markC) rfl rfl rfl ty_sl_26 ty_lz_26 rfl rfl rfl (by decide) (by decide) (by simp [Value.cells]) (rfl) fun b36 => ?_)
    refine L_op rfl (W_mark rfl rfl rfl (slB_spec ty_sl_26).1 ty_int_5 rfl .h0 ?_)
    refine L_op rfl (W_lit (z := .nilIface) ([.slice (some ⟨b34, 0, none⟩) 4 4, .slice (some ⟨b36, 0, none⟩) 4 4]) rfl rfl rfl ty_sl_36 ty_lz_36 rfl rfl rfl (by decide) (by decide) (by simp [Value.cells]) (rfl) fun b38 => ?_)
    refine L_op rfl (W_append (p := [_, _, _, _]) rfl rfl rfl ty_sl_36 ty_ap_36 ty_src_36 rfl rfl rfl (Src.slice (sz := 1) (m := 2) (news := [.slice (some ⟨b34, 0, none⟩) 4 4, .slice (some ⟨b36, 0, none⟩) 4 4]) (Rds.blk .h0) rfl (by simp [Value.oneCell'])) (by omega) (by simp only [maxLen]; omega) fun v39 => ?_)
    refine L_val rfl rfl rfl (OpP.v (P_assign rfl rfl)) ?_
    refine L_nil ?_
    refine St.env (.cons (t := 2) rfl (.cons (t := 3) rfl (.cons (t := 4) rfl (.cons (t := 5) rfl .nil)))) ?_
    refine Q_then ?_
    refine R_seq ?_
    refine R_region ?_
    refine L_val rfl rfl rfl (OpP.v (P_move rfl rfl)) ?_
    refine L_val rfl rfl rfl (OpP.v (P_move rfl rfl)) ?_
    refine L_val rfl rfl rfl (OpP.v (P_assign rfl rfl)) ?_
    refine L_val rfl rfl rfl (OpP.v (P_assign rfl rfl)) ?_
    refine L_nil ?_
    refine St.env (.cons (t := 2) rfl (.cons (t := 3) rfl .nil)) ?_
    refine Q_then ?_
    refine R_ret ?_
    have hqn : q.length = vs.length := by omega
    exact R_end (rs2 := listRs q fv v39 b34 b36) rfl rfl (.tmp rfl (.tmp rfl .nil)) (⟨fv, v39, b34, b36, q, rfl, by rw [hq, hqn, hvx, List.take_length], hqo, rfl⟩) (Weak.drop (Weak.p3 (Weak.refl _)))
end Go.Proofs.YtldndhekjhlbmaaDoor
