/- The book beside two registries: watch. Printed by gen.py. -/
import Derived.Test.YtnaadddnbfnahaaDoorV2
set_option linter.unusedVariables false
set_option linter.unusedSimpArgs false
set_option maxRecDepth 100000
namespace Go.Proofs.YtnaadddnbfnahaaDoor
open Go Go.RowKit Go.Proofs
/-- What a script leaves: who was entered at either registry, and the book. -/
structure Ps where
  e0 : List Int
  e1 : List Int
  bk : List Wrt
def psStep (s : Ps) (o : Opr) : Ps :=
  if o.kd = 1 then (if bitI .and .i64 o.wh 1 = 0 then { s with e0 := eAdd s.e0 o.a } else { s with e1 := eAdd s.e1 o.a })
  else if o.kd = 2 then (if bitI .and .i64 o.wh 1 = 0 then { s with bk := signB 0 s.e0 o.at_ o.m.xs s.bk } else { s with bk := signB 1 s.e1 o.at_ o.m.xs s.bk })
  else s
def psRun (l : List Opr) : Ps := l.foldl psStep ⟨[], [], []⟩
def Ps.ok (n : Nat) (s : Ps) : Prop := BkOK s.bk ∧ s.e0.length ≤ n ∧ s.e1.length ≤ n ∧ s.bk.length ≤ n
theorem Ps.ok.le {n m : Nat} {s : Ps} (h : s.ok n) (hm : n ≤ m) : s.ok m := ⟨h.1, Nat.le_trans h.2.1 hm, Nat.le_trans h.2.2.1 hm, Nat.le_trans h.2.2.2 hm⟩
theorem psStep_ok {n : Nat} {s : Ps} {o : Opr} (h : s.ok n) (hb : IsB o.m.xs) : (psStep s o).ok (n + 1) := by
  obtain ⟨h1, h2, h3, h4⟩ := h
  unfold psStep
  split
  · split
    · exact ⟨h1, eAdd_le h2, Nat.le_succ_of_le h3, Nat.le_succ_of_le h4⟩
    · exact ⟨h1, Nat.le_succ_of_le h2, eAdd_le h3, Nat.le_succ_of_le h4⟩
  · split
    · split
      · exact ⟨signB_ok (.inl rfl) hb h1, Nat.le_succ_of_le h2, Nat.le_succ_of_le h3, signB_le h4⟩
      · exact ⟨signB_ok (.inr rfl) hb h1, Nat.le_succ_of_le h2, Nat.le_succ_of_le h3, signB_le h4⟩
    · exact ⟨h1, Nat.le_succ_of_le h2, Nat.le_succ_of_le h3, Nat.le_succ_of_le h4⟩
theorem psRun_next {l : List Opr} {i : Nat} {o : Opr} (h : l[i]? = some o) : psRun (l.take (i + 1)) = psStep (psRun (l.take i)) o := by
  unfold psRun
  rw [List.take_add_one, h, List.foldl_append]; rfl
theorem psRun_ok {l : List Opr} (hb : ∀ o ∈ l, IsB o.m.xs) : ∀ i, i ≤ l.length → (psRun (l.take i)).ok i
  | 0, _ => ⟨fun _ h => (by cases h), Nat.le_refl _, Nat.le_refl _, Nat.le_refl _⟩
  | i + 1, h => by
    rw [psRun_next (List.getElem?_eq_getElem (show i < l.length by omega))]
    exact psStep_ok (psRun_ok hb i (by omega)) (hb _ (List.getElem_mem _))
def SIG (w : Nat) (s : Ps) : HP := SIGHT w s.e0 s.e1 s.bk
def sgC (G : List Nat) : List Value := [.pointer (G[0]?.map fun b => ⟨b, 0, none⟩), .pointer (G[1]?.map fun b => ⟨b, 0, none⟩), .slice none 0 0, .slice none 0 0, .slice none 0 0, .slice none 0 0, .slice none 0 0, .bool false]
def sgR (x : Nat) : HP := REG x [] []
theorem sgC_length (G : List Nat) : (sgC G).length = 8 := rfl
theorem sgC_set (G : List Nat) (x i : Nat) (hi : i = G.length) (h : G.length < 2) : (sgC G).set i (.pointer (some ⟨x, 0, none⟩)) = sgC (G ++ [x]) := by
  subst hi
  match G, h with
  | [], _ => rfl
  | [y], _ => rfl
theorem sgC_at (G : List Nat) (x i : Nat) (hi : i = G.length) (h : G.length < 2) : (sgC (G ++ [x]))[i]? = some (.pointer (some ⟨x, 0, none⟩)) := by
  subst hi
  match G, h with
  | [], _ => rfl
  | [y], _ => rfl
theorem sn_take {C : Cx} {F : Fx} {rs : List HP} {base : Option Addr} {k : IntKind} {xs : List Int} (n : Nat) (h : Sn C F rs base (ints k xs)) : Sn C F rs base (ints k (xs.take n)) := by
  have h := h.take n
  rwa [ints_take] at h
theorem sEnter_any {gl : Nat → Obj} (w : Nat) (s : Ps) (h : s.ok 1599289640354) (o : Opr) (hk : o.kd = 1) : SpecR (cx gl) 44 [.pointer (some ⟨w, 0, none⟩), .int .i64 (bitI .and .i64 o.wh 1), .int .u64 o.a] (fun _ _ => True) [SIG w s] (.tuple #[]) [SIG w (psStep s o)] := by
  obtain ⟨h1, h2, h3, h4⟩ := h
  unfold psStep
  rw [if_pos hk]
  rcases and1 o.wh with e | e
  · rw [if_pos e, e]; exact sEnter_ok0 w s.e0 s.e1 s.bk h1 h2 h3 h4 o.a
  · rw [if_neg (by rw [e]; decide), e]; exact sEnter_ok1 w s.e0 s.e1 s.bk h1 h2 h3 h4 o.a
theorem sSign_any {gl : Nat → Obj} (hG : Globs gl) (w : Nat) (s : Ps) (h : s.ok 1599289640354) (o : Opr) (hk : o.kd = 2) (hb : IsB o.m.xs) (hl : o.m.xs.length ≤ 140737488351232) : SpecR (cx gl) 45 [.pointer (some ⟨w, 0, none⟩), .int .i64 (bitI .and .i64 o.wh 1), .int .i64 o.at_, .slice o.m.b o.m.xs.length o.m.c] (fun w h => Seen w h o.m.b (ints .u8 o.m.xs)) [SIG w s] (.tuple #[]) [SIG w (psStep s o)] := by
  obtain ⟨h1, h2, h3, h4⟩ := h
  unfold psStep
  rw [if_neg (by omega), if_pos hk]
  rcases and1 o.wh with e | e
  · rw [if_pos e, e]; exact sSign_ok0 hG w s.e0 s.e1 s.bk h1 h2 h3 h4 o.at_ o.m.b o.m.c o.m.xs hb (by omega)
  · rw [if_neg (by rw [e]; decide), e]; exact sSign_ok1 hG w s.e0 s.e1 s.bk h1 h2 h3 h4 o.at_ o.m.b o.m.c o.m.xs hb (by omega)
theorem truth_any {gl : Nat → Obj} (hG : Globs gl) (w : Nat) (s : Ps) (h : s.ok 1599289640354) (k : Int) (hk : k = 0 ∨ k = 1) (a : Int) (base : Option Addr) (c : Nat) (m sl : List Int) (hmb : IsB m) (hml : m.length ≤ 140737488351300) (hsl : sl.length = 16) : SpecR (cx gl) 46 [.pointer (some ⟨w, 0, none⟩), .int .i64 k, .int .u64 a, .slice base m.length c, .agg (ints .u8 (sl)).toArray] (fun w h => Seen w h base (ints .u8 m)) [SIG w s] (.bool true) [SIG w s] := by
  obtain ⟨h1, h2, h3, h4⟩ := h
  rcases hk with rfl | rfl
  · exact truth_ok0 hG w s.e0 s.e1 s.bk h1 h2 h3 h4 a base c m sl hmb hml hsl
  · exact truth_ok1 hG w s.e0 s.e1 s.bk h1 h2 h3 h4 a base c m sl hmb hml hsl
theorem watch_ok {gl : Nat → Obj} (hG : Globs gl) (base : Option Addr) (c : Nat) (ops : List Opr) (hmax : ops.length ≤ 1599289640354) (hm : ∀ o ∈ ops, o.m.xs.length ≤ 140737488351232) : Spec (cx gl) 21 [.slice base ops.length c] (fun w _ => ScriptOK w base ops) [] (fun v rs => ∃ w, v = .tuple #[.pointer (some ⟨w, 0, none⟩), .bool true] ∧ rs = [SIG w (psRun ops)]) := by
  refine Spec.enter (C := cx gl) Tryd.func21 rfl 90 rfl rfl fun w0 h0 hsep hsub hpre => ?_
  obtain rfl : h0 = Heap.none := hsep
  show St (cx gl) _ [(0, .slice base ops.length c)] _ _
  refine R_seq ?_
  refine R_region ?_
  refine L_val rfl rfl rfl (OpP.v (P_assign rfl rfl)) ?_
  refine L_val rfl rfl rfl (OpP.v (P_assign rfl rfl)) ?_
  refine L_nil ?_
  refine Q_then ?_
  refine R_seq ?_
  refine R_region ?_
  refine L_val rfl rfl rfl (OpP.v (P_buildStruct rfl ty_pl_59 ty_ze_59 rfl rfl (rfl))) ?_
  refine E_as (t := 8) (v' := .agg (sgC []).toArray) rfl (rfl) ?_
  refine L_op rfl (W_box (sgC []) rfl rfl rfl rfl rfl fun b9 => ?_)
  refine L_val rfl rfl rfl (OpP.v (P_assign rfl rfl)) ?_
  refine L_nil ?_
  refine St.env (.cons (t := 0) rfl (.cons (t := 2) rfl (.cons (t := 3) rfl (.cons (t := 4) rfl .nil)))) ?_
  refine Q_then ?_
  refine R_seq ?_
  refine R_seq ?_
  refine R_region ?_
  refine L_val rfl rfl rfl (OpP.v (P_assign rfl rfl)) ?_
  refine L_nil ?_
  refine Q_then ?_
  refine R_block ?_
  refine R_loopE (G := Nat × List Nat) (.cons (t := 0) rfl (.cons (t := 2) rfl (.cons (t := 3) rfl (.cons (t := 4) rfl .nil)))) (fun g => [(5, .int .i64 (g.1 : Int))]) (fun g => [blk b9 (sgC g.2) 59, fam sgR g.2]) (fun g => g.1 = g.2.length ∧ g.2.length ≤ 2) (fun g => 2 - g.1) (0, []) (⟨rfl, by decide⟩) (by repeat (first | exact .nil | refine .cons rfl ?_ | refine .consE rfl (by first | rfl | (congr 1; omega) | (congr 1; push_cast; omega)) ?_)) (Weak.keep Weak.famNil) ?_
  rintro ⟨i, G⟩ hinv
  replace hinv : i = G.length ∧ G.length ≤ 2 := hinv
  show St (cx gl) _ ((5, .int .i64 (i : Int)) :: _) [blk b9 (sgC G) 59, fam sgR G] _
  obtain ⟨hi, hg⟩ := hinv
  refine R_seq ?_
  refine R_seq ?_
  refine R_region ?_
  refine L_val rfl rfl rfl (OpP.v (P_move rfl rfl)) ?_
  refine L_val rfl rfl rfl (OpP.v (P_lss rfl rfl rfl)) ?_
  refine L_nil ?_
  refine Q_then ?_
  refine R_condP rfl (fun hlt0 => ?_) (fun hlt0 => ?_)
  · skip
    have hlt : G.length < 2 := by omega
    refine R_skip ?_
    refine Q_then ?_
    refine R_seq ?_
    refine R_block ?_
    refine R_seq ?_
    refine R_open [(0, 0), (1, 0), (3, 0), (4, 0), (2, 2), (5, 0), (6, 3)] mixed (by kernel_rfl) (QOk.then (QOk.block (QOk.then (QOk.then (QOk.block (QOk.then QOk.body)))))) ?_
    refine O_pure rfl rfl rfl rfl (P_move rfl rfl) ?_
    refine O_pure rfl rfl rfl rfl (P_move rfl rfl) ?_
    refine O_pure rfl rfl rfl rfl (P_nil rfl rfl) ?_
    refine O_pure rfl rfl rfl rfl (P_fld0 rfl ty_fl_59_0 rfl) ?_
    refine O_keep rfl rfl (W_call rfl rfl rfl rfl fn_ca_15 (snew_ok) (Split.nil _) (fun _ _ _ _ _ _ _ => trivial) fun v16 rs1 ⟨p, e1, e2⟩ => ?_)
    subst e1; subst e2
    refine K_keep (Weak.drop (Weak.refl _)) ?_
    first | (refine O_pure rfl rfl rfl rfl (P_ixa0 (i) rfl ty_ar_53 rfl rfl (by first | rfl | omega) (by omega)) ?_) | (refine O_pure rfl rfl rfl rfl (P_ixa (i) rfl ty_ar_53 rfl rfl (by first | rfl | omega) (by omega)) ?_)
    refine O_new rfl rfl (W_store rfl rfl rfl rfl ty_sc_25 rfl .h1 (by rw [sgC_length]; omega) (K_new ?_))
    refine O_nil ?_
    refine Q_then ?_
    refine R_seq ?_
    rw [sgC_set G p i hi hlt]
    refine St.res (rs' := [blk b9 (sgC (G ++ [p])) 59, fam sgR (G ++ [p])]) (Weak.p1 (Weak.famAdd (f := sgR) (x := p))) ?_
    refine R_region ?_
    refine L_val rfl rfl rfl (OpP.v (P_move rfl rfl)) ?_
    refine L_val rfl rfl rfl (OpP.v (P_move rfl rfl)) ?_
    refine L_val rfl rfl rfl (OpP.v (P_nil rfl rfl)) ?_
    refine L_val rfl rfl rfl (OpP.v (P_fld0 rfl ty_fl_59_0 rfl)) ?_
    first | (refine L_val rfl rfl rfl (OpP.v (P_ixa0 (i) rfl ty_ar_53 rfl rfl (by first | rfl | omega) (by omega))) ?_) | (refine L_val rfl rfl rfl (OpP.v (P_ixa (i) rfl ty_ar_53 rfl rfl (by first | rfl | omega) (by omega))) ?_)
    refine L_val rfl rfl rfl (V_load rfl rfl ty_sc_25 (Rd.blk .h0 (sgC_at G p i hi hlt))) ?_
    refine L_val rfl rfl rfl (OpP.v (P_eqNil rfl ty_ptr_25 rfl rfl)) ?_
    refine L_nil ?_
    refine Q_then ?_
    refine R_condF rfl ?_
    refine R_skip ?_
    refine Q_block ?_
    refine Q_then ?_
    refine R_region ?_
    refine L_val rfl rfl rfl (OpP.v (P_move rfl rfl)) ?_
    first | (refine L_val rfl rfl rfl (OpP.v (P_addN rfl rfl rfl (by simp only [fits]; omega))) ?_) | (refine L_val rfl rfl rfl (OpP.v (P_add rfl rfl rfl)) ?_)
    refine L_val rfl rfl rfl (OpP.v (P_assign rfl rfl)) ?_
    refine L_nil ?_
    exact Q_round (i + 1, G ++ [p]) (⟨by show i + 1 = (G ++ [p]).length; rw [List.length_append, List.length_singleton]; omega, by show (G ++ [p]).length ≤ 2; rw [List.length_append, List.length_singleton]; omega⟩) (by show 2 - (i + 1) < 2 - i; omega) (by repeat (first | exact .nil | refine .cons rfl ?_ | refine .consE rfl (by first | rfl | (congr 1; omega) | (congr 1; push_cast; omega)) ?_)) (Weak.refl _)
  · skip
    have h2 : G.length = 2 := by omega
    obtain ⟨x, y, rfl⟩ : ∃ x y, G = [x, y] := by match G, h2 with | [x, y], _ => exact ⟨x, y, rfl⟩
    refine R_exit ?_
    refine Q_then_exit ?_
    refine Q_then_exit ?_
    refine Q_block_eq ?_
    refine St.env (.cons (t := 0) rfl (.cons (t := 2) rfl (.cons (t := 3) rfl (.cons (t := 4) rfl .nil)))) ?_
    refine Q_then ?_
    refine R_seq ?_
    refine R_seq ?_
    refine St.res (rs' := [SIGHT b9 [] [] []]) (Weak.trans (Weak.keep ((Weak.unbundle (L := [sgR x, sgR y]) (rs := [])).trans (Weak.keep (Weak.newNil.trans (Weak.keep (Weak.newNil.trans (Weak.keep (Weak.keep (Weak.newNil.trans (Weak.keep (Weak.newNil.trans (Weak.keep Weak.newNil)))))))))))) (sight_close (rs := []) (bk := []) ⟨x, y, [], [], .slice none 0 0, .slice none 0 0, .slice none 0 0, .slice none 0 0, .slice none 0 0⟩)) ?_
    refine R_region ?_
    refine L_val rfl rfl rfl (OpP.v (P_assign rfl rfl)) ?_
    refine L_nil ?_
    refine Q_then ?_
    refine R_block ?_
    refine R_loopE (G := Nat) (.cons (t := 0) rfl (.cons (t := 2) rfl (.cons (t := 3) rfl (.cons (t := 4) rfl .nil)))) (fun g => [(6, .int .i64 (g : Int))]) (fun g => [SIG b9 (psRun (ops.take g))]) (fun g => g ≤ ops.length) (fun g => ops.length - g) (0) (Nat.zero_le _) (by repeat (first | exact .nil | refine .cons rfl ?_ | refine .consE rfl (by first | rfl | (congr 1; omega) | (congr 1; push_cast; omega)) ?_)) (Weak.refl _) ?_
    intro i hinv
    replace hinv : i ≤ ops.length := hinv
    show St (cx gl) _ ((6, .int .i64 (i : Int)) :: _) [SIG b9 (psRun (ops.take i))] _
    have hi := hinv
    refine R_seq ?_
    refine R_seq ?_
    refine St.openP (p := []) (fun ⟨p0, p1, sg0, sg1, S0, S1, A0, A1, B⟩ hxok => ?_)
    refine St.unbundle [] ?_
    refine St.res (rs' := [blk b9 [.pointer (some ⟨p0, 0, none⟩), .pointer (some ⟨p1, 0, none⟩), S0, S1, A0, A1, B, .bool false] 59, REG p0 (sg0) (rcOf 0 (psRun (ops.take i)).bk), ownS 27 1 (S0) (sg0).length (ptrs (sg0)), ownS 23 1 (A0) (sg0).length (ints .u64 (enOf (sg0))), REG p1 (sg1) (rcOf 1 (psRun (ops.take i)).bk), ownS 27 1 (S1) (sg1).length (ptrs (sg1)), ownS 23 1 (A1) (sg1).length (ints .u64 (enOf (sg1))), ownS 64 19 (B) ((psRun (ops.take i)).bk).length (bkC ((psRun (ops.take i)).bk))]) (Weak.refl _) ?_
    refine R_region ?_
    refine L_val rfl rfl rfl (OpP.v (P_move rfl rfl)) ?_
    refine L_val rfl rfl rfl (OpP.v (P_move rfl rfl)) ?_
    refine L_val rfl rfl rfl (OpP.v (P_len rfl ty_sl_39 rfl)) ?_
    refine L_val rfl rfl rfl (OpP.v (P_lss rfl rfl rfl)) ?_
    refine L_val rfl rfl rfl (OpP.v (P_move rfl rfl)) ?_
    refine E_bool (t := 32) rfl (fun hltb => ?_) (fun hltb => ?_)
    · skip
      have hlt0 := of_decide_eq_true hltb
      have hlt : i < ops.length := by omega
      obtain ⟨o, ho⟩ : ∃ o, ops[i]? = some o := ⟨_, List.getElem?_eq_getElem hlt⟩
      obtain ⟨hrow, hob, hosl⟩ := hpre.2 o (List.mem_of_getElem? ho)
      have hom := hm o (List.mem_of_getElem? ho)
      have h16 : ∀ o ∈ ops, o.sl.length = 16 := fun o ho => (hpre.2 o ho).2.2
      have hst := psRun_next ho
      have hpo := (psRun_ok (fun o ho => (hpre.2 o ho).2.1) i hi).le (show i ≤ 1599289640354 by omega)
      rcases hpre.1.cases with hz | ⟨ab, aj, rfl, hra⟩
      · exfalso; have h1 := opsC_at h16 ho 0 _ rfl; rw [hz] at h1; cases h1
      refine L_val rfl rfl rfl (OpP.v (P_move rfl rfl)) ?_
      refine L_val rfl rfl rfl (OpP.v (P_nil rfl rfl)) ?_
      refine L_val rfl rfl rfl (OpP.v (P_fld0 rfl ty_fl_59_4 rfl)) ?_
      refine L_val rfl rfl rfl (V_load rfl rfl ty_sc_4 (Rd.blk .h0 rfl)) ?_
      refine L_val rfl rfl rfl (OpP.v (P_not rfl rfl)) ?_
      refine E_true (t := 37) rfl (rfl) ?_
      refine L_val rfl rfl rfl (OpP.v (P_pick rfl rfl rfl)) ?_
      refine L_nil ?_
      refine Q_then ?_
      refine R_condT rfl ?_
      refine R_skip ?_
      refine Q_then ?_
      refine R_seq ?_
      refine R_block ?_
      refine R_seq ?_
      refine St.res (rs' := [SIG b9 (psRun (ops.take i))]) (by have e0 : enOf sg0 = (psRun (ops.take i)).e0 := hxok.1; have e1 : enOf sg1 = (psRun (ops.take i)).e1 := hxok.2; show Weak _ [SIGHT b9 (psRun (ops.take i)).e0 (psRun (ops.take i)).e1 (psRun (ops.take i)).bk]; rw [← e0, ← e1]; exact sight_close (rs := []) ⟨p0, p1, sg0, sg1, S0, S1, A0, A1, B⟩) ?_
      refine R_region ?_
      refine L_val rfl rfl rfl (OpP.v (P_move rfl rfl)) ?_
      refine L_val rfl rfl rfl (OpP.v (P_move rfl rfl)) ?_
      refine L_val rfl rfl rfl (OpP.v (P_ixs (i) rfl ty_sl_39 rfl rfl (by first | rfl | omega) (by omega))) ?_
      refine L_val rfl rfl rfl (V_loadAgg rfl rfl ty_ag_72 (Rds.sn (k := i * 23) (Sn.row hpre.1 rfl) (fun j v hj => opsC_at h16 ho j v hj)) (opC_length hosl)) ?_
      refine L_op rfl (W_alloc rfl rfl rfl ty_ze_72 fun b7 => ?_)
      refine L_op rfl (W_storeAll rfl rfl rfl rfl ty_ag_72 (opC_length hosl) (opC_one) .h0 ((opC_length hosl).trans rfl) ?_)
      refine L_nil ?_
      refine Q_then ?_
      refine R_seq ?_
      refine St.res (rs' := [SIG b9 (psRun (ops.take i)), blk b7 (o.cells) 72]) (Weak.swap) ?_
      refine R_region ?_
      refine L_val rfl rfl rfl (OpP.v (P_fld0 rfl ty_fl_72_0 rfl)) ?_
      refine L_val rfl rfl rfl (V_load rfl rfl ty_sc_3 (Rd.blk .h1 rfl)) ?_
      refine L_nil ?_
      refine Q_then ?_
      refine R_block ?_
      refine R_seq ?_
      refine R_region ?_
      refine L_val rfl rfl rfl (OpP.v (P_eql rfl rfl rfl)) ?_
      refine L_val rfl rfl rfl (OpP.v (P_assign rfl rfl)) ?_
      refine L_nil ?_
      refine Q_then ?_
      refine R_condP rfl (fun hk1 => ?_) (fun hk1 => ?_)
      · skip
        refine R_region ?_
        refine L_val rfl rfl rfl (OpP.v (P_move rfl rfl)) ?_
        refine L_val rfl rfl rfl (OpP.v (P_fld0 rfl ty_fl_72_1 rfl)) ?_
        refine L_val rfl rfl rfl (V_load rfl rfl ty_sc_3 (Rd.blk .h1 rfl)) ?_
        refine L_val rfl rfl rfl (OpP.v (P_bit (op := .and) rfl rfl rfl rfl)) ?_
        refine L_val rfl rfl rfl (OpP.v (P_fld0 rfl ty_fl_72_3 rfl)) ?_
        refine L_val rfl rfl rfl (V_load rfl rfl ty_sc_23 (Rd.blk .h1 rfl)) ?_
        refine L_op rfl (W_callR rfl rfl rfl rfl fn_ca_44 (sEnter_any b9 (psRun (ops.take i)) hpo o hk1) (Split.one (p := [])) (fun _ _ _ _ _ _ _ => trivial) ?_)
        refine St.res (rs' := [SIG b9 (psStep (psRun (ops.take i)) o), blk b7 (o.cells) 72]) (Weak.refl _) ?_
        refine L_nil ?_
        refine St.env (.cons (t := 0) rfl (.cons (t := 2) rfl (.cons (t := 3) rfl (.cons (t := 4) rfl (.cons (t := 6) rfl (.cons (t := 7) rfl (.cons (t := 28) rfl (.cons (t := 29) rfl (.cons (t := 30) rfl (.cons (t := 31) rfl (.cons (t := 32) rfl (.cons (t := 33) rfl (.cons (t := 34) rfl (.cons (t := 35) rfl (.cons (t := 36) rfl (.cons (t := 37) rfl (.cons (t := 38) rfl (.cons (t := 41) rfl (.cons (t := 42) rfl (.cons (t := 43) rfl (.cons (t := 44) rfl (.cons (t := 45) rfl (.cons (t := 46) rfl (.cons (t := 47) rfl (.cons (t := 48) rfl (.cons (t := 49) rfl (.cons (t := 50) rfl (.cons (t := 51) rfl (.cons (t := 52) rfl (.cons (t := 53) rfl (.cons (t := 54) rfl .nil))))))))))))))))))))))))))))))) ?_
        refine Q_block ?_
        refine Q_block ?_
        refine Q_then ?_
        refine R_region ?_
        refine L_val rfl rfl rfl (OpP.v (P_move rfl rfl)) ?_
        first | (refine L_val rfl rfl rfl (OpP.v (P_addN rfl rfl rfl (by simp only [fits]; omega))) ?_) | (refine L_val rfl rfl rfl (OpP.v (P_add rfl rfl rfl)) ?_)
        refine L_val rfl rfl rfl (OpP.v (P_assign rfl rfl)) ?_
        refine L_nil ?_
        exact Q_round (i + 1) (by show (i + 1) ≤ ops.length; omega) (by show ops.length - (i + 1) < ops.length - i; omega) (by repeat (first | exact .nil | refine .cons rfl ?_ | refine .consE rfl (by first | rfl | (congr 1; omega) | (congr 1; push_cast; omega)) ?_)) (by rw [hst]; exact Weak.keep (Weak.nil _))
      · skip
        refine R_seq ?_
        refine R_region ?_
        refine L_val rfl rfl rfl (OpP.v (P_eql rfl rfl rfl)) ?_
        refine L_val rfl rfl rfl (OpP.v (P_assign rfl rfl)) ?_
        refine L_nil ?_
        refine Q_then ?_
        refine R_condP rfl (fun hk2 => ?_) (fun hk2 => ?_)
        · skip
          refine R_region ?_
          refine L_val rfl rfl rfl (OpP.v (P_move rfl rfl)) ?_
          refine L_val rfl rfl rfl (OpP.v (P_fld0 rfl ty_fl_72_1 rfl)) ?_
          refine L_val rfl rfl rfl (V_load rfl rfl ty_sc_3 (Rd.blk .h1 rfl)) ?_
          refine L_val rfl rfl rfl (OpP.v (P_bit (op := .and) rfl rfl rfl rfl)) ?_
          refine L_val rfl rfl rfl (OpP.v (P_fld0 rfl ty_fl_72_2 rfl)) ?_
          refine L_val rfl rfl rfl (V_load rfl rfl ty_sc_3 (Rd.blk .h1 rfl)) ?_
          refine L_val rfl rfl rfl (OpP.v (P_fld0 rfl ty_fl_72_4 rfl)) ?_
          refine L_val rfl rfl rfl (V_load rfl rfl ty_sc_24 (Rd.blk .h1 rfl)) ?_
          refine L_op rfl (W_callR rfl rfl rfl rfl fn_ca_45 (sSign_any hG b9 (psRun (ops.take i)) hpo o hk2 hob hom) (Split.one (p := [])) (Sn.pre (Sn.row hrow rfl)) ?_)
          refine St.res (rs' := [SIG b9 (psStep (psRun (ops.take i)) o), blk b7 (o.cells) 72]) (Weak.refl _) ?_
          refine L_nil ?_
          refine St.env (.cons (t := 0) rfl (.cons (t := 2) rfl (.cons (t := 3) rfl (.cons (t := 4) rfl (.cons (t := 6) rfl (.cons (t := 7) rfl (.cons (t := 28) rfl (.cons (t := 29) rfl (.cons (t := 30) rfl (.cons (t := 31) rfl (.cons (t := 32) rfl (.cons (t := 33) rfl (.cons (t := 34) rfl (.cons (t := 35) rfl (.cons (t := 36) rfl (.cons (t := 37) rfl (.cons (t := 38) rfl (.cons (t := 41) rfl (.cons (t := 42) rfl (.cons (t := 43) rfl (.cons (t := 44) rfl (.cons (t := 45) rfl (.cons (t := 46) rfl (.cons (t := 47) rfl (.cons (t := 48) rfl (.cons (t := 56) rfl (.cons (t := 57) rfl (.cons (t := 58) rfl (.cons (t := 59) rfl (.cons (t := 60) rfl (.cons (t := 61) rfl (.cons (t := 62) rfl (.cons (t := 63) rfl (.cons (t := 64) rfl (.cons (t := 65) rfl .nil))))))))))))))))))))))))))))))))))) ?_
          refine Q_block ?_
          refine Q_block ?_
          refine Q_then ?_
          refine R_region ?_
          refine L_val rfl rfl rfl (OpP.v (P_move rfl rfl)) ?_
          first | (refine L_val rfl rfl rfl (OpP.v (P_addN rfl rfl rfl (by simp only [fits]; omega))) ?_) | (refine L_val rfl rfl rfl (OpP.v (P_add rfl rfl rfl)) ?_)
          refine L_val rfl rfl rfl (OpP.v (P_assign rfl rfl)) ?_
          refine L_nil ?_
          exact Q_round (i + 1) (by show (i + 1) ≤ ops.length; omega) (by show ops.length - (i + 1) < ops.length - i; omega) (by repeat (first | exact .nil | refine .cons rfl ?_ | refine .consE rfl (by first | rfl | (congr 1; omega) | (congr 1; push_cast; omega)) ?_)) (by rw [hst]; exact Weak.keep (Weak.nil _))
        · skip
          refine R_seq ?_
          refine R_region ?_
          refine L_val rfl rfl rfl (OpP.v (P_eql rfl rfl rfl)) ?_
          refine L_val rfl rfl rfl (OpP.v (P_assign rfl rfl)) ?_
          refine L_nil ?_
          refine Q_then ?_
          refine R_condP rfl (fun hk3 => ?_) (fun hk3 => ?_)
          · skip
            refine R_seq ?_
            refine R_region ?_
            refine L_val rfl rfl rfl (OpP.v (P_move rfl rfl)) ?_
            refine L_val rfl rfl rfl (OpP.v (P_fld0 rfl ty_fl_72_1 rfl)) ?_
            refine L_val rfl rfl rfl (V_load rfl rfl ty_sc_3 (Rd.blk .h1 rfl)) ?_
            refine L_val rfl rfl rfl (OpP.v (P_bit (op := .and) rfl rfl rfl rfl)) ?_
            refine L_val rfl rfl rfl (OpP.v (P_fld0 rfl ty_fl_72_3 rfl)) ?_
            refine L_val rfl rfl rfl (V_load rfl rfl ty_sc_23 (Rd.blk .h1 rfl)) ?_
            refine L_val rfl rfl rfl (OpP.v (P_fld0 rfl ty_fl_72_4 rfl)) ?_
            refine L_val rfl rfl rfl (V_load rfl rfl ty_sc_24 (Rd.blk .h1 rfl)) ?_
            refine L_val rfl rfl rfl (OpP.v (P_fld0 rfl ty_fl_72_5 rfl)) ?_
            refine L_val rfl rfl rfl (V_loadAgg rfl rfl ty_ag_33 ((Rds.blk .h1).part 5 (opC_seal hosl)) (by rw [ints_length, hosl])) ?_
            refine L_op rfl (W_callR rfl rfl rfl rfl fn_ca_46 (truth_any hG b9 (psRun (ops.take i)) hpo _ (and1 o.wh) o.a o.m.b o.m.c o.m.xs o.sl hob (by omega) hosl) (Split.one (p := [])) (Sn.pre (Sn.row hrow rfl)) ?_)
            refine St.res (rs' := [SIG b9 (psRun (ops.take i)), blk b7 (o.cells) 72]) (Weak.refl _) ?_
            refine E_true (t := 79) rfl (rfl) ?_
            refine L_val rfl rfl rfl (OpP.v (P_not rfl rfl)) ?_
            refine L_nil ?_
            refine Q_then ?_
            refine R_condF rfl ?_
            refine R_skip ?_
            refine Q_block ?_
            refine Q_block ?_
            refine Q_then ?_
            refine R_region ?_
            refine L_val rfl rfl rfl (OpP.v (P_move rfl rfl)) ?_
            first | (refine L_val rfl rfl rfl (OpP.v (P_addN rfl rfl rfl (by simp only [fits]; omega))) ?_) | (refine L_val rfl rfl rfl (OpP.v (P_add rfl rfl rfl)) ?_)
            refine L_val rfl rfl rfl (OpP.v (P_assign rfl rfl)) ?_
            refine L_nil ?_
            exact Q_round (i + 1) (by show (i + 1) ≤ ops.length; omega) (by show ops.length - (i + 1) < ops.length - i; omega) (by repeat (first | exact .nil | refine .cons rfl ?_ | refine .consE rfl (by first | rfl | (congr 1; omega) | (congr 1; push_cast; omega)) ?_)) (by rw [hst, show psStep (psRun (ops.take i)) o = (psRun (ops.take i)) by unfold psStep; rw [if_neg hk1, if_neg hk2]]; exact Weak.keep (Weak.nil _))
          · skip
            refine R_skip ?_
            refine Q_block ?_
            refine Q_block ?_
            refine Q_then ?_
            refine R_region ?_
            refine L_val rfl rfl rfl (OpP.v (P_move rfl rfl)) ?_
            first | (refine L_val rfl rfl rfl (OpP.v (P_addN rfl rfl rfl (by simp only [fits]; omega))) ?_) | (refine L_val rfl rfl rfl (OpP.v (P_add rfl rfl rfl)) ?_)
            refine L_val rfl rfl rfl (OpP.v (P_assign rfl rfl)) ?_
            refine L_nil ?_
            exact Q_round (i + 1) (by show (i + 1) ≤ ops.length; omega) (by show ops.length - (i + 1) < ops.length - i; omega) (by repeat (first | exact .nil | refine .cons rfl ?_ | refine .consE rfl (by first | rfl | (congr 1; omega) | (congr 1; push_cast; omega)) ?_)) (by rw [hst, show psStep (psRun (ops.take i)) o = (psRun (ops.take i)) by unfold psStep; rw [if_neg hk1, if_neg hk2]]; exact Weak.keep (Weak.nil _))
    · skip
      have hlt0 := of_decide_eq_false hltb
      obtain rfl : i = ops.length := by omega
      refine L_no rfl rfl rfl ?_
      refine L_no rfl rfl rfl ?_
      refine L_no rfl rfl rfl ?_
      refine L_no rfl rfl rfl ?_
      refine L_no rfl rfl rfl ?_
      refine L_val rfl rfl rfl (OpP.v (P_pick rfl rfl rfl)) ?_
      refine L_nil ?_
      refine Q_then ?_
      refine R_condF rfl ?_
      refine R_exit ?_
      refine Q_then_exit ?_
      refine Q_then_exit ?_
      refine Q_block_eq ?_
      refine St.env (.cons (t := 2) rfl (.cons (t := 3) rfl (.cons (t := 4) rfl .nil))) ?_
      refine Q_then ?_
      refine R_seq ?_
      refine R_open [(0, 0), (1, 0), (2, 0), (3, 0), (4, 1), (5, 0), (6, 0), (7, 0)] mixed (by kernel_rfl) (QOk.then QOk.body) ?_
      refine O_pure rfl rfl rfl rfl (P_move rfl rfl) ?_
      refine O_pure rfl rfl rfl rfl (P_move rfl rfl) ?_
      refine O_pure rfl rfl rfl rfl (P_nil rfl rfl) ?_
      refine O_pure rfl rfl rfl rfl (P_fld0 rfl ty_fl_59_4 rfl) ?_
      refine O_val rfl rfl rfl rfl (V_load rfl rfl ty_sc_4 (Rd.blk .h0 rfl)) ?_
      refine O_pure rfl rfl rfl rfl (P_not rfl rfl) ?_
      refine O_pure rfl rfl rfl rfl (P_assign rfl rfl) ?_
      refine O_pure rfl rfl rfl rfl (P_assign rfl rfl) ?_
      refine O_nil ?_
      refine St.env (.cons (t := 2) rfl (.cons (t := 3) rfl .nil)) ?_
      refine Q_then ?_
      refine R_ret ?_
      exact R_end (rs2 := _) rfl rfl (.tmp rfl (.tmp rfl .nil)) (⟨b9, rfl, rfl⟩) (by have e : psRun (ops.take ops.length) = psRun ops := (by rw [List.take_length]); rw [← e]; exact (by have e0 : enOf sg0 = (psRun (ops.take ops.length)).e0 := hxok.1; have e1 : enOf sg1 = (psRun (ops.take ops.length)).e1 := hxok.2; show Weak _ [SIGHT b9 (psRun (ops.take ops.length)).e0 (psRun (ops.take ops.length)).e1 (psRun (ops.take ops.length)).bk]; rw [← e0, ← e1]; exact sight_close (rs := []) ⟨p0, p1, sg0, sg1, S0, S1, A0, A1, B⟩))
end Go.Proofs.YtnaadddnbfnahaaDoor
