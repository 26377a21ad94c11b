/- Two registries: begin, step. Printed by gen.py. -/
import Derived.Test.YtnaadddnbfnahaaDoorU4
set_option linter.unusedVariables false
set_option linter.unusedSimpArgs false
set_option maxRecDepth 100000
namespace Go.Proofs.YtnaadddnbfnahaaDoor
open Go Go.RowKit Go.Proofs
theorem and1 (x : Int) : bitI .and .i64 x 1 = 0 ∨ bitI .and .i64 x 1 = 1 := by
  have h : ∀ y : BitVec 64, (y &&& 1#64).toNat = 0 ∨ (y &&& 1#64).toNat = 1 := fun y => by
    rw [BitVec.toNat_and]
    have : (1#64).toNat = 1 := rfl
    rw [this, Nat.and_one_is_mod]; omega
  have e : bitI .and .i64 x 1 = IntKind.i64.wrap ((BitVec.ofInt 64 x &&& 1#64).toNat : Int) := rfl
  rcases h (BitVec.ofInt 64 x) with h | h
  · left; rw [e, h]; rfl
  · right; rw [e, h]; rfl
theorem two_mono {w n : Nat} {rs : List HP} : Weak (TWO w n :: rs) (TWO w (n + 1) :: rs) := Weak.turn .h0 fun h ⟨t, ⟨⟨h1, h2, h3⟩, ⟨h4, h5, h6⟩, h7, h8⟩, hb⟩ => ⟨t, ⟨⟨h1, Nat.le_succ_of_le h2, Nat.le_succ_of_le h3⟩, ⟨h4, Nat.le_succ_of_le h5, Nat.le_succ_of_le h6⟩, Nat.le_succ_of_le h7, h8⟩, hb⟩
theorem isIn_eq {sg tg : List (Int × Nat)} (h : enOf sg = enOf tg) (a : Int) : (isIn sg a == decide (a ∈ enOf tg)) = true := by
  rw [← h]
  cases hi : isIn sg a with
  | true => rw [decide_eq_true ((isIn_iff _ _).1 hi)]; rfl
  | false => rw [decide_eq_false fun hm => by rw [(isIn_iff _ _).2 hm] at hi; cases hi]; rfl
theorem reg_fact {p : Nat} {sg : List (Int × Nat)} {rc : List Rcd} : ∀ h, REG p sg rc h → ∀ x ∈ rc, IsB x.2 ∧ x.2.length ≤ 1048576 := fun _ ⟨_, hx, _⟩ => hx.1
/-- The registries that were made so far. -/
def ptrO (x : Option Nat) : Value := .pointer (x.map fun b => ⟨b, 0, none⟩)
def begC (G : List (Nat × Nat)) : List Value := [ptrO (G[0]?.map (·.1)), ptrO (G[1]?.map (·.1)), ptrO (G[0]?.map (·.2)), ptrO (G[1]?.map (·.2)), .slice none 0 0, .slice none 0 0, .slice none 0 0, .slice none 0 0, .slice none 0 0]
def begH (x : Nat × Nat) : HP := bundle [REG x.1 [] [], REF x.2 [] []]
theorem begC_set (G : List (Nat × Nat)) (x : Nat × Nat) (i : Nat) (hi : i = G.length) (h : G.length < 2) : ((begC G).set i (.pointer (some ⟨x.1, 0, none⟩))).set (2 + i * 1) (.pointer (some ⟨x.2, 0, none⟩)) = begC (G ++ [x]) := by
  subst hi
  match G, h with
  | [], _ => rfl
  | [y], _ => rfl
theorem begC_at (G : List (Nat × Nat)) (x : Nat × Nat) (i : Nat) (hi : i = G.length) (h : G.length < 2) : (begC (G ++ [x]))[i]? = some (.pointer (some ⟨x.1, 0, none⟩)) := by
  subst hi
  match G, h with
  | [], _ => rfl
  | [y], _ => rfl
theorem begC_length (G : List (Nat × Nat)) : (begC G).length = 9 := rfl
theorem begin_ok {gl : Nat → Obj} : Spec (cx gl) 30 [] (fun _ _ => True) [] (fun v rs => ∃ w, v = .tuple #[.pointer (some ⟨w, 0, none⟩), .bool true] ∧ rs = [TWO w 0]) := by
  refine Spec.enter (C := cx gl) Tryd.func30 rfl 35 rfl rfl fun w0 h0 hsep hsub hpre => ?_
  obtain rfl : h0 = Heap.none := hsep
  show St (cx gl) _ [] _ _
  refine R_seq ?_
  refine R_region ?_
  refine L_val rfl rfl rfl (OpP.v (P_assign rfl rfl)) ?_
  refine L_val rfl rfl rfl (OpP.v (P_assign rfl rfl)) ?_
  refine L_nil ?_
  refine Q_then ?_
  refine R_seq ?_
  refine R_region ?_
  refine L_val rfl rfl rfl (OpP.v (P_buildStruct rfl ty_pl_79 ty_ze_79 rfl rfl (rfl))) ?_
  refine E_as (t := 5) (v' := .agg (begC []).toArray) rfl (rfl) ?_
  refine L_op rfl (W_box (begC []) rfl rfl rfl rfl rfl fun b6 => ?_)
  refine L_val rfl rfl rfl (OpP.v (P_assign rfl rfl)) ?_
  refine L_nil ?_
  refine St.env (.cons (t := 0) rfl (.cons (t := 1) rfl (.cons (t := 2) rfl .nil))) ?_
  refine Q_then ?_
  refine R_seq ?_
  refine R_region ?_
  refine L_val rfl rfl rfl (OpP.v (P_assign rfl rfl)) ?_
  refine L_nil ?_
  refine Q_then ?_
  refine R_seq ?_
  refine R_seq ?_
  refine R_region ?_
  refine L_val rfl rfl rfl (OpP.v (P_assign rfl rfl)) ?_
  refine L_nil ?_
  refine Q_then ?_
  refine R_block ?_
  refine R_loopE (G := Nat × List (Nat × Nat)) (.cons (t := 0) rfl (.cons (t := 1) rfl (.cons (t := 2) rfl .nil))) (fun g => [(3, .bool true), (4, .int .i64 (g.1 : Int))]) (fun g => [blk b6 (begC g.2) 79, fam begH g.2]) (fun g => g.1 = g.2.length ∧ g.2.length ≤ 2) (fun g => 2 - g.1) (0, []) (⟨rfl, by decide⟩) (by repeat (first | exact .nil | refine .cons rfl ?_ | refine .consE rfl (by first | rfl | (congr 1; omega) | (congr 1; push_cast; omega)) ?_)) (Weak.keep Weak.famNil) ?_
  rintro ⟨i, G⟩ hinv
  replace hinv : i = G.length ∧ G.length ≤ 2 := hinv
  show St (cx gl) _ ((3, .bool true) :: (4, .int .i64 (i : Int)) :: _) [blk b6 (begC G) 79, fam begH G] _
  obtain ⟨hi, hg⟩ := hinv
  refine R_seq ?_
  refine R_seq ?_
  refine R_region ?_
  refine L_val rfl rfl rfl (OpP.v (P_move rfl rfl)) ?_
  refine L_val rfl rfl rfl (OpP.v (P_lss rfl rfl rfl)) ?_
  refine L_nil ?_
  refine Q_then ?_
  refine R_condP rfl (fun hlt0 => ?_) (fun hlt0 => ?_)
  · skip
    have hlt : G.length < 2 := by omega
    refine R_skip ?_
    refine Q_then ?_
    refine R_seq ?_
    refine R_block ?_
    refine R_seq ?_
    refine R_open [(0, 0), (1, 0), (3, 0), (4, 0), (2, 2), (5, 0), (6, 3)] mixed (by kernel_rfl) (QOk.then (QOk.block (QOk.then (QOk.then (QOk.block (QOk.then QOk.body)))))) ?_
    refine O_pure rfl rfl rfl rfl (P_move rfl rfl) ?_
    refine O_pure rfl rfl rfl rfl (P_move rfl rfl) ?_
    refine O_pure rfl rfl rfl rfl (P_nil rfl rfl) ?_
    refine O_pure rfl rfl rfl rfl (P_fld0 rfl ty_fl_79_0 rfl) ?_
    refine O_keep rfl rfl (W_call rfl rfl rfl rfl fn_ca_15 (snew_ok) (Split.nil _) (fun _ _ _ _ _ _ _ => trivial) fun v13 rs1 ⟨p, e1, e2⟩ => ?_)
    subst e1; subst e2
    refine K_keep (Weak.drop (Weak.refl _)) ?_
    first | (refine O_pure rfl rfl rfl rfl (P_ixa0 (i) rfl ty_ar_53 rfl rfl (by first | rfl | omega) (by omega)) ?_) | (refine O_pure rfl rfl rfl rfl (P_ixa (i) rfl ty_ar_53 rfl rfl (by first | rfl | omega) (by omega)) ?_)
    refine O_new rfl rfl (W_store rfl rfl rfl rfl ty_sc_25 rfl .h1 (by rw [begC_length]; omega) (K_new ?_))
    refine O_nil ?_
    refine Q_then ?_
    refine R_seq ?_
    refine R_open [(0, 0), (1, 0), (3, 0), (4, 0), (2, 2), (5, 0), (6, 3)] mixed (by kernel_rfl) (QOk.then (QOk.block (QOk.then (QOk.then (QOk.block (QOk.then QOk.body)))))) ?_
    refine O_pure rfl rfl rfl rfl (P_move rfl rfl) ?_
    refine O_pure rfl rfl rfl rfl (P_move rfl rfl) ?_
    refine O_pure rfl rfl rfl rfl (P_nil rfl rfl) ?_
    refine O_pure rfl rfl rfl rfl (P_fld0 rfl ty_fl_79_1 rfl) ?_
    refine O_keep rfl rfl (W_call rfl rfl rfl rfl fn_ca_47 (rnew_ok) (Split.nil _) (fun _ _ _ _ _ _ _ => trivial) fun v19 rs2 ⟨q, e3, e4⟩ => ?_)
    subst e3; subst e4
    refine K_keep (Weak.drop (Weak.refl _)) ?_
    first | (refine O_pure rfl rfl rfl rfl (P_ixa0 (i) rfl ty_ar_74 rfl rfl (by first | rfl | omega) (by omega)) ?_) | (refine O_pure rfl rfl rfl rfl (P_ixa (i) rfl ty_ar_74 rfl rfl (by first | rfl | omega) (by omega)) ?_)
    refine O_new rfl rfl (W_store rfl rfl rfl rfl ty_sc_73 rfl .h2 (by rw [List.length_set, begC_length]; omega) (K_new ?_))
    refine O_nil ?_
    refine Q_then ?_
    rw [begC_set G (p, q) i hi hlt]
    refine St.res (rs' := [blk b6 (begC (G ++ [(p, q)])) 79, fam begH (G ++ [(p, q)])]) ((Weak.p2 (Weak.swap.trans ((Weak.bundle (L := [REG p [] [], REF q [] []])).trans (Weak.famAdd (f := begH) (x := (p, q))))))) ?_
    refine R_region ?_
    refine L_val rfl rfl rfl (OpP.v (P_move rfl rfl)) ?_
    refine L_val rfl rfl rfl (OpP.v (P_move rfl rfl)) ?_
    refine E_true (t := 24) rfl (rfl) ?_
    refine L_val rfl rfl rfl (OpP.v (P_move rfl rfl)) ?_
    refine L_val rfl rfl rfl (OpP.v (P_move rfl rfl)) ?_
    refine L_val rfl rfl rfl (OpP.v (P_nil rfl rfl)) ?_
    refine L_val rfl rfl rfl (OpP.v (P_fld0 rfl ty_fl_79_0 rfl)) ?_
    first | (refine L_val rfl rfl rfl (OpP.v (P_ixa0 (i) rfl ty_ar_53 rfl rfl (by first | rfl | omega) (by omega))) ?_) | (refine L_val rfl rfl rfl (OpP.v (P_ixa (i) rfl ty_ar_53 rfl rfl (by first | rfl | omega) (by omega))) ?_)
    refine L_val rfl rfl rfl (V_load rfl rfl ty_sc_25 (Rd.blk .h0 (begC_at G (p, q) i hi hlt))) ?_
    refine L_val rfl rfl rfl (OpP.v (P_neNil rfl ty_ptr_25 rfl rfl)) ?_
    refine L_val rfl rfl rfl (OpP.v (P_pick rfl rfl rfl)) ?_
    refine L_val rfl rfl rfl (OpP.v (P_assign rfl rfl)) ?_
    refine L_nil ?_
    refine Q_block ?_
    refine Q_then ?_
    refine R_region ?_
    refine L_val rfl rfl rfl (OpP.v (P_move rfl rfl)) ?_
    first | (refine L_val rfl rfl rfl (OpP.v (P_addN rfl rfl rfl (by simp only [fits]; omega))) ?_) | (refine L_val rfl rfl rfl (OpP.v (P_add rfl rfl rfl)) ?_)
    refine L_val rfl rfl rfl (OpP.v (P_assign rfl rfl)) ?_
    refine L_nil ?_
    exact Q_round (i + 1, G ++ [(p, q)]) (⟨by show i + 1 = (G ++ [(p, q)]).length; rw [List.length_append, List.length_singleton]; omega, by show (G ++ [(p, q)]).length ≤ 2; rw [List.length_append, List.length_singleton]; omega⟩) (by show 2 - (i + 1) < 2 - i; omega) (by repeat (first | exact .nil | refine .cons rfl ?_ | refine .consE rfl (by first | rfl | (congr 1; omega) | (congr 1; push_cast; omega)) ?_)) (Weak.refl _)
  · skip
    have h2 : G.length = 2 := by omega
    refine R_exit ?_
    refine Q_then_exit ?_
    refine Q_then_exit ?_
    refine Q_block_eq ?_
    refine St.env (.cons (t := 0) rfl (.cons (t := 1) rfl (.cons (t := 2) rfl (.cons (t := 3) rfl .nil)))) ?_
    refine Q_then ?_
    refine R_seq ?_
    obtain ⟨x, y, rfl⟩ : ∃ x y, G = [x, y] := by match G, h2 with | [x, y], _ => exact ⟨x, y, rfl⟩
    refine R_region ?_
    refine L_val rfl rfl rfl (OpP.v (P_move rfl rfl)) ?_
    refine L_val rfl rfl rfl (OpP.v (P_move rfl rfl)) ?_
    refine L_val rfl rfl rfl (OpP.v (P_assign rfl rfl)) ?_
    refine L_val rfl rfl rfl (OpP.v (P_assign rfl rfl)) ?_
    refine L_nil ?_
    refine St.env (.cons (t := 0) rfl (.cons (t := 1) rfl .nil)) ?_
    refine Q_then ?_
    refine R_ret ?_
    exact R_end (rs2 := _) rfl rfl (.tmp rfl (.tmp rfl .nil)) (⟨b6, rfl, rfl⟩) (Weak.trans (Weak.keep ((Weak.unbundle (L := [begH x, begH y]) (rs := [])).trans ((Weak.unbundle (L := [REG x.1 [] [], REF x.2 [] []]) (rs := [begH y])).trans (Weak.keep (Weak.keep (Weak.newNil.trans (Weak.keep (Weak.newNil.trans (Weak.keep ((Weak.unbundle (L := [REG y.1 [] [], REF y.2 [] []]) (rs := [])).trans (Weak.keep (Weak.keep (Weak.newNil.trans (Weak.keep (Weak.newNil.trans (Weak.keep Weak.newNil)))))))))))))))) (two_close (n := 0) (rs := []) ⟨⟨x.1, x.2, [], [], [], .slice none 0 0, .slice none 0 0⟩, ⟨y.1, y.2, [], [], [], .slice none 0 0, .slice none 0 0⟩, .slice none 0 0, []⟩ ⟨⟨rfl, Nat.le_refl _, Nat.le_refl _⟩, ⟨rfl, Nat.le_refl _, Nat.le_refl _⟩, Nat.le_refl _, fun _ h => by cases h⟩))
theorem step0 {gl : Nat → Obj} (hG : GlobsR gl) (w n : Nat) (hn : n ≤ 1599289640354) (kd wh at_ a : Int) (base : Option Addr) (c : Nat) (xs sl : List Int) (tw : Int) (lg : Bool) (hsl : sl.length = 16) (hxm : xs.length ≤ 140737488351232) (hxb : IsB xs) (hk : bitI .and .i64 wh 1 = 0) : SpecR (cx gl) 31 [.pointer (some ⟨w, 0, none⟩), .agg (opC kd wh at_ a base xs.length c sl tw lg).toArray] (fun w h => Seen w h base (ints .u8 xs)) [TWO w n] (.bool true) [TWO w (n + 1)] := by
  refine Spec.enter (C := cx gl) Tryd.func31 rfl 130 rfl rfl fun w0 h0 hsep hsub hpre => ?_
  show St (cx gl) _ [(0, .pointer (some ⟨w, 0, none⟩)), (1, .agg (opC kd wh at_ a base xs.length c sl tw lg).toArray)] _ _
  refine R_seq ?_
  refine R_region ?_
  refine L_op rfl (W_box (opC kd wh at_ a base xs.length c sl tw lg) rfl rfl rfl rfl rfl fun b3 => ?_)
  refine L_val rfl rfl rfl (OpP.v (P_assign rfl rfl)) ?_
  refine L_nil ?_
  refine St.env (.cons (t := 0) rfl (.cons (t := 3) rfl (.cons (t := 4) rfl .nil))) ?_
  refine Q_then ?_
  refine R_seq ?_
  refine R_region ?_
  refine L_val rfl rfl rfl (OpP.v (P_fld0 rfl ty_fl_72_1 rfl)) ?_
  refine L_val rfl rfl rfl (V_load rfl rfl ty_sc_3 (Rd.blk .h0 rfl)) ?_
  refine L_val rfl rfl rfl (OpP.v (P_bit (op := .and) rfl rfl rfl rfl)) ?_
  refine E_as (t := 9) (v' := .int .i64 0) rfl (by rw [hk]) ?_
  refine L_val rfl rfl rfl (OpP.v (P_assign rfl rfl)) ?_
  refine L_nil ?_
  refine St.env (.cons (t := 0) rfl (.cons (t := 3) rfl (.cons (t := 4) rfl (.cons (t := 5) rfl .nil)))) ?_
  refine Q_then ?_
  refine R_seq ?_
  refine R_seq ?_
  refine R_region ?_
  refine L_val rfl rfl rfl (OpP.v (P_fld0 rfl ty_fl_72_0 rfl)) ?_
  refine L_val rfl rfl rfl (V_load rfl rfl ty_sc_3 (Rd.blk .h0 rfl)) ?_
  refine L_nil ?_
  refine St.env (.cons (t := 0) rfl (.cons (t := 3) rfl (.cons (t := 4) rfl (.cons (t := 5) rfl (.cons (t := 11) rfl .nil))))) ?_
  refine Q_then ?_
  refine R_block ?_
  refine R_seq ?_
  refine R_region ?_
  refine L_val rfl rfl rfl (OpP.v (P_eql rfl rfl rfl)) ?_
  refine L_val rfl rfl rfl (OpP.v (P_assign rfl rfl)) ?_
  refine L_nil ?_
  refine St.env (.cons (t := 0) rfl (.cons (t := 3) rfl (.cons (t := 4) rfl (.cons (t := 5) rfl (.cons (t := 11) rfl (.cons (t := 12) rfl .nil)))))) ?_
  refine Q_then ?_
  refine R_condP rfl (fun h0 => ?_) (fun h0 => ?_)
  · skip
    refine R_seq ?_
    refine R_region ?_
    refine L_val rfl rfl rfl (OpP.v (P_move rfl rfl)) ?_
    refine L_val rfl rfl rfl (OpP.v (P_move rfl rfl)) ?_
    refine L_val rfl rfl rfl (V_loadAgg rfl rfl ty_ag_72 (Rds.blk .h0) (opC_length hsl)) ?_
    refine L_op rfl (W_callR rfl rfl rfl rfl fn_ca_48 (enters_ok0 w n hn kd wh at_ a base c xs sl tw lg) (Split.one (p := [_])) (fun _ _ _ _ _ _ _ => trivial) ?_)
    refine St.res (rs' := [TWO w (n + 1), blk b3 (opC kd wh at_ a base xs.length c sl tw lg) 72]) (Weak.refl _) ?_
    refine L_val rfl rfl rfl (OpP.v (P_assign rfl rfl)) ?_
    refine L_nil ?_
    refine St.env (.cons (t := 4) rfl .nil) ?_
    refine Q_then ?_
    refine R_ret ?_
    refine Q_block_ret ?_
    refine Q_then_ret ?_
    exact R_end (rs2 := [TWO w (n + 1)]) rfl rfl (.tmp rfl .nil) (⟨rfl, rfl⟩) (Weak.keep (Weak.nil _))
  · skip
    refine R_seq ?_
    refine R_region ?_
    refine L_val rfl rfl rfl (OpP.v (P_eql rfl rfl rfl)) ?_
    refine L_val rfl rfl rfl (OpP.v (P_assign rfl rfl)) ?_
    refine L_nil ?_
    refine St.env (.cons (t := 0) rfl (.cons (t := 3) rfl (.cons (t := 4) rfl (.cons (t := 5) rfl (.cons (t := 11) rfl (.cons (t := 18) rfl .nil)))))) ?_
    refine Q_then ?_
    refine R_condP rfl (fun h1 => ?_) (fun h1 => ?_)
    · skip
      refine R_seq ?_
      refine R_region ?_
      refine L_val rfl rfl rfl (OpP.v (P_move rfl rfl)) ?_
      refine L_val rfl rfl rfl (OpP.v (P_move rfl rfl)) ?_
      refine L_val rfl rfl rfl (V_loadAgg rfl rfl ty_ag_72 (Rds.blk .h0) (opC_length hsl)) ?_
      refine L_op rfl (W_callR rfl rfl rfl rfl fn_ca_49 (signs_ok0 hG w n hn kd wh at_ a base c xs sl tw lg hsl hxm hxb) (Split.one (p := [_])) (Sn.pre (Sn.old hpre)) ?_)
      refine St.res (rs' := [TWO w (n + 1), blk b3 (opC kd wh at_ a base xs.length c sl tw lg) 72]) (Weak.refl _) ?_
      refine L_val rfl rfl rfl (OpP.v (P_assign rfl rfl)) ?_
      refine L_nil ?_
      refine St.env (.cons (t := 4) rfl .nil) ?_
      refine Q_then ?_
      refine R_ret ?_
      refine Q_block_ret ?_
      refine Q_then_ret ?_
      exact R_end (rs2 := [TWO w (n + 1)]) rfl rfl (.tmp rfl .nil) (⟨rfl, rfl⟩) (Weak.keep (Weak.nil _))
    · skip
      refine R_seq ?_
      refine R_region ?_
      refine L_val rfl rfl rfl (OpP.v (P_eql rfl rfl rfl)) ?_
      refine L_val rfl rfl rfl (OpP.v (P_assign rfl rfl)) ?_
      refine L_nil ?_
      refine St.env (.cons (t := 0) rfl (.cons (t := 3) rfl (.cons (t := 4) rfl (.cons (t := 5) rfl (.cons (t := 11) rfl (.cons (t := 24) rfl .nil)))))) ?_
      refine Q_then ?_
      refine R_condP rfl (fun h2 => ?_) (fun h2 => ?_)
      · skip
        refine R_seq ?_
        refine R_region ?_
        refine L_val rfl rfl rfl (OpP.v (P_move rfl rfl)) ?_
        refine L_val rfl rfl rfl (OpP.v (P_move rfl rfl)) ?_
        refine L_val rfl rfl rfl (V_loadAgg rfl rfl ty_ag_72 (Rds.blk .h0) (opC_length hsl)) ?_
        refine L_op rfl (W_callR rfl rfl rfl rfl fn_ca_50 (checks_ok0 hG w n hn kd wh at_ a base c xs sl tw lg hsl hxm hxb) (Split.one (p := [_])) (Sn.pre (Sn.old hpre)) ?_)
        refine St.res (rs' := [TWO w (n + 1), blk b3 (opC kd wh at_ a base xs.length c sl tw lg) 72]) (Weak.refl _) ?_
        refine L_val rfl rfl rfl (OpP.v (P_assign rfl rfl)) ?_
        refine L_nil ?_
        refine St.env (.cons (t := 4) rfl .nil) ?_
        refine Q_then ?_
        refine R_ret ?_
        refine Q_block_ret ?_
        refine Q_then_ret ?_
        exact R_end (rs2 := [TWO w (n + 1)]) rfl rfl (.tmp rfl .nil) (⟨rfl, rfl⟩) (Weak.keep (Weak.nil _))
      · skip
        refine R_seq ?_
        refine R_region ?_
        refine L_val rfl rfl rfl (OpP.v (P_eql rfl rfl rfl)) ?_
        refine L_val rfl rfl rfl (OpP.v (P_assign rfl rfl)) ?_
        refine L_nil ?_
        refine St.env (.cons (t := 0) rfl (.cons (t := 3) rfl (.cons (t := 4) rfl (.cons (t := 5) rfl (.cons (t := 11) rfl (.cons (t := 30) rfl .nil)))))) ?_
        refine Q_then ?_
        refine R_condP rfl (fun h3 => ?_) (fun h3 => ?_)
        · skip
          refine R_seq ?_
          refine St.res (rs' := [TWO w n, blk b3 (opC kd wh at_ a base xs.length c sl tw lg) 72]) (Weak.swap) ?_
          refine St.openP (p := []) (fun ⟨⟨p0, q0, sg0, tg0, rc0, vs0, vt0⟩, ⟨p1, q1, sg1, tg1, rc1, vs1, vt1⟩, z, ss⟩ hok => ?_)
          obtain ⟨⟨hen0, hs0, hr0⟩, ⟨hen1, hs1, hr1⟩, hzl, hz16⟩ := hok
          dsimp only at hen0 hen1 hs0 hs1 hr0 hr1 hzl hz16
          refine St.unbundle [] ?_
          refine St.res (rs' := [blk w [.pointer (some ⟨p0, 0, none⟩), .pointer (some ⟨p1, 0, none⟩), .pointer (some ⟨q0, 0, none⟩), .pointer (some ⟨q1, 0, none⟩), vs0, vs1, vt0, vt1, z] 79, REG p0 (sg0) (rc0), REF q0 (tg0) (rc0), ownS 27 1 (vs0) (sg0).length (ptrs (sg0)), ownS 114 1 (vt0) (tg0).length (ptrs (tg0)), REG p1 (sg1) (rc1), REF q1 (tg1) (rc1), ownS 27 1 (vs1) (sg1).length (ptrs (sg1)), ownS 114 1 (vt1) (tg1).length (ptrs (tg1)), ownS 33 16 (z) (ss).length (flat .u8 (ss)), blk b3 (opC kd wh at_ a base xs.length c sl tw lg) 72]) (Weak.refl _) ?_
          have htl0 : tg0.length = sg0.length := (enOf_len hen0).symm
          have htl1 : tg1.length = sg1.length := (enOf_len hen1).symm
          refine St.ownForm (p := [_, _, _]) fun sb0 sc0 hsb0_ hsc0 => ?_
          subst hsb0_
          refine St.ownForm (p := [_, _, _, _]) fun tb0 tc0 htb0_ htc0 => ?_
          subst htb0_
          refine St.ownForm (p := [_, _, _, _, _, _, _]) fun sb1 sc1 hsb1_ hsc1 => ?_
          subst hsb1_
          refine St.ownForm (p := [_, _, _, _, _, _, _, _]) fun tb1 tc1 htb1_ htc1 => ?_
          subst htb1_
          refine St.ownForm (p := [_, _, _, _, _, _, _, _, _]) fun zb zc hzb_ hzc => ?_
          subst hzb_
          refine St.res (rs' := [blk w [.pointer (some ⟨p0, 0, none⟩), .pointer (some ⟨p1, 0, none⟩), .pointer (some ⟨q0, 0, none⟩), .pointer (some ⟨q1, 0, none⟩), .slice sb0 sg0.length sc0, .slice sb1 sg1.length sc1, .slice tb0 tg0.length tc0, .slice tb1 tg1.length tc1, .slice zb ss.length zc] 79, REG p0 (sg0) (rc0), REF q0 (tg0) (rc0), ownS 27 1 (.slice sb0 sg0.length sc0) (sg0).length (ptrs (sg0)), ownS 114 1 (.slice tb0 tg0.length tc0) (tg0).length (ptrs (tg0)), REG p1 (sg1) (rc1), REF q1 (tg1) (rc1), ownS 27 1 (.slice sb1 sg1.length sc1) (sg1).length (ptrs (sg1)), ownS 114 1 (.slice tb1 tg1.length tc1) (tg1).length (ptrs (tg1)), ownS 33 16 (.slice zb ss.length zc) (ss).length (flat .u8 (ss)), blk b3 (opC kd wh at_ a base xs.length c sl tw lg) 72]) (Weak.refl _) ?_
          refine St.res (rs' := [blk w [.pointer (some ⟨p0, 0, none⟩), .pointer (some ⟨p1, 0, none⟩), .pointer (some ⟨q0, 0, none⟩), .pointer (some ⟨q1, 0, none⟩), .slice sb0 sg0.length sc0, .slice sb1 sg1.length sc1, .slice tb0 tg0.length tc0, .slice tb1 tg1.length tc1, .slice zb ss.length zc] 79, blk b3 (opC kd wh at_ a base xs.length c sl tw lg) 72, REG p0 (sg0) (rc0), REF q0 (tg0) (rc0), ownS 27 1 (.slice sb0 sg0.length sc0) (sg0).length (ptrs (sg0)), ownS 114 1 (.slice tb0 tg0.length tc0) (tg0).length (ptrs (tg0)), ownS 33 16 (.slice zb ss.length zc) (ss).length (flat .u8 (ss)), REG p1 (sg1) (rc1), REF q1 (tg1) (rc1), ownS 27 1 (.slice sb1 sg1.length sc1) (sg1).length (ptrs (sg1)), ownS 114 1 (.slice tb1 tg1.length tc1) (tg1).length (ptrs (tg1))]) (Weak.keep (Weak.pick (p := [_, _, _, _, _, _, _, _, _]) (Weak.keep (Weak.keep (Weak.keep (Weak.keep (Weak.pick (p := [_, _, _, _]) (Weak.keep (Weak.keep (Weak.keep (Weak.keep (Weak.nil _)))))))))))) ?_
          refine R_open [(0, 0), (1, 0), (2, 0), (3, 0), (4, 0), (5, 1), (6, 0), (7, 1), (9, 0), (10, 0), (11, 0), (12, 0), (13, 0), (14, 1), (15, 0), (16, 1), (8, 2), (17, 2), (18, 0), (19, 0)] mixed (by kernel_rfl) (QOk.then (QOk.block (QOk.then QOk.body))) ?_
          refine O_pure rfl rfl rfl rfl (P_move rfl rfl) ?_
          refine O_pure rfl rfl rfl rfl (P_move rfl rfl) ?_
          refine O_pure rfl rfl rfl rfl (P_nil rfl rfl) ?_
          refine O_pure rfl rfl rfl rfl (P_fld0 rfl ty_fl_79_0 rfl) ?_
          first | (refine O_pure rfl rfl rfl rfl (P_ixa0 (0) rfl ty_ar_53 rfl rfl (by first | rfl | omega) (by omega)) ?_) | (refine O_pure rfl rfl rfl rfl (P_ixa (0) rfl ty_ar_53 rfl rfl (by first | rfl | omega) (by omega)) ?_)
          refine O_val rfl rfl rfl rfl (V_load rfl rfl ty_sc_25 (Rd.blk .h0 rfl)) ?_
          refine O_pure rfl rfl rfl rfl (P_fld0 rfl ty_fl_72_3 rfl) ?_
          refine O_val rfl rfl rfl rfl (V_load rfl rfl ty_sc_23 (Rd.blk .h1 rfl)) ?_
          refine O_pure rfl rfl rfl rfl (P_move rfl rfl) ?_
          refine O_pure rfl rfl rfl rfl (P_move rfl rfl) ?_
          refine O_pure rfl rfl rfl rfl (P_nil rfl rfl) ?_
          refine O_pure rfl rfl rfl rfl (P_fld0 rfl ty_fl_79_1 rfl) ?_
          first | (refine O_pure rfl rfl rfl rfl (P_ixa0 (0) rfl ty_ar_74 rfl rfl (by first | rfl | omega) (by omega)) ?_) | (refine O_pure rfl rfl rfl rfl (P_ixa (0) rfl ty_ar_74 rfl rfl (by first | rfl | omega) (by omega)) ?_)
          refine O_val rfl rfl rfl rfl (V_load rfl rfl ty_sc_73 (Rd.blk .h0 rfl)) ?_
          refine O_pure rfl rfl rfl rfl (P_fld0 rfl ty_fl_72_3 rfl) ?_
          refine O_val rfl rfl rfl rfl (V_load rfl rfl ty_sc_23 (Rd.blk .h1 rfl)) ?_
          refine O_keep rfl rfl (W_callR rfl rfl rfl rfl fn_ca_24 (known_ok p0 sg0 rc0 a) (Split.one (p := [_, _])) (fun _ _ _ _ _ _ _ => trivial) (K_keep (Weak.p1 (Weak.p1 (Weak.refl _))) ?_))
          refine O_keep rfl rfl (W_callR rfl rfl rfl rfl fn_ca_51 (rknown_ok q0 tg0 rc0 a (by omega)) (Split.one (p := [_, _, _])) (fun _ _ _ _ _ _ _ => trivial) (K_keep (Weak.p1 (Weak.p1 (Weak.p1 (Weak.refl _)))) ?_))
          refine O_pure rfl rfl rfl rfl (P_eql_bool rfl ty_bool_4 rfl rfl) ?_
          refine E_true (t := 50) rfl (isIn_eq hen0 a) ?_
          refine O_pure rfl rfl rfl rfl (P_assign rfl rfl) ?_
          refine O_nil ?_
          refine St.env (.cons (t := 4) rfl .nil) ?_
          refine Q_then ?_
          refine R_ret ?_
          refine Q_block_ret ?_
          refine Q_then_ret ?_
          exact R_end (rs2 := [TWO w (n + 1)]) rfl rfl (.tmp rfl .nil) (⟨rfl, rfl⟩) ((Weak.pick (p := [_, _]) (Weak.pick (p := [_, _]) (Weak.pick (p := [_]) (Weak.keep (Weak.keep (Weak.keep (Weak.keep (Weak.keep (Weak.keep (Weak.keep (Weak.keep (Weak.nil _)))))))))))).trans ((Weak.keep (Weak.drop (Weak.refl _))).trans ((Weak.keep (Weak.keep (Weak.keep (Weak.keep (Weak.keep (Weak.pick (p := [_]) (Weak.pick (p := [_]) (Weak.pick (p := [_]) (Weak.pick (p := [_]) (Weak.keep (Weak.nil _))))))))))).trans (two_close (n := n + 1) (rs := []) ⟨⟨p0, q0, sg0, tg0, rc0, .slice sb0 sg0.length sc0, .slice tb0 tg0.length tc0⟩, ⟨p1, q1, sg1, tg1, rc1, .slice sb1 sg1.length sc1, .slice tb1 tg1.length tc1⟩, .slice zb ss.length zc, ss⟩ ⟨⟨hen0, Nat.le_succ_of_le hs0, Nat.le_succ_of_le hr0⟩, ⟨hen1, Nat.le_succ_of_le hs1, Nat.le_succ_of_le hr1⟩, Nat.le_succ_of_le hzl, hz16⟩))))
        · skip
          refine R_seq ?_
          refine R_region ?_
          refine L_val rfl rfl rfl (OpP.v (P_eql rfl rfl rfl)) ?_
          refine L_val rfl rfl rfl (OpP.v (P_assign rfl rfl)) ?_
          refine L_nil ?_
          refine St.env (.cons (t := 0) rfl (.cons (t := 3) rfl (.cons (t := 4) rfl (.cons (t := 5) rfl (.cons (t := 11) rfl (.cons (t := 51) rfl .nil)))))) ?_
          refine Q_then ?_
          refine R_condP rfl (fun h4 => ?_) (fun h4 => ?_)
          · skip
            refine R_seq ?_
            refine St.res (rs' := [TWO w n, blk b3 (opC kd wh at_ a base xs.length c sl tw lg) 72]) (Weak.swap) ?_
            refine St.openP (p := []) (fun ⟨⟨p0, q0, sg0, tg0, rc0, vs0, vt0⟩, ⟨p1, q1, sg1, tg1, rc1, vs1, vt1⟩, z, ss⟩ hok => ?_)
            obtain ⟨⟨hen0, hs0, hr0⟩, ⟨hen1, hs1, hr1⟩, hzl, hz16⟩ := hok
            dsimp only at hen0 hen1 hs0 hs1 hr0 hr1 hzl hz16
            refine St.unbundle [] ?_
            refine St.res (rs' := [blk w [.pointer (some ⟨p0, 0, none⟩), .pointer (some ⟨p1, 0, none⟩), .pointer (some ⟨q0, 0, none⟩), .pointer (some ⟨q1, 0, none⟩), vs0, vs1, vt0, vt1, z] 79, REG p0 (sg0) (rc0), REF q0 (tg0) (rc0), ownS 27 1 (vs0) (sg0).length (ptrs (sg0)), ownS 114 1 (vt0) (tg0).length (ptrs (tg0)), REG p1 (sg1) (rc1), REF q1 (tg1) (rc1), ownS 27 1 (vs1) (sg1).length (ptrs (sg1)), ownS 114 1 (vt1) (tg1).length (ptrs (tg1)), ownS 33 16 (z) (ss).length (flat .u8 (ss)), blk b3 (opC kd wh at_ a base xs.length c sl tw lg) 72]) (Weak.refl _) ?_
            have htl0 : tg0.length = sg0.length := (enOf_len hen0).symm
            have htl1 : tg1.length = sg1.length := (enOf_len hen1).symm
            refine St.ownForm (p := [_, _, _]) fun sb0 sc0 hsb0_ hsc0 => ?_
            subst hsb0_
            refine St.ownForm (p := [_, _, _, _]) fun tb0 tc0 htb0_ htc0 => ?_
            subst htb0_
            refine St.ownForm (p := [_, _, _, _, _, _, _]) fun sb1 sc1 hsb1_ hsc1 => ?_
            subst hsb1_
            refine St.ownForm (p := [_, _, _, _, _, _, _, _]) fun tb1 tc1 htb1_ htc1 => ?_
            subst htb1_
            refine St.ownForm (p := [_, _, _, _, _, _, _, _, _]) fun zb zc hzb_ hzc => ?_
            subst hzb_
            refine St.res (rs' := [blk w [.pointer (some ⟨p0, 0, none⟩), .pointer (some ⟨p1, 0, none⟩), .pointer (some ⟨q0, 0, none⟩), .pointer (some ⟨q1, 0, none⟩), .slice sb0 sg0.length sc0, .slice sb1 sg1.length sc1, .slice tb0 tg0.length tc0, .slice tb1 tg1.length tc1, .slice zb ss.length zc] 79, REG p0 (sg0) (rc0), REF q0 (tg0) (rc0), ownS 27 1 (.slice sb0 sg0.length sc0) (sg0).length (ptrs (sg0)), ownS 114 1 (.slice tb0 tg0.length tc0) (tg0).length (ptrs (tg0)), REG p1 (sg1) (rc1), REF q1 (tg1) (rc1), ownS 27 1 (.slice sb1 sg1.length sc1) (sg1).length (ptrs (sg1)), ownS 114 1 (.slice tb1 tg1.length tc1) (tg1).length (ptrs (tg1)), ownS 33 16 (.slice zb ss.length zc) (ss).length (flat .u8 (ss)), blk b3 (opC kd wh at_ a base xs.length c sl tw lg) 72]) (Weak.refl _) ?_
            refine St.res (rs' := [blk w [.pointer (some ⟨p0, 0, none⟩), .pointer (some ⟨p1, 0, none⟩), .pointer (some ⟨q0, 0, none⟩), .pointer (some ⟨q1, 0, none⟩), .slice sb0 sg0.length sc0, .slice sb1 sg1.length sc1, .slice tb0 tg0.length tc0, .slice tb1 tg1.length tc1, .slice zb ss.length zc] 79, blk b3 (opC kd wh at_ a base xs.length c sl tw lg) 72, REG p0 (sg0) (rc0), REF q0 (tg0) (rc0), ownS 27 1 (.slice sb0 sg0.length sc0) (sg0).length (ptrs (sg0)), ownS 114 1 (.slice tb0 tg0.length tc0) (tg0).length (ptrs (tg0)), ownS 33 16 (.slice zb ss.length zc) (ss).length (flat .u8 (ss)), REG p1 (sg1) (rc1), REF q1 (tg1) (rc1), ownS 27 1 (.slice sb1 sg1.length sc1) (sg1).length (ptrs (sg1)), ownS 114 1 (.slice tb1 tg1.length tc1) (tg1).length (ptrs (tg1))]) (Weak.keep (Weak.pick (p := [_, _, _, _, _, _, _, _, _]) (Weak.keep (Weak.keep (Weak.keep (Weak.keep (Weak.pick (p := [_, _, _, _]) (Weak.keep (Weak.keep (Weak.keep (Weak.keep (Weak.nil _)))))))))))) ?_
            refine R_open [(0, 0), (1, 0), (2, 0), (3, 0), (4, 0), (5, 1), (7, 0), (8, 0), (9, 0), (10, 0), (11, 0), (12, 1), (6, 2), (13, 2), (14, 0), (15, 0)] mixed (by kernel_rfl) (QOk.then (QOk.block (QOk.then QOk.body))) ?_
            refine O_pure rfl rfl rfl rfl (P_move rfl rfl) ?_
            refine O_pure rfl rfl rfl rfl (P_move rfl rfl) ?_
            refine O_pure rfl rfl rfl rfl (P_nil rfl rfl) ?_
            refine O_pure rfl rfl rfl rfl (P_fld0 rfl ty_fl_79_0 rfl) ?_
            first | (refine O_pure rfl rfl rfl rfl (P_ixa0 (0) rfl ty_ar_53 rfl rfl (by first | rfl | omega) (by omega)) ?_) | (refine O_pure rfl rfl rfl rfl (P_ixa (0) rfl ty_ar_53 rfl rfl (by first | rfl | omega) (by omega)) ?_)
            refine O_val rfl rfl rfl rfl (V_load rfl rfl ty_sc_25 (Rd.blk .h0 rfl)) ?_
            refine O_pure rfl rfl rfl rfl (P_move rfl rfl) ?_
            refine O_pure rfl rfl rfl rfl (P_move rfl rfl) ?_
            refine O_pure rfl rfl rfl rfl (P_nil rfl rfl) ?_
            refine O_pure rfl rfl rfl rfl (P_fld0 rfl ty_fl_79_1 rfl) ?_
            first | (refine O_pure rfl rfl rfl rfl (P_ixa0 (0) rfl ty_ar_74 rfl rfl (by first | rfl | omega) (by omega)) ?_) | (refine O_pure rfl rfl rfl rfl (P_ixa (0) rfl ty_ar_74 rfl rfl (by first | rfl | omega) (by omega)) ?_)
            refine O_val rfl rfl rfl rfl (V_load rfl rfl ty_sc_73 (Rd.blk .h0 rfl)) ?_
            refine O_keep rfl rfl (W_callR rfl rfl rfl rfl fn_ca_23 (count_ok p0 sg0 rc0) (Split.one (p := [_, _])) (fun _ _ _ _ _ _ _ => trivial) (K_keep (Weak.p1 (Weak.p1 (Weak.refl _))) ?_))
            refine O_keep rfl rfl (W_callR rfl rfl rfl rfl fn_ca_32 (rcount_ok q0 tg0 rc0) (Split.one (p := [_, _, _])) (fun _ _ _ _ _ _ _ => trivial) (K_keep (Weak.p1 (Weak.p1 (Weak.p1 (Weak.refl _)))) ?_))
            refine O_pure rfl rfl rfl rfl (P_eql rfl rfl rfl) ?_
            refine E_true (t := 67) rfl (decide_eq_true rfl) ?_
            refine O_pure rfl rfl rfl rfl (P_assign rfl rfl) ?_
            refine O_nil ?_
            refine St.env (.cons (t := 4) rfl .nil) ?_
            refine Q_then ?_
            refine R_ret ?_
            refine Q_block_ret ?_
            refine Q_then_ret ?_
            exact R_end (rs2 := [TWO w (n + 1)]) rfl rfl (.tmp rfl .nil) (⟨rfl, rfl⟩) ((Weak.pick (p := [_, _]) (Weak.pick (p := [_, _]) (Weak.pick (p := [_]) (Weak.keep (Weak.keep (Weak.keep (Weak.keep (Weak.keep (Weak.keep (Weak.keep (Weak.keep (Weak.nil _)))))))))))).trans ((Weak.keep (Weak.drop (Weak.refl _))).trans ((Weak.keep (Weak.keep (Weak.keep (Weak.keep (Weak.keep (Weak.pick (p := [_]) (Weak.pick (p := [_]) (Weak.pick (p := [_]) (Weak.pick (p := [_]) (Weak.keep (Weak.nil _))))))))))).trans (two_close (n := n + 1) (rs := []) ⟨⟨p0, q0, sg0, tg0, rc0, .slice sb0 sg0.length sc0, .slice tb0 tg0.length tc0⟩, ⟨p1, q1, sg1, tg1, rc1, .slice sb1 sg1.length sc1, .slice tb1 tg1.length tc1⟩, .slice zb ss.length zc, ss⟩ ⟨⟨hen0, Nat.le_succ_of_le hs0, Nat.le_succ_of_le hr0⟩, ⟨hen1, Nat.le_succ_of_le hs1, Nat.le_succ_of_le hr1⟩, Nat.le_succ_of_le hzl, hz16⟩))))
          · skip
            refine R_seq ?_
            refine R_region ?_
            refine L_val rfl rfl rfl (OpP.v (P_eql rfl rfl rfl)) ?_
            refine L_val rfl rfl rfl (OpP.v (P_assign rfl rfl)) ?_
            refine L_nil ?_
            refine St.env (.cons (t := 0) rfl (.cons (t := 3) rfl (.cons (t := 4) rfl (.cons (t := 5) rfl (.cons (t := 11) rfl (.cons (t := 68) rfl .nil)))))) ?_
            refine Q_then ?_
            refine R_condP rfl (fun h5 => ?_) (fun h5 => ?_)
            · skip
              refine R_seq ?_
              refine St.res (rs' := [TWO w n, blk b3 (opC kd wh at_ a base xs.length c sl tw lg) 72]) (Weak.swap) ?_
              refine St.openP (p := []) (fun ⟨⟨p0, q0, sg0, tg0, rc0, vs0, vt0⟩, ⟨p1, q1, sg1, tg1, rc1, vs1, vt1⟩, z, ss⟩ hok => ?_)
              obtain ⟨⟨hen0, hs0, hr0⟩, ⟨hen1, hs1, hr1⟩, hzl, hz16⟩ := hok
              dsimp only at hen0 hen1 hs0 hs1 hr0 hr1 hzl hz16
              refine St.unbundle [] ?_
              refine St.res (rs' := [blk w [.pointer (some ⟨p0, 0, none⟩), .pointer (some ⟨p1, 0, none⟩), .pointer (some ⟨q0, 0, none⟩), .pointer (some ⟨q1, 0, none⟩), vs0, vs1, vt0, vt1, z] 79, REG p0 (sg0) (rc0), REF q0 (tg0) (rc0), ownS 27 1 (vs0) (sg0).length (ptrs (sg0)), ownS 114 1 (vt0) (tg0).length (ptrs (tg0)), REG p1 (sg1) (rc1), REF q1 (tg1) (rc1), ownS 27 1 (vs1) (sg1).length (ptrs (sg1)), ownS 114 1 (vt1) (tg1).length (ptrs (tg1)), ownS 33 16 (z) (ss).length (flat .u8 (ss)), blk b3 (opC kd wh at_ a base xs.length c sl tw lg) 72]) (Weak.refl _) ?_
              have htl0 : tg0.length = sg0.length := (enOf_len hen0).symm
              have htl1 : tg1.length = sg1.length := (enOf_len hen1).symm
              refine St.ownForm (p := [_, _, _]) fun sb0 sc0 hsb0_ hsc0 => ?_
              subst hsb0_
              refine St.ownForm (p := [_, _, _, _]) fun tb0 tc0 htb0_ htc0 => ?_
              subst htb0_
              refine St.ownForm (p := [_, _, _, _, _, _, _]) fun sb1 sc1 hsb1_ hsc1 => ?_
              subst hsb1_
              refine St.ownForm (p := [_, _, _, _, _, _, _, _]) fun tb1 tc1 htb1_ htc1 => ?_
              subst htb1_
              refine St.ownForm (p := [_, _, _, _, _, _, _, _, _]) fun zb zc hzb_ hzc => ?_
              subst hzb_
              refine St.res (rs' := [blk w [.pointer (some ⟨p0, 0, none⟩), .pointer (some ⟨p1, 0, none⟩), .pointer (some ⟨q0, 0, none⟩), .pointer (some ⟨q1, 0, none⟩), .slice sb0 sg0.length sc0, .slice sb1 sg1.length sc1, .slice tb0 tg0.length tc0, .slice tb1 tg1.length tc1, .slice zb ss.length zc] 79, REG p0 (sg0) (rc0), REF q0 (tg0) (rc0), ownS 27 1 (.slice sb0 sg0.length sc0) (sg0).length (ptrs (sg0)), ownS 114 1 (.slice tb0 tg0.length tc0) (tg0).length (ptrs (tg0)), REG p1 (sg1) (rc1), REF q1 (tg1) (rc1), ownS 27 1 (.slice sb1 sg1.length sc1) (sg1).length (ptrs (sg1)), ownS 114 1 (.slice tb1 tg1.length tc1) (tg1).length (ptrs (tg1)), ownS 33 16 (.slice zb ss.length zc) (ss).length (flat .u8 (ss)), blk b3 (opC kd wh at_ a base xs.length c sl tw lg) 72]) (Weak.refl _) ?_
              refine St.res (rs' := [blk w [.pointer (some ⟨p0, 0, none⟩), .pointer (some ⟨p1, 0, none⟩), .pointer (some ⟨q0, 0, none⟩), .pointer (some ⟨q1, 0, none⟩), .slice sb0 sg0.length sc0, .slice sb1 sg1.length sc1, .slice tb0 tg0.length tc0, .slice tb1 tg1.length tc1, .slice zb ss.length zc] 79, blk b3 (opC kd wh at_ a base xs.length c sl tw lg) 72, REG p0 (sg0) (rc0), REF q0 (tg0) (rc0), ownS 27 1 (.slice sb0 sg0.length sc0) (sg0).length (ptrs (sg0)), ownS 114 1 (.slice tb0 tg0.length tc0) (tg0).length (ptrs (tg0)), ownS 33 16 (.slice zb ss.length zc) (ss).length (flat .u8 (ss)), REG p1 (sg1) (rc1), REF q1 (tg1) (rc1), ownS 27 1 (.slice sb1 sg1.length sc1) (sg1).length (ptrs (sg1)), ownS 114 1 (.slice tb1 tg1.length tc1) (tg1).length (ptrs (tg1))]) (Weak.keep (Weak.pick (p := [_, _, _, _, _, _, _, _, _]) (Weak.keep (Weak.keep (Weak.keep (Weak.keep (Weak.pick (p := [_, _, _, _]) (Weak.keep (Weak.keep (Weak.keep (Weak.keep (Weak.nil _)))))))))))) ?_
              refine St.hasFact (r := REG p0 sg0 rc0) .h2 reg_fact fun hrcb => ?_
              refine R_open [(0, 0), (1, 0), (2, 0), (3, 0), (4, 0), (5, 1), (6, 0), (7, 1), (9, 0), (10, 0), (11, 0), (12, 0), (13, 0), (14, 1), (15, 0), (16, 1), (8, 2), (17, 2), (18, 2), (19, 0)] mixed (by kernel_rfl) (QOk.then (QOk.block (QOk.then QOk.body))) ?_
              refine O_pure rfl rfl rfl rfl (P_move rfl rfl) ?_
              refine O_pure rfl rfl rfl rfl (P_move rfl rfl) ?_
              refine O_pure rfl rfl rfl rfl (P_nil rfl rfl) ?_
              refine O_pure rfl rfl rfl rfl (P_fld0 rfl ty_fl_79_0 rfl) ?_
              first | (refine O_pure rfl rfl rfl rfl (P_ixa0 (0) rfl ty_ar_53 rfl rfl (by first | rfl | omega) (by omega)) ?_) | (refine O_pure rfl rfl rfl rfl (P_ixa (0) rfl ty_ar_53 rfl rfl (by first | rfl | omega) (by omega)) ?_)
              refine O_val rfl rfl rfl rfl (V_load rfl rfl ty_sc_25 (Rd.blk .h0 rfl)) ?_
              refine O_pure rfl rfl rfl rfl (P_fld0 rfl ty_fl_72_3 rfl) ?_
              refine O_val rfl rfl rfl rfl (V_load rfl rfl ty_sc_23 (Rd.blk .h1 rfl)) ?_
              refine O_pure rfl rfl rfl rfl (P_move rfl rfl) ?_
              refine O_pure rfl rfl rfl rfl (P_move rfl rfl) ?_
              refine O_pure rfl rfl rfl rfl (P_nil rfl rfl) ?_
              refine O_pure rfl rfl rfl rfl (P_fld0 rfl ty_fl_79_1 rfl) ?_
              first | (refine O_pure rfl rfl rfl rfl (P_ixa0 (0) rfl ty_ar_74 rfl rfl (by first | rfl | omega) (by omega)) ?_) | (refine O_pure rfl rfl rfl rfl (P_ixa (0) rfl ty_ar_74 rfl rfl (by first | rfl | omega) (by omega)) ?_)
              refine O_val rfl rfl rfl rfl (V_load rfl rfl ty_sc_73 (Rd.blk .h0 rfl)) ?_
              refine O_pure rfl rfl rfl rfl (P_fld0 rfl ty_fl_72_3 rfl) ?_
              refine O_val rfl rfl rfl rfl (V_load rfl rfl ty_sc_23 (Rd.blk .h1 rfl)) ?_
              refine O_keep rfl rfl (W_call rfl rfl rfl rfl fn_ca_27 (signed_ok p0 sg0 rc0 a (by omega)) (Split.one (p := [_, _])) (fun _ _ _ _ _ _ _ => trivial) fun v78 rs1 ⟨ws, hws, e1⟩ => ?_)
              subst e1
              refine St.ownForm (p := []) fun ub uc hub_ huc => ?_
              subst hub_
              refine K_keep (Weak.pick (p := [_, _, _]) (Weak.pick (p := [_, _, _]) (Weak.pick (p := [_, _]) (Weak.pick (p := [_, _]) (Weak.pick (p := [_, _]) (Weak.pick (p := [_, _]) (Weak.pick (p := [_, _]) (Weak.pick (p := [_, _]) (Weak.pick (p := [_, _]) (Weak.pick (p := [_, _]) (Weak.pick (p := [_, _]) (Weak.nil _)))))))))))) ?_
              refine O_keep rfl rfl (W_call rfl rfl rfl rfl fn_ca_52 (rsigned_ok q0 tg0 rc0 a (by omega)) (Split.one (p := [_, _, _, _, _])) (fun _ _ _ _ _ _ _ => trivial) fun v87 rs2 ⟨wt, hwt, e2⟩ => ?_)
              subst e2
              refine St.ownForm (p := []) fun vb vc hvb_ hvc => ?_
              subst hvb_
              refine K_keep (Weak.pick (p := [_, _, _]) (Weak.pick (p := [_, _, _]) (Weak.pick (p := [_, _, _]) (Weak.pick (p := [_, _, _]) (Weak.pick (p := [_, _, _]) (Weak.pick (p := [_, _]) (Weak.pick (p := [_, _]) (Weak.pick (p := [_, _]) (Weak.pick (p := [_, _]) (Weak.pick (p := [_, _]) (Weak.pick (p := [_, _]) (Weak.pick (p := [_, _]) (Weak.pick (p := [_, _]) (Weak.nil _)))))))))))))) ?_
              have hx : ∀ x ∈ ws.map (·.2), IsB x := fun x hx => by rw [hws] at hx; exact (hrcb _ (msgsOf_mem hx)).1
              have hy : ∀ x ∈ wt.map (·.2), IsB x := fun x hx => by rw [hwt] at hx; exact (hrcb _ (msgsOf_mem hx)).1
              have l1 : ws.length ≤ 4398046511104 := by (have q1 := congrArg List.length hws; have q2 := msgsOf_le rc0 a; rw [List.length_map] at q1; omega)
              have l2 : wt.length ≤ 4398046511104 := by (have q1 := congrArg List.length hwt; have q2 := msgsOf_le rc0 a; rw [List.length_map] at q1; omega)
              have hsame := same_ok (gl := gl) ub uc (ws.map (·.1)) (ws.map (·.2)) (by simp) (by rw [List.length_map]; exact l1) hx vb vc (wt.map (·.1)) (wt.map (·.2)) (by simp) (by rw [List.length_map]; exact l2) hy
              rw [List.length_map, List.length_map] at hsame
              refine O_keep rfl rfl (W_callV rfl rfl rfl rfl fn_ca_28 (hsame) (fun w nw => ⟨ItemsM.own .h3 .h4 w nw, ItemsM.own .h0 .h1 w nw⟩) (K_keep (Weak.refl _) ?_))
              refine E_true (t := 88) rfl (decide_eq_true (by rw [hws, hwt])) ?_
              refine O_pure rfl rfl rfl rfl (P_assign rfl rfl) ?_
              refine O_nil ?_
              refine St.env (.cons (t := 4) rfl .nil) ?_
              refine Q_then ?_
              refine R_ret ?_
              refine Q_block_ret ?_
              refine Q_then_ret ?_
              exact R_end (rs2 := [TWO w (n + 1)]) rfl rfl (.tmp rfl .nil) (⟨rfl, rfl⟩) ((Weak.pick (p := [_, _]) (Weak.pick (p := [_, _, _, _]) (Weak.pick (p := [_, _, _, _]) (Weak.pick (p := [_, _, _, _]) (Weak.pick (p := [_, _, _, _]) (Weak.pick (p := [_, _, _, _]) (Weak.pick (p := [_, _, _, _]) (Weak.pick (p := [_, _, _, _]) (Weak.pick (p := [_, _, _, _]) (Weak.pick (p := [_, _, _, _]) (Weak.pick (p := [_, _, _, _]) (Weak.nil _)))))))))))).trans ((Weak.pick (p := [_, _]) (Weak.pick (p := [_, _]) (Weak.pick (p := [_]) (Weak.keep (Weak.keep (Weak.keep (Weak.keep (Weak.keep (Weak.keep (Weak.keep (Weak.keep (Weak.nil _)))))))))))).trans ((Weak.keep (Weak.drop (Weak.refl _))).trans ((Weak.keep (Weak.keep (Weak.keep (Weak.keep (Weak.keep (Weak.pick (p := [_]) (Weak.pick (p := [_]) (Weak.pick (p := [_]) (Weak.pick (p := [_]) (Weak.keep (Weak.nil _))))))))))).trans (two_close (n := n + 1) (rs := []) ⟨⟨p0, q0, sg0, tg0, rc0, .slice sb0 sg0.length sc0, .slice tb0 tg0.length tc0⟩, ⟨p1, q1, sg1, tg1, rc1, .slice sb1 sg1.length sc1, .slice tb1 tg1.length tc1⟩, .slice zb ss.length zc, ss⟩ ⟨⟨hen0, Nat.le_succ_of_le hs0, Nat.le_succ_of_le hr0⟩, ⟨hen1, Nat.le_succ_of_le hs1, Nat.le_succ_of_le hr1⟩, Nat.le_succ_of_le hzl, hz16⟩)))))
            · skip
              refine R_seq ?_
              refine R_region ?_
              refine L_val rfl rfl rfl (OpP.v (P_eql rfl rfl rfl)) ?_
              refine L_val rfl rfl rfl (OpP.v (P_assign rfl rfl)) ?_
              refine L_nil ?_
              refine St.env (.cons (t := 0) rfl (.cons (t := 3) rfl (.cons (t := 4) rfl (.cons (t := 5) rfl (.cons (t := 89) rfl .nil))))) ?_
              refine Q_then ?_
              refine R_condP rfl (fun h6 => ?_) (fun h6 => ?_)
              · skip
                refine R_seq ?_
                refine St.res (rs' := [TWO w n, blk b3 (opC kd wh at_ a base xs.length c sl tw lg) 72]) (Weak.swap) ?_
                refine St.openP (p := []) (fun ⟨⟨p0, q0, sg0, tg0, rc0, vs0, vt0⟩, ⟨p1, q1, sg1, tg1, rc1, vs1, vt1⟩, z, ss⟩ hok => ?_)
                obtain ⟨⟨hen0, hs0, hr0⟩, ⟨hen1, hs1, hr1⟩, hzl, hz16⟩ := hok
                dsimp only at hen0 hen1 hs0 hs1 hr0 hr1 hzl hz16
                refine St.unbundle [] ?_
                refine St.res (rs' := [blk w [.pointer (some ⟨p0, 0, none⟩), .pointer (some ⟨p1, 0, none⟩), .pointer (some ⟨q0, 0, none⟩), .pointer (some ⟨q1, 0, none⟩), vs0, vs1, vt0, vt1, z] 79, REG p0 (sg0) (rc0), REF q0 (tg0) (rc0), ownS 27 1 (vs0) (sg0).length (ptrs (sg0)), ownS 114 1 (vt0) (tg0).length (ptrs (tg0)), REG p1 (sg1) (rc1), REF q1 (tg1) (rc1), ownS 27 1 (vs1) (sg1).length (ptrs (sg1)), ownS 114 1 (vt1) (tg1).length (ptrs (tg1)), ownS 33 16 (z) (ss).length (flat .u8 (ss)), blk b3 (opC kd wh at_ a base xs.length c sl tw lg) 72]) (Weak.refl _) ?_
                have htl0 : tg0.length = sg0.length := (enOf_len hen0).symm
                have htl1 : tg1.length = sg1.length := (enOf_len hen1).symm
                refine St.ownForm (p := [_, _, _]) fun sb0 sc0 hsb0_ hsc0 => ?_
                subst hsb0_
                refine St.ownForm (p := [_, _, _, _]) fun tb0 tc0 htb0_ htc0 => ?_
                subst htb0_
                refine St.ownForm (p := [_, _, _, _, _, _, _]) fun sb1 sc1 hsb1_ hsc1 => ?_
                subst hsb1_
                refine St.ownForm (p := [_, _, _, _, _, _, _, _]) fun tb1 tc1 htb1_ htc1 => ?_
                subst htb1_
                refine St.ownForm (p := [_, _, _, _, _, _, _, _, _]) fun zb zc hzb_ hzc => ?_
                subst hzb_
                refine St.res (rs' := [blk w [.pointer (some ⟨p0, 0, none⟩), .pointer (some ⟨p1, 0, none⟩), .pointer (some ⟨q0, 0, none⟩), .pointer (some ⟨q1, 0, none⟩), .slice sb0 sg0.length sc0, .slice sb1 sg1.length sc1, .slice tb0 tg0.length tc0, .slice tb1 tg1.length tc1, .slice zb ss.length zc] 79, REG p0 (sg0) (rc0), REF q0 (tg0) (rc0), ownS 27 1 (.slice sb0 sg0.length sc0) (sg0).length (ptrs (sg0)), ownS 114 1 (.slice tb0 tg0.length tc0) (tg0).length (ptrs (tg0)), REG p1 (sg1) (rc1), REF q1 (tg1) (rc1), ownS 27 1 (.slice sb1 sg1.length sc1) (sg1).length (ptrs (sg1)), ownS 114 1 (.slice tb1 tg1.length tc1) (tg1).length (ptrs (tg1)), ownS 33 16 (.slice zb ss.length zc) (ss).length (flat .u8 (ss)), blk b3 (opC kd wh at_ a base xs.length c sl tw lg) 72]) (Weak.refl _) ?_
                refine St.res (rs' := [blk w [.pointer (some ⟨p0, 0, none⟩), .pointer (some ⟨p1, 0, none⟩), .pointer (some ⟨q0, 0, none⟩), .pointer (some ⟨q1, 0, none⟩), .slice sb0 sg0.length sc0, .slice sb1 sg1.length sc1, .slice tb0 tg0.length tc0, .slice tb1 tg1.length tc1, .slice zb ss.length zc] 79, blk b3 (opC kd wh at_ a base xs.length c sl tw lg) 72, REG p0 (sg0) (rc0), REF q0 (tg0) (rc0), ownS 27 1 (.slice sb0 sg0.length sc0) (sg0).length (ptrs (sg0)), ownS 114 1 (.slice tb0 tg0.length tc0) (tg0).length (ptrs (tg0)), ownS 33 16 (.slice zb ss.length zc) (ss).length (flat .u8 (ss)), REG p1 (sg1) (rc1), REF q1 (tg1) (rc1), ownS 27 1 (.slice sb1 sg1.length sc1) (sg1).length (ptrs (sg1)), ownS 114 1 (.slice tb1 tg1.length tc1) (tg1).length (ptrs (tg1))]) (Weak.keep (Weak.pick (p := [_, _, _, _, _, _, _, _, _]) (Weak.keep (Weak.keep (Weak.keep (Weak.keep (Weak.pick (p := [_, _, _, _]) (Weak.keep (Weak.keep (Weak.keep (Weak.keep (Weak.nil _)))))))))))) ?_
                refine R_region ?_
                refine L_val rfl rfl rfl (OpP.v (P_move rfl rfl)) ?_
                refine L_val rfl rfl rfl (OpP.v (P_move rfl rfl)) ?_
                refine L_val rfl rfl rfl (OpP.v (P_nil rfl rfl)) ?_
                refine L_val rfl rfl rfl (OpP.v (P_fld0 rfl ty_fl_79_2 rfl)) ?_
                first | (refine L_val rfl rfl rfl (OpP.v (P_ixa0 (0) rfl ty_ar_55 rfl rfl (by first | rfl | omega) (by omega))) ?_) | (refine L_val rfl rfl rfl (OpP.v (P_ixa (0) rfl ty_ar_55 rfl rfl (by first | rfl | omega) (by omega))) ?_)
                refine L_val rfl rfl rfl (V_load rfl rfl ty_sc_54 (Rd.blk .h0 rfl)) ?_
                refine L_val rfl rfl rfl (OpP.v (P_len rfl ty_sl_54 rfl)) ?_
                refine L_val rfl rfl rfl (OpP.v (P_gtr rfl rfl rfl)) ?_
                refine L_nil ?_
                refine St.env (.cons (t := 0) rfl (.cons (t := 3) rfl (.cons (t := 4) rfl (.cons (t := 5) rfl (.cons (t := 98) rfl .nil))))) ?_
                refine Q_then ?_
                refine R_condP rfl (fun hlen => ?_) (fun hlen => ?_)
                · skip
                  have hlen2 : 0 < sg0.length := by omega
                  refine St.ownSome (p := [_, _, _, _]) (by omega) fun sbb sbc hq _ => ?_
                  simp only [Value.slice.injEq] at hq
                  obtain ⟨rfl, _, rfl⟩ := hq
                  refine St.ownSome (p := [_, _, _, _, _]) (by omega) fun tbb tbc hq _ => ?_
                  simp only [Value.slice.injEq] at hq
                  obtain ⟨rfl, _, rfl⟩ := hq
                  refine St.res (rs' := [blk w [.pointer (some ⟨p0, 0, none⟩), .pointer (some ⟨p1, 0, none⟩), .pointer (some ⟨q0, 0, none⟩), .pointer (some ⟨q1, 0, none⟩), .slice (some ⟨sbb, 0, none⟩) sg0.length sc0, .slice sb1 sg1.length sc1, .slice (some ⟨tbb, 0, none⟩) tg0.length tc0, .slice tb1 tg1.length tc1, .slice zb ss.length zc] 79, blk b3 (opC kd wh at_ a base xs.length c sl tw lg) 72, REG p0 (sg0) (rc0), REF q0 (tg0) (rc0), ownS 27 1 (.slice (some ⟨sbb, 0, none⟩) sg0.length sc0) (sg0).length (ptrs (sg0)), ownS 114 1 (.slice (some ⟨tbb, 0, none⟩) tg0.length tc0) (tg0).length (ptrs (tg0)), ownS 33 16 (.slice zb ss.length zc) (ss).length (flat .u8 (ss)), REG p1 (sg1) (rc1), REF q1 (tg1) (rc1), ownS 27 1 (.slice sb1 sg1.length sc1) (sg1).length (ptrs (sg1)), ownS 114 1 (.slice tb1 tg1.length tc1) (tg1).length (ptrs (tg1))]) (Weak.refl _) ?_
                  obtain ⟨ii, hii⟩ : ∃ ii : Nat, aroundI at_ (sg0.length : Int) = ii := ⟨(aroundI at_ sg0.length).toNat, by have hbd := aroundI_bound (x := at_) (n := (sg0.length : Int)) (by omega); omega⟩
                  have hil : ii < sg0.length := by have hbd := aroundI_bound (x := at_) (n := (sg0.length : Int)) (by omega); omega
                  obtain ⟨⟨a1, s⟩, hs⟩ : ∃ y, sg0[ii]? = some y := ⟨_, List.getElem?_eq_getElem hil⟩
                  obtain ⟨t, ht⟩ := enOf_at hen0 hs
                  refine R_seq ?_
                  refine R_open [(0, 0), (1, 1), (2, 0), (3, 0), (4, 0), (5, 0), (6, 0), (7, 1), (8, 0), (9, 2), (10, 0)] mixed (by kernel_rfl) (QOk.then (QOk.block (QOk.then QOk.body))) ?_
                  refine O_pure rfl rfl rfl rfl (P_fld0 rfl ty_fl_72_2 rfl) ?_
                  refine O_val rfl rfl rfl rfl (V_load rfl rfl ty_sc_3 (Rd.blk .h1 rfl)) ?_
                  refine O_pure rfl rfl rfl rfl (P_move rfl rfl) ?_
                  refine O_pure rfl rfl rfl rfl (P_move rfl rfl) ?_
                  refine O_pure rfl rfl rfl rfl (P_nil rfl rfl) ?_
                  refine O_pure rfl rfl rfl rfl (P_fld0 rfl ty_fl_79_2 rfl) ?_
                  first | (refine O_pure rfl rfl rfl rfl (P_ixa0 (0) rfl ty_ar_55 rfl rfl (by first | rfl | omega) (by omega)) ?_) | (refine O_pure rfl rfl rfl rfl (P_ixa (0) rfl ty_ar_55 rfl rfl (by first | rfl | omega) (by omega)) ?_)
                  refine O_val rfl rfl rfl rfl (V_load rfl rfl ty_sc_54 (Rd.blk .h0 rfl)) ?_
                  refine O_pure rfl rfl rfl rfl (P_len rfl ty_sl_54 rfl) ?_
                  refine O_keep rfl rfl (W_callV rfl rfl rfl rfl fn_ca_26 (around_ok at_ (sg0.length : Int) (by omega) (by omega)) (fun _ _ => trivial) (K_keep (Weak.refl _) ?_))
                  refine E_as (t := 108) (v' := .int .i64 (ii : Int)) rfl (by rw [hii]) ?_
                  refine O_pure rfl rfl rfl rfl (P_assign rfl rfl) ?_
                  refine O_nil ?_
                  refine St.env (.cons (t := 0) rfl (.cons (t := 4) rfl (.cons (t := 5) rfl (.cons (t := 6) rfl .nil)))) ?_
                  refine Q_then ?_
                  refine R_seq ?_
                  refine R_open [(0, 0), (1, 0), (2, 0), (3, 0), (4, 0), (5, 1), (6, 0), (7, 0), (8, 1), (10, 0), (11, 0), (12, 0), (13, 0), (14, 0), (15, 1), (16, 0), (17, 0), (18, 1), (9, 2), (19, 2), (20, 0), (21, 0)] mixed (by kernel_rfl) (QOk.then (QOk.block (QOk.then QOk.body))) ?_
                  refine O_pure rfl rfl rfl rfl (P_move rfl rfl) ?_
                  refine O_pure rfl rfl rfl rfl (P_move rfl rfl) ?_
                  refine O_pure rfl rfl rfl rfl (P_nil rfl rfl) ?_
                  refine O_pure rfl rfl rfl rfl (P_fld0 rfl ty_fl_79_2 rfl) ?_
                  first | (refine O_pure rfl rfl rfl rfl (P_ixa0 (0) rfl ty_ar_55 rfl rfl (by first | rfl | omega) (by omega)) ?_) | (refine O_pure rfl rfl rfl rfl (P_ixa (0) rfl ty_ar_55 rfl rfl (by first | rfl | omega) (by omega)) ?_)
                  refine O_val rfl rfl rfl rfl (V_load rfl rfl ty_sc_54 (Rd.blk .h0 rfl)) ?_
                  refine O_pure rfl rfl rfl rfl (P_move rfl rfl) ?_
                  refine O_pure rfl rfl rfl rfl (P_ixs (ii) rfl ty_sl_54 rfl rfl (by first | rfl | omega) (by omega)) ?_
                  refine O_val rfl rfl rfl rfl (V_load rfl rfl ty_sc_27 (rd_own1 .h4 (ptrs_at hs))) ?_
                  refine O_pure rfl rfl rfl rfl (P_move rfl rfl) ?_
                  refine O_pure rfl rfl rfl rfl (P_move rfl rfl) ?_
                  refine O_pure rfl rfl rfl rfl (P_nil rfl rfl) ?_
                  refine O_pure rfl rfl rfl rfl (P_fld0 rfl ty_fl_79_3 rfl) ?_
                  first | (refine O_pure rfl rfl rfl rfl (P_ixa0 (0) rfl ty_ar_76 rfl rfl (by first | rfl | omega) (by omega)) ?_) | (refine O_pure rfl rfl rfl rfl (P_ixa (0) rfl ty_ar_76 rfl rfl (by first | rfl | omega) (by omega)) ?_)
                  refine O_val rfl rfl rfl rfl (V_load rfl rfl ty_sc_75 (Rd.blk .h0 rfl)) ?_
                  refine O_pure rfl rfl rfl rfl (P_move rfl rfl) ?_
                  refine O_pure rfl rfl rfl rfl (P_ixs (ii) rfl ty_sl_75 rfl rfl (by first | rfl | omega) (by omega)) ?_
                  refine O_val rfl rfl rfl rfl (V_load rfl rfl ty_sc_114 (rd_own1 .h5 (ptrs_at ht))) ?_
                  refine O_keep rfl rfl (W_callR rfl rfl rfl rfl fn_ca_25 (addr_ok p0 sg0 rc0 ii a1 s hs) (Split.one (p := [_, _])) (fun _ _ _ _ _ _ _ => trivial) (K_keep (Weak.p1 (Weak.p1 (Weak.refl _))) ?_))
                  refine O_keep rfl rfl (W_callR rfl rfl rfl rfl fn_ca_53 (raddr_ok q0 tg0 rc0 ii a1 t ht) (Split.one (p := [_, _, _])) (fun _ _ _ _ _ _ _ => trivial) (K_keep (Weak.p1 (Weak.p1 (Weak.p1 (Weak.refl _)))) ?_))
                  refine O_pure rfl rfl rfl rfl (P_eql rfl rfl rfl) ?_
                  refine E_true (t := 129) rfl (decide_eq_true rfl) ?_
                  refine O_pure rfl rfl rfl rfl (P_assign rfl rfl) ?_
                  refine O_nil ?_
                  refine St.env (.cons (t := 4) rfl .nil) ?_
                  refine Q_then ?_
                  refine R_ret ?_
                  refine Q_block_ret ?_
                  refine Q_then_ret ?_
                  exact R_end (rs2 := [TWO w (n + 1)]) rfl rfl (.tmp rfl .nil) (⟨rfl, rfl⟩) ((Weak.pick (p := [_, _]) (Weak.pick (p := [_, _]) (Weak.pick (p := [_]) (Weak.keep (Weak.keep (Weak.keep (Weak.keep (Weak.keep (Weak.keep (Weak.keep (Weak.keep (Weak.nil _)))))))))))).trans ((Weak.keep (Weak.drop (Weak.refl _))).trans ((Weak.keep (Weak.keep (Weak.keep (Weak.keep (Weak.keep (Weak.pick (p := [_]) (Weak.pick (p := [_]) (Weak.pick (p := [_]) (Weak.pick (p := [_]) (Weak.keep (Weak.nil _))))))))))).trans (two_close (n := n + 1) (rs := []) ⟨⟨p0, q0, sg0, tg0, rc0, .slice (some ⟨sbb, 0, none⟩) sg0.length sc0, .slice (some ⟨tbb, 0, none⟩) tg0.length tc0⟩, ⟨p1, q1, sg1, tg1, rc1, .slice sb1 sg1.length sc1, .slice tb1 tg1.length tc1⟩, .slice zb ss.length zc, ss⟩ ⟨⟨hen0, Nat.le_succ_of_le hs0, Nat.le_succ_of_le hr0⟩, ⟨hen1, Nat.le_succ_of_le hs1, Nat.le_succ_of_le hr1⟩, Nat.le_succ_of_le hzl, hz16⟩))))
                · skip
                  refine R_skip ?_
                  refine Q_block ?_
                  refine Q_then ?_
                  refine R_seq ?_
                  refine R_region ?_
                  refine L_val rfl rfl rfl (OpP.v (P_assign rfl rfl)) ?_
                  refine L_nil ?_
                  refine St.env (.cons (t := 4) rfl .nil) ?_
                  refine Q_then ?_
                  refine R_ret ?_
                  exact R_end (rs2 := [TWO w (n + 1)]) rfl rfl (.tmp rfl .nil) (⟨rfl, rfl⟩) (by first | exact (Weak.drop two_mono) | exact ((Weak.keep (Weak.keep (Weak.keep (Weak.keep (Weak.keep (Weak.keep (Weak.keep (Weak.keep (Weak.keep (Weak.keep (Weak.keep (Weak.nil _)))))))))))).trans ((Weak.keep (Weak.drop (Weak.refl _))).trans ((Weak.keep (Weak.keep (Weak.keep (Weak.keep (Weak.keep (Weak.pick (p := [_]) (Weak.pick (p := [_]) (Weak.pick (p := [_]) (Weak.pick (p := [_]) (Weak.keep (Weak.nil _))))))))))).trans (two_close (n := n + 1) (rs := []) ⟨⟨p0, q0, sg0, tg0, rc0, .slice sb0 sg0.length sc0, .slice tb0 tg0.length tc0⟩, ⟨p1, q1, sg1, tg1, rc1, .slice sb1 sg1.length sc1, .slice tb1 tg1.length tc1⟩, .slice zb ss.length zc, ss⟩ ⟨⟨hen0, Nat.le_succ_of_le hs0, Nat.le_succ_of_le hr0⟩, ⟨hen1, Nat.le_succ_of_le hs1, Nat.le_succ_of_le hr1⟩, Nat.le_succ_of_le hzl, hz16⟩)))))
              · skip
                refine R_skip ?_
                refine Q_block ?_
                refine Q_then ?_
                refine R_seq ?_
                refine R_region ?_
                refine L_val rfl rfl rfl (OpP.v (P_assign rfl rfl)) ?_
                refine L_nil ?_
                refine St.env (.cons (t := 4) rfl .nil) ?_
                refine Q_then ?_
                refine R_ret ?_
                exact R_end (rs2 := [TWO w (n + 1)]) rfl rfl (.tmp rfl .nil) (⟨rfl, rfl⟩) (by first | exact (Weak.drop two_mono) | exact ((Weak.keep (Weak.keep (Weak.keep (Weak.keep (Weak.keep (Weak.keep (Weak.keep (Weak.keep (Weak.keep (Weak.keep (Weak.keep (Weak.nil _)))))))))))).trans ((Weak.keep (Weak.drop (Weak.refl _))).trans ((Weak.keep (Weak.keep (Weak.keep (Weak.keep (Weak.keep (Weak.pick (p := [_]) (Weak.pick (p := [_]) (Weak.pick (p := [_]) (Weak.pick (p := [_]) (Weak.keep (Weak.nil _))))))))))).trans (two_close (n := n + 1) (rs := []) ⟨⟨p0, q0, sg0, tg0, rc0, .slice sb0 sg0.length sc0, .slice tb0 tg0.length tc0⟩, ⟨p1, q1, sg1, tg1, rc1, .slice sb1 sg1.length sc1, .slice tb1 tg1.length tc1⟩, .slice zb ss.length zc, ss⟩ ⟨⟨hen0, Nat.le_succ_of_le hs0, Nat.le_succ_of_le hr0⟩, ⟨hen1, Nat.le_succ_of_le hs1, Nat.le_succ_of_le hr1⟩, Nat.le_succ_of_le hzl, hz16⟩)))))
theorem step1 {gl : Nat → Obj} (hG : GlobsR gl) (w n : Nat) (hn : n ≤ 1599289640354) (kd wh at_ a : Int) (base : Option Addr) (c : Nat) (xs sl : List Int) (tw : Int) (lg : Bool) (hsl : sl.length = 16) (hxm : xs.length ≤ 140737488351232) (hxb : IsB xs) (hk : bitI .and .i64 wh 1 = 1) : SpecR (cx gl) 31 [.pointer (some ⟨w, 0, none⟩), .agg (opC kd wh at_ a base xs.length c sl tw lg).toArray] (fun w h => Seen w h base (ints .u8 xs)) [TWO w n] (.bool true) [TWO w (n + 1)] := by
  refine Spec.enter (C := cx gl) Tryd.func31 rfl 130 rfl rfl fun w0 h0 hsep hsub hpre => ?_
  show St (cx gl) _ [(0, .pointer (some ⟨w, 0, none⟩)), (1, .agg (opC kd wh at_ a base xs.length c sl tw lg).toArray)] _ _
  refine R_seq ?_
  refine R_region ?_
  refine L_op rfl (W_box (opC kd wh at_ a base xs.length c sl tw lg) rfl rfl rfl rfl rfl fun b3 => ?_)
  refine L_val rfl rfl rfl (OpP.v (P_assign rfl rfl)) ?_
  refine L_nil ?_
  refine St.env (.cons (t := 0) rfl (.cons (t := 3) rfl (.cons (t := 4) rfl .nil))) ?_
  refine Q_then ?_
  refine R_seq ?_
  refine R_region ?_
  refine L_val rfl rfl rfl (OpP.v (P_fld0 rfl ty_fl_72_1 rfl)) ?_
  refine L_val rfl rfl rfl (V_load rfl rfl ty_sc_3 (Rd.blk .h0 rfl)) ?_
  refine L_val rfl rfl rfl (OpP.v (P_bit (op := .and) rfl rfl rfl rfl)) ?_
  refine E_as (t := 9) (v' := .int .i64 1) rfl (by rw [hk]) ?_
  refine L_val rfl rfl rfl (OpP.v (P_assign rfl rfl)) ?_
  refine L_nil ?_
  refine St.env (.cons (t := 0) rfl (.cons (t := 3) rfl (.cons (t := 4) rfl (.cons (t := 5) rfl .nil)))) ?_
  refine Q_then ?_
  refine R_seq ?_
  refine R_seq ?_
  refine R_region ?_
  refine L_val rfl rfl rfl (OpP.v (P_fld0 rfl ty_fl_72_0 rfl)) ?_
  refine L_val rfl rfl rfl (V_load rfl rfl ty_sc_3 (Rd.blk .h0 rfl)) ?_
  refine L_nil ?_
  refine St.env (.cons (t := 0) rfl (.cons (t := 3) rfl (.cons (t := 4) rfl (.cons (t := 5) rfl (.cons (t := 11) rfl .nil))))) ?_
  refine Q_then ?_
  refine R_block ?_
  refine R_seq ?_
  refine R_region ?_
  refine L_val rfl rfl rfl (OpP.v (P_eql rfl rfl rfl)) ?_
  refine L_val rfl rfl rfl (OpP.v (P_assign rfl rfl)) ?_
  refine L_nil ?_
  refine St.env (.cons (t := 0) rfl (.cons (t := 3) rfl (.cons (t := 4) rfl (.cons (t := 5) rfl (.cons (t := 11) rfl (.cons (t := 12) rfl .nil)))))) ?_
  refine Q_then ?_
  refine R_condP rfl (fun h0 => ?_) (fun h0 => ?_)
  · skip
    refine R_seq ?_
    refine R_region ?_
    refine L_val rfl rfl rfl (OpP.v (P_move rfl rfl)) ?_
    refine L_val rfl rfl rfl (OpP.v (P_move rfl rfl)) ?_
    refine L_val rfl rfl rfl (V_loadAgg rfl rfl ty_ag_72 (Rds.blk .h0) (opC_length hsl)) ?_
    refine L_op rfl (W_callR rfl rfl rfl rfl fn_ca_48 (enters_ok1 w n hn kd wh at_ a base c xs sl tw lg) (Split.one (p := [_])) (fun _ _ _ _ _ _ _ => trivial) ?_)
    refine St.res (rs' := [TWO w (n + 1), blk b3 (opC kd wh at_ a base xs.length c sl tw lg) 72]) (Weak.refl _) ?_
    refine L_val rfl rfl rfl (OpP.v (P_assign rfl rfl)) ?_
    refine L_nil ?_
    refine St.env (.cons (t := 4) rfl .nil) ?_
    refine Q_then ?_
    refine R_ret ?_
    refine Q_block_ret ?_
    refine Q_then_ret ?_
    exact R_end (rs2 := [TWO w (n + 1)]) rfl rfl (.tmp rfl .nil) (⟨rfl, rfl⟩) (Weak.keep (Weak.nil _))
  · skip
    refine R_seq ?_
    refine R_region ?_
    refine L_val rfl rfl rfl (OpP.v (P_eql rfl rfl rfl)) ?_
    refine L_val rfl rfl rfl (OpP.v (P_assign rfl rfl)) ?_
    refine L_nil ?_
    refine St.env (.cons (t := 0) rfl (.cons (t := 3) rfl (.cons (t := 4) rfl (.cons (t := 5) rfl (.cons (t := 11) rfl (.cons (t := 18) rfl .nil)))))) ?_
    refine Q_then ?_
    refine R_condP rfl (fun h1 => ?_) (fun h1 => ?_)
    · skip
      refine R_seq ?_
      refine R_region ?_
      refine L_val rfl rfl rfl (OpP.v (P_move rfl rfl)) ?_
      refine L_val rfl rfl rfl (OpP.v (P_move rfl rfl)) ?_
      refine L_val rfl rfl rfl (V_loadAgg rfl rfl ty_ag_72 (Rds.blk .h0) (opC_length hsl)) ?_
      refine L_op rfl (W_callR rfl rfl rfl rfl fn_ca_49 (signs_ok1 hG w n hn kd wh at_ a base c xs sl tw lg hsl hxm hxb) (Split.one (p := [_])) (Sn.pre (Sn.old hpre)) ?_)
      refine St.res (rs' := [TWO w (n + 1), blk b3 (opC kd wh at_ a base xs.length c sl tw lg) 72]) (Weak.refl _) ?_
      refine L_val rfl rfl rfl (OpP.v (P_assign rfl rfl)) ?_
      refine L_nil ?_
      refine St.env (.cons (t := 4) rfl .nil) ?_
      refine Q_then ?_
      refine R_ret ?_
      refine Q_block_ret ?_
      refine Q_then_ret ?_
      exact R_end (rs2 := [TWO w (n + 1)]) rfl rfl (.tmp rfl .nil) (⟨rfl, rfl⟩) (Weak.keep (Weak.nil _))
    · skip
      refine R_seq ?_
      refine R_region ?_
      refine L_val rfl rfl rfl (OpP.v (P_eql rfl rfl rfl)) ?_
      refine L_val rfl rfl rfl (OpP.v (P_assign rfl rfl)) ?_
      refine L_nil ?_
      refine St.env (.cons (t := 0) rfl (.cons (t := 3) rfl (.cons (t := 4) rfl (.cons (t := 5) rfl (.cons (t := 11) rfl (.cons (t := 24) rfl .nil)))))) ?_
      refine Q_then ?_
      refine R_condP rfl (fun h2 => ?_) (fun h2 => ?_)
      · skip
        refine R_seq ?_
        refine R_region ?_
        refine L_val rfl rfl rfl (OpP.v (P_move rfl rfl)) ?_
        refine L_val rfl rfl rfl (OpP.v (P_move rfl rfl)) ?_
        refine L_val rfl rfl rfl (V_loadAgg rfl rfl ty_ag_72 (Rds.blk .h0) (opC_length hsl)) ?_
        refine L_op rfl (W_callR rfl rfl rfl rfl fn_ca_50 (checks_ok1 hG w n hn kd wh at_ a base c xs sl tw lg hsl hxm hxb) (Split.one (p := [_])) (Sn.pre (Sn.old hpre)) ?_)
        refine St.res (rs' := [TWO w (n + 1), blk b3 (opC kd wh at_ a base xs.length c sl tw lg) 72]) (Weak.refl _) ?_
        refine L_val rfl rfl rfl (OpP.v (P_assign rfl rfl)) ?_
        refine L_nil ?_
        refine St.env (.cons (t := 4) rfl .nil) ?_
        refine Q_then ?_
        refine R_ret ?_
        refine Q_block_ret ?_
        refine Q_then_ret ?_
        exact R_end (rs2 := [TWO w (n + 1)]) rfl rfl (.tmp rfl .nil) (⟨rfl, rfl⟩) (Weak.keep (Weak.nil _))
      · skip
        refine R_seq ?_
        refine R_region ?_
        refine L_val rfl rfl rfl (OpP.v (P_eql rfl rfl rfl)) ?_
        refine L_val rfl rfl rfl (OpP.v (P_assign rfl rfl)) ?_
        refine L_nil ?_
        refine St.env (.cons (t := 0) rfl (.cons (t := 3) rfl (.cons (t := 4) rfl (.cons (t := 5) rfl (.cons (t := 11) rfl (.cons (t := 30) rfl .nil)))))) ?_
        refine Q_then ?_
        refine R_condP rfl (fun h3 => ?_) (fun h3 => ?_)
        · skip
          refine R_seq ?_
          refine St.res (rs' := [TWO w n, blk b3 (opC kd wh at_ a base xs.length c sl tw lg) 72]) (Weak.swap) ?_
          refine St.openP (p := []) (fun ⟨⟨p0, q0, sg0, tg0, rc0, vs0, vt0⟩, ⟨p1, q1, sg1, tg1, rc1, vs1, vt1⟩, z, ss⟩ hok => ?_)
          obtain ⟨⟨hen0, hs0, hr0⟩, ⟨hen1, hs1, hr1⟩, hzl, hz16⟩ := hok
          dsimp only at hen0 hen1 hs0 hs1 hr0 hr1 hzl hz16
          refine St.unbundle [] ?_
          refine St.res (rs' := [blk w [.pointer (some ⟨p0, 0, none⟩), .pointer (some ⟨p1, 0, none⟩), .pointer (some ⟨q0, 0, none⟩), .pointer (some ⟨q1, 0, none⟩), vs0, vs1, vt0, vt1, z] 79, REG p0 (sg0) (rc0), REF q0 (tg0) (rc0), ownS 27 1 (vs0) (sg0).length (ptrs (sg0)), ownS 114 1 (vt0) (tg0).length (ptrs (tg0)), REG p1 (sg1) (rc1), REF q1 (tg1) (rc1), ownS 27 1 (vs1) (sg1).length (ptrs (sg1)), ownS 114 1 (vt1) (tg1).length (ptrs (tg1)), ownS 33 16 (z) (ss).length (flat .u8 (ss)), blk b3 (opC kd wh at_ a base xs.length c sl tw lg) 72]) (Weak.refl _) ?_
          have htl0 : tg0.length = sg0.length := (enOf_len hen0).symm
          have htl1 : tg1.length = sg1.length := (enOf_len hen1).symm
          refine St.ownForm (p := [_, _, _]) fun sb0 sc0 hsb0_ hsc0 => ?_
          subst hsb0_
          refine St.ownForm (p := [_, _, _, _]) fun tb0 tc0 htb0_ htc0 => ?_
          subst htb0_
          refine St.ownForm (p := [_, _, _, _, _, _, _]) fun sb1 sc1 hsb1_ hsc1 => ?_
          subst hsb1_
          refine St.ownForm (p := [_, _, _, _, _, _, _, _]) fun tb1 tc1 htb1_ htc1 => ?_
          subst htb1_
          refine St.ownForm (p := [_, _, _, _, _, _, _, _, _]) fun zb zc hzb_ hzc => ?_
          subst hzb_
          refine St.res (rs' := [blk w [.pointer (some ⟨p0, 0, none⟩), .pointer (some ⟨p1, 0, none⟩), .pointer (some ⟨q0, 0, none⟩), .pointer (some ⟨q1, 0, none⟩), .slice sb0 sg0.length sc0, .slice sb1 sg1.length sc1, .slice tb0 tg0.length tc0, .slice tb1 tg1.length tc1, .slice zb ss.length zc] 79, REG p0 (sg0) (rc0), REF q0 (tg0) (rc0), ownS 27 1 (.slice sb0 sg0.length sc0) (sg0).length (ptrs (sg0)), ownS 114 1 (.slice tb0 tg0.length tc0) (tg0).length (ptrs (tg0)), REG p1 (sg1) (rc1), REF q1 (tg1) (rc1), ownS 27 1 (.slice sb1 sg1.length sc1) (sg1).length (ptrs (sg1)), ownS 114 1 (.slice tb1 tg1.length tc1) (tg1).length (ptrs (tg1)), ownS 33 16 (.slice zb ss.length zc) (ss).length (flat .u8 (ss)), blk b3 (opC kd wh at_ a base xs.length c sl tw lg) 72]) (Weak.refl _) ?_
          refine St.res (rs' := [blk w [.pointer (some ⟨p0, 0, none⟩), .pointer (some ⟨p1, 0, none⟩), .pointer (some ⟨q0, 0, none⟩), .pointer (some ⟨q1, 0, none⟩), .slice sb0 sg0.length sc0, .slice sb1 sg1.length sc1, .slice tb0 tg0.length tc0, .slice tb1 tg1.length tc1, .slice zb ss.length zc] 79, blk b3 (opC kd wh at_ a base xs.length c sl tw lg) 72, REG p1 (sg1) (rc1), REF q1 (tg1) (rc1), ownS 27 1 (.slice sb1 sg1.length sc1) (sg1).length (ptrs (sg1)), ownS 114 1 (.slice tb1 tg1.length tc1) (tg1).length (ptrs (tg1)), ownS 33 16 (.slice zb ss.length zc) (ss).length (flat .u8 (ss)), REG p0 (sg0) (rc0), REF q0 (tg0) (rc0), ownS 27 1 (.slice sb0 sg0.length sc0) (sg0).length (ptrs (sg0)), ownS 114 1 (.slice tb0 tg0.length tc0) (tg0).length (ptrs (tg0))]) (Weak.keep (Weak.pick (p := [_, _, _, _, _, _, _, _, _]) (Weak.pick (p := [_, _, _, _]) (Weak.pick (p := [_, _, _, _]) (Weak.pick (p := [_, _, _, _]) (Weak.pick (p := [_, _, _, _]) (Weak.pick (p := [_, _, _, _]) (Weak.keep (Weak.keep (Weak.keep (Weak.keep (Weak.nil _)))))))))))) ?_
          refine R_open [(0, 0), (1, 0), (2, 0), (3, 0), (4, 0), (5, 1), (6, 0), (7, 1), (9, 0), (10, 0), (11, 0), (12, 0), (13, 0), (14, 1), (15, 0), (16, 1), (8, 2), (17, 2), (18, 0), (19, 0)] mixed (by kernel_rfl) (QOk.then (QOk.block (QOk.then QOk.body))) ?_
          refine O_pure rfl rfl rfl rfl (P_move rfl rfl) ?_
          refine O_pure rfl rfl rfl rfl (P_move rfl rfl) ?_
          refine O_pure rfl rfl rfl rfl (P_nil rfl rfl) ?_
          refine O_pure rfl rfl rfl rfl (P_fld0 rfl ty_fl_79_0 rfl) ?_
          first | (refine O_pure rfl rfl rfl rfl (P_ixa0 (1) rfl ty_ar_53 rfl rfl (by first | rfl | omega) (by omega)) ?_) | (refine O_pure rfl rfl rfl rfl (P_ixa (1) rfl ty_ar_53 rfl rfl (by first | rfl | omega) (by omega)) ?_)
          refine O_val rfl rfl rfl rfl (V_load rfl rfl ty_sc_25 (Rd.blk .h0 rfl)) ?_
          refine O_pure rfl rfl rfl rfl (P_fld0 rfl ty_fl_72_3 rfl) ?_
          refine O_val rfl rfl rfl rfl (V_load rfl rfl ty_sc_23 (Rd.blk .h1 rfl)) ?_
          refine O_pure rfl rfl rfl rfl (P_move rfl rfl) ?_
          refine O_pure rfl rfl rfl rfl (P_move rfl rfl) ?_
          refine O_pure rfl rfl rfl rfl (P_nil rfl rfl) ?_
          refine O_pure rfl rfl rfl rfl (P_fld0 rfl ty_fl_79_1 rfl) ?_
          first | (refine O_pure rfl rfl rfl rfl (P_ixa0 (1) rfl ty_ar_74 rfl rfl (by first | rfl | omega) (by omega)) ?_) | (refine O_pure rfl rfl rfl rfl (P_ixa (1) rfl ty_ar_74 rfl rfl (by first | rfl | omega) (by omega)) ?_)
          refine O_val rfl rfl rfl rfl (V_load rfl rfl ty_sc_73 (Rd.blk .h0 rfl)) ?_
          refine O_pure rfl rfl rfl rfl (P_fld0 rfl ty_fl_72_3 rfl) ?_
          refine O_val rfl rfl rfl rfl (V_load rfl rfl ty_sc_23 (Rd.blk .h1 rfl)) ?_
          refine O_keep rfl rfl (W_callR rfl rfl rfl rfl fn_ca_24 (known_ok p1 sg1 rc1 a) (Split.one (p := [_, _])) (fun _ _ _ _ _ _ _ => trivial) (K_keep (Weak.p1 (Weak.p1 (Weak.refl _))) ?_))
          refine O_keep rfl rfl (W_callR rfl rfl rfl rfl fn_ca_51 (rknown_ok q1 tg1 rc1 a (by omega)) (Split.one (p := [_, _, _])) (fun _ _ _ _ _ _ _ => trivial) (K_keep (Weak.p1 (Weak.p1 (Weak.p1 (Weak.refl _)))) ?_))
          refine O_pure rfl rfl rfl rfl (P_eql_bool rfl ty_bool_4 rfl rfl) ?_
          refine E_true (t := 50) rfl (isIn_eq hen1 a) ?_
          refine O_pure rfl rfl rfl rfl (P_assign rfl rfl) ?_
          refine O_nil ?_
          refine St.env (.cons (t := 4) rfl .nil) ?_
          refine Q_then ?_
          refine R_ret ?_
          refine Q_block_ret ?_
          refine Q_then_ret ?_
          exact R_end (rs2 := [TWO w (n + 1)]) rfl rfl (.tmp rfl .nil) (⟨rfl, rfl⟩) ((Weak.pick (p := [_, _]) (Weak.pick (p := [_, _]) (Weak.pick (p := [_]) (Weak.keep (Weak.keep (Weak.keep (Weak.keep (Weak.keep (Weak.keep (Weak.keep (Weak.keep (Weak.nil _)))))))))))).trans ((Weak.keep (Weak.drop (Weak.refl _))).trans ((Weak.keep (Weak.pick (p := [_, _, _, _, _]) (Weak.pick (p := [_, _, _, _, _]) (Weak.pick (p := [_, _, _, _, _]) (Weak.pick (p := [_, _, _, _, _]) (Weak.keep (Weak.keep (Weak.keep (Weak.keep (Weak.keep (Weak.nil _))))))))))).trans (two_close (n := n + 1) (rs := []) ⟨⟨p0, q0, sg0, tg0, rc0, .slice sb0 sg0.length sc0, .slice tb0 tg0.length tc0⟩, ⟨p1, q1, sg1, tg1, rc1, .slice sb1 sg1.length sc1, .slice tb1 tg1.length tc1⟩, .slice zb ss.length zc, ss⟩ ⟨⟨hen0, Nat.le_succ_of_le hs0, Nat.le_succ_of_le hr0⟩, ⟨hen1, Nat.le_succ_of_le hs1, Nat.le_succ_of_le hr1⟩, Nat.le_succ_of_le hzl, hz16⟩))))
        · skip
          refine R_seq ?_
          refine R_region ?_
          refine L_val rfl rfl rfl (OpP.v (P_eql rfl rfl rfl)) ?_
          refine L_val rfl rfl rfl (OpP.v (P_assign rfl rfl)) ?_
          refine L_nil ?_
          refine St.env (.cons (t := 0) rfl (.cons (t := 3) rfl (.cons (t := 4) rfl (.cons (t := 5) rfl (.cons (t := 11) rfl (.cons (t := 51) rfl .nil)))))) ?_
          refine Q_then ?_
          refine R_condP rfl (fun h4 => ?_) (fun h4 => ?_)
          · skip
            refine R_seq ?_
            refine St.res (rs' := [TWO w n, blk b3 (opC kd wh at_ a base xs.length c sl tw lg) 72]) (Weak.swap) ?_
            refine St.openP (p := []) (fun ⟨⟨p0, q0, sg0, tg0, rc0, vs0, vt0⟩, ⟨p1, q1, sg1, tg1, rc1, vs1, vt1⟩, z, ss⟩ hok => ?_)
            obtain ⟨⟨hen0, hs0, hr0⟩, ⟨hen1, hs1, hr1⟩, hzl, hz16⟩ := hok
            dsimp only at hen0 hen1 hs0 hs1 hr0 hr1 hzl hz16
            refine St.unbundle [] ?_
            refine St.res (rs' := [blk w [.pointer (some ⟨p0, 0, none⟩), .pointer (some ⟨p1, 0, none⟩), .pointer (some ⟨q0, 0, none⟩), .pointer (some ⟨q1, 0, none⟩), vs0, vs1, vt0, vt1, z] 79, REG p0 (sg0) (rc0), REF q0 (tg0) (rc0), ownS 27 1 (vs0) (sg0).length (ptrs (sg0)), ownS 114 1 (vt0) (tg0).length (ptrs (tg0)), REG p1 (sg1) (rc1), REF q1 (tg1) (rc1), ownS 27 1 (vs1) (sg1).length (ptrs (sg1)), ownS 114 1 (vt1) (tg1).length (ptrs (tg1)), ownS 33 16 (z) (ss).length (flat .u8 (ss)), blk b3 (opC kd wh at_ a base xs.length c sl tw lg) 72]) (Weak.refl _) ?_
            have htl0 : tg0.length = sg0.length := (enOf_len hen0).symm
            have htl1 : tg1.length = sg1.length := (enOf_len hen1).symm
            refine St.ownForm (p := [_, _, _]) fun sb0 sc0 hsb0_ hsc0 => ?_
            subst hsb0_
            refine St.ownForm (p := [_, _, _, _]) fun tb0 tc0 htb0_ htc0 => ?_
            subst htb0_
            refine St.ownForm (p := [_, _, _, _, _, _, _]) fun sb1 sc1 hsb1_ hsc1 => ?_
            subst hsb1_
            refine St.ownForm (p := [_, _, _, _, _, _, _, _]) fun tb1 tc1 htb1_ htc1 => ?_
            subst htb1_
            refine St.ownForm (p := [_, _, _, _, _, _, _, _, _]) fun zb zc hzb_ hzc => ?_
            subst hzb_
            refine St.res (rs' := [blk w [.pointer (some ⟨p0, 0, none⟩), .pointer (some ⟨p1, 0, none⟩), .pointer (some ⟨q0, 0, none⟩), .pointer (some ⟨q1, 0, none⟩), .slice sb0 sg0.length sc0, .slice sb1 sg1.length sc1, .slice tb0 tg0.length tc0, .slice tb1 tg1.length tc1, .slice zb ss.length zc] 79, REG p0 (sg0) (rc0), REF q0 (tg0) (rc0), ownS 27 1 (.slice sb0 sg0.length sc0) (sg0).length (ptrs (sg0)), ownS 114 1 (.slice tb0 tg0.length tc0) (tg0).length (ptrs (tg0)), REG p1 (sg1) (rc1), REF q1 (tg1) (rc1), ownS 27 1 (.slice sb1 sg1.length sc1) (sg1).length (ptrs (sg1)), ownS 114 1 (.slice tb1 tg1.length tc1) (tg1).length (ptrs (tg1)), ownS 33 16 (.slice zb ss.length zc) (ss).length (flat .u8 (ss)), blk b3 (opC kd wh at_ a base xs.length c sl tw lg) 72]) (Weak.refl _) ?_
            refine St.res (rs' := [blk w [.pointer (some ⟨p0, 0, none⟩), .pointer (some ⟨p1, 0, none⟩), .pointer (some ⟨q0, 0, none⟩), .pointer (some ⟨q1, 0, none⟩), .slice sb0 sg0.length sc0, .slice sb1 sg1.length sc1, .slice tb0 tg0.length tc0, .slice tb1 tg1.length tc1, .slice zb ss.length zc] 79, blk b3 (opC kd wh at_ a base xs.length c sl tw lg) 72, REG p1 (sg1) (rc1), REF q1 (tg1) (rc1), ownS 27 1 (.slice sb1 sg1.length sc1) (sg1).length (ptrs (sg1)), ownS 114 1 (.slice tb1 tg1.length tc1) (tg1).length (ptrs (tg1)), ownS 33 16 (.slice zb ss.length zc) (ss).length (flat .u8 (ss)), REG p0 (sg0) (rc0), REF q0 (tg0) (rc0), ownS 27 1 (.slice sb0 sg0.length sc0) (sg0).length (ptrs (sg0)), ownS 114 1 (.slice tb0 tg0.length tc0) (tg0).length (ptrs (tg0))]) (Weak.keep (Weak.pick (p := [_, _, _, _, _, _, _, _, _]) (Weak.pick (p := [_, _, _, _]) (Weak.pick (p := [_, _, _, _]) (Weak.pick (p := [_, _, _, _]) (Weak.pick (p := [_, _, _, _]) (Weak.pick (p := [_, _, _, _]) (Weak.keep (Weak.keep (Weak.keep (Weak.keep (Weak.nil _)))))))))))) ?_
            refine R_open [(0, 0), (1, 0), (2, 0), (3, 0), (4, 0), (5, 1), (7, 0), (8, 0), (9, 0), (10, 0), (11, 0), (12, 1), (6, 2), (13, 2), (14, 0), (15, 0)] mixed (by kernel_rfl) (QOk.then (QOk.block (QOk.then QOk.body))) ?_
            refine O_pure rfl rfl rfl rfl (P_move rfl rfl) ?_
            refine O_pure rfl rfl rfl rfl (P_move rfl rfl) ?_
            refine O_pure rfl rfl rfl rfl (P_nil rfl rfl) ?_
            refine O_pure rfl rfl rfl rfl (P_fld0 rfl ty_fl_79_0 rfl) ?_
            first | (refine O_pure rfl rfl rfl rfl (P_ixa0 (1) rfl ty_ar_53 rfl rfl (by first | rfl | omega) (by omega)) ?_) | (refine O_pure rfl rfl rfl rfl (P_ixa (1) rfl ty_ar_53 rfl rfl (by first | rfl | omega) (by omega)) ?_)
            refine O_val rfl rfl rfl rfl (V_load rfl rfl ty_sc_25 (Rd.blk .h0 rfl)) ?_
            refine O_pure rfl rfl rfl rfl (P_move rfl rfl) ?_
            refine O_pure rfl rfl rfl rfl (P_move rfl rfl) ?_
            refine O_pure rfl rfl rfl rfl (P_nil rfl rfl) ?_
            refine O_pure rfl rfl rfl rfl (P_fld0 rfl ty_fl_79_1 rfl) ?_
            first | (refine O_pure rfl rfl rfl rfl (P_ixa0 (1) rfl ty_ar_74 rfl rfl (by first | rfl | omega) (by omega)) ?_) | (refine O_pure rfl rfl rfl rfl (P_ixa (1) rfl ty_ar_74 rfl rfl (by first | rfl | omega) (by omega)) ?_)
            refine O_val rfl rfl rfl rfl (V_load rfl rfl ty_sc_73 (Rd.blk .h0 rfl)) ?_
            refine O_keep rfl rfl (W_callR rfl rfl rfl rfl fn_ca_23 (count_ok p1 sg1 rc1) (Split.one (p := [_, _])) (fun _ _ _ _ _ _ _ => trivial) (K_keep (Weak.p1 (Weak.p1 (Weak.refl _))) ?_))
            refine O_keep rfl rfl (W_callR rfl rfl rfl rfl fn_ca_32 (rcount_ok q1 tg1 rc1) (Split.one (p := [_, _, _])) (fun _ _ _ _ _ _ _ => trivial) (K_keep (Weak.p1 (Weak.p1 (Weak.p1 (Weak.refl _)))) ?_))
            refine O_pure rfl rfl rfl rfl (P_eql rfl rfl rfl) ?_
            refine E_true (t := 67) rfl (decide_eq_true rfl) ?_
            refine O_pure rfl rfl rfl rfl (P_assign rfl rfl) ?_
            refine O_nil ?_
            refine St.env (.cons (t := 4) rfl .nil) ?_
            refine Q_then ?_
            refine R_ret ?_
            refine Q_block_ret ?_
            refine Q_then_ret ?_
            exact R_end (rs2 := [TWO w (n + 1)]) rfl rfl (.tmp rfl .nil) (⟨rfl, rfl⟩) ((Weak.pick (p := [_, _]) (Weak.pick (p := [_, _]) (Weak.pick (p := [_]) (Weak.keep (Weak.keep (Weak.keep (Weak.keep (Weak.keep (Weak.keep (Weak.keep (Weak.keep (Weak.nil _)))))))))))).trans ((Weak.keep (Weak.drop (Weak.refl _))).trans ((Weak.keep (Weak.pick (p := [_, _, _, _, _]) (Weak.pick (p := [_, _, _, _, _]) (Weak.pick (p := [_, _, _, _, _]) (Weak.pick (p := [_, _, _, _, _]) (Weak.keep (Weak.keep (Weak.keep (Weak.keep (Weak.keep (Weak.nil _))))))))))).trans (two_close (n := n + 1) (rs := []) ⟨⟨p0, q0, sg0, tg0, rc0, .slice sb0 sg0.length sc0, .slice tb0 tg0.length tc0⟩, ⟨p1, q1, sg1, tg1, rc1, .slice sb1 sg1.length sc1, .slice tb1 tg1.length tc1⟩, .slice zb ss.length zc, ss⟩ ⟨⟨hen0, Nat.le_succ_of_le hs0, Nat.le_succ_of_le hr0⟩, ⟨hen1, Nat.le_succ_of_le hs1, Nat.le_succ_of_le hr1⟩, Nat.le_succ_of_le hzl, hz16⟩))))
          · skip
            refine R_seq ?_
            refine R_region ?_
            refine L_val rfl rfl rfl (OpP.v (P_eql rfl rfl rfl)) ?_
            refine L_val rfl rfl rfl (OpP.v (P_assign rfl rfl)) ?_
            refine L_nil ?_
            refine St.env (.cons (t := 0) rfl (.cons (t := 3) rfl (.cons (t := 4) rfl (.cons (t := 5) rfl (.cons (t := 11) rfl (.cons (t := 68) rfl .nil)))))) ?_
            refine Q_then ?_
            refine R_condP rfl (fun h5 => ?_) (fun h5 => ?_)
            · skip
              refine R_seq ?_
              refine St.res (rs' := [TWO w n, blk b3 (opC kd wh at_ a base xs.length c sl tw lg) 72]) (Weak.swap) ?_
              refine St.openP (p := []) (fun ⟨⟨p0, q0, sg0, tg0, rc0, vs0, vt0⟩, ⟨p1, q1, sg1, tg1, rc1, vs1, vt1⟩, z, ss⟩ hok => ?_)
              obtain ⟨⟨hen0, hs0, hr0⟩, ⟨hen1, hs1, hr1⟩, hzl, hz16⟩ := hok
              dsimp only at hen0 hen1 hs0 hs1 hr0 hr1 hzl hz16
              refine St.unbundle [] ?_
              refine St.res (rs' := [blk w [.pointer (some ⟨p0, 0, none⟩), .pointer (some ⟨p1, 0, none⟩), .pointer (some ⟨q0, 0, none⟩), .pointer (some ⟨q1, 0, none⟩), vs0, vs1, vt0, vt1, z] 79, REG p0 (sg0) (rc0), REF q0 (tg0) (rc0), ownS 27 1 (vs0) (sg0).length (ptrs (sg0)), ownS 114 1 (vt0) (tg0).length (ptrs (tg0)), REG p1 (sg1) (rc1), REF q1 (tg1) (rc1), ownS 27 1 (vs1) (sg1).length (ptrs (sg1)), ownS 114 1 (vt1) (tg1).length (ptrs (tg1)), ownS 33 16 (z) (ss).length (flat .u8 (ss)), blk b3 (opC kd wh at_ a base xs.length c sl tw lg) 72]) (Weak.refl _) ?_
              have htl0 : tg0.length = sg0.length := (enOf_len hen0).symm
              have htl1 : tg1.length = sg1.length := (enOf_len hen1).symm
              refine St.ownForm (p := [_, _, _]) fun sb0 sc0 hsb0_ hsc0 => ?_
              subst hsb0_
              refine St.ownForm (p := [_, _, _, _]) fun tb0 tc0 htb0_ htc0 => ?_
              subst htb0_
              refine St.ownForm (p := [_, _, _, _, _, _, _]) fun sb1 sc1 hsb1_ hsc1 => ?_
              subst hsb1_
              refine St.ownForm (p := [_, _, _, _, _, _, _, _]) fun tb1 tc1 htb1_ htc1 => ?_
              subst htb1_
              refine St.ownForm (p := [_, _, _, _, _, _, _, _, _]) fun zb zc hzb_ hzc => ?_
              subst hzb_
              refine St.res (rs' := [blk w [.pointer (some ⟨p0, 0, none⟩), .pointer (some ⟨p1, 0, none⟩), .pointer (some ⟨q0, 0, none⟩), .pointer (some ⟨q1, 0, none⟩), .slice sb0 sg0.length sc0, .slice sb1 sg1.length sc1, .slice tb0 tg0.length tc0, .slice tb1 tg1.length tc1, .slice zb ss.length zc] 79, REG p0 (sg0) (rc0), REF q0 (tg0) (rc0), ownS 27 1 (.slice sb0 sg0.length sc0) (sg0).length (ptrs (sg0)), ownS 114 1 (.slice tb0 tg0.length tc0) (tg0).length (ptrs (tg0)), REG p1 (sg1) (rc1), REF q1 (tg1) (rc1), ownS 27 1 (.slice sb1 sg1.length sc1) (sg1).length (ptrs (sg1)), ownS 114 1 (.slice tb1 tg1.length tc1) (tg1).length (ptrs (tg1)), ownS 33 16 (.slice zb ss.length zc) (ss).length (flat .u8 (ss)), blk b3 (opC kd wh at_ a base xs.length c sl tw lg) 72]) (Weak.refl _) ?_
              refine St.res (rs' := [blk w [.pointer (some ⟨p0, 0, none⟩), .pointer (some ⟨p1, 0, none⟩), .pointer (some ⟨q0, 0, none⟩), .pointer (some ⟨q1, 0, none⟩), .slice sb0 sg0.length sc0, .slice sb1 sg1.length sc1, .slice tb0 tg0.length tc0, .slice tb1 tg1.length tc1, .slice zb ss.length zc] 79, blk b3 (opC kd wh at_ a base xs.length c sl tw lg) 72, REG p1 (sg1) (rc1), REF q1 (tg1) (rc1), ownS 27 1 (.slice sb1 sg1.length sc1) (sg1).length (ptrs (sg1)), ownS 114 1 (.slice tb1 tg1.length tc1) (tg1).length (ptrs (tg1)), ownS 33 16 (.slice zb ss.length zc) (ss).length (flat .u8 (ss)), REG p0 (sg0) (rc0), REF q0 (tg0) (rc0), ownS 27 1 (.slice sb0 sg0.length sc0) (sg0).length (ptrs (sg0)), ownS 114 1 (.slice tb0 tg0.length tc0) (tg0).length (ptrs (tg0))]) (Weak.keep (Weak.pick (p := [_, _, _, _, _, _, _, _, _]) (Weak.pick (p := [_, _, _, _]) (Weak.pick (p := [_, _, _, _]) (Weak.pick (p := [_, _, _, _]) (Weak.pick (p := [_, _, _, _]) (Weak.pick (p := [_, _, _, _]) (Weak.keep (Weak.keep (Weak.keep (Weak.keep (Weak.nil _)))))))))))) ?_
              refine St.hasFact (r := REG p1 sg1 rc1) .h2 reg_fact fun hrcb => ?_
              refine R_open [(0, 0), (1, 0), (2, 0), (3, 0), (4, 0), (5, 1), (6, 0), (7, 1), (9, 0), (10, 0), (11, 0), (12, 0), (13, 0), (14, 1), (15, 0), (16, 1), (8, 2), (17, 2), (18, 2), (19, 0)] mixed (by kernel_rfl) (QOk.then (QOk.block (QOk.then QOk.body))) ?_
              refine O_pure rfl rfl rfl rfl (P_move rfl rfl) ?_
              refine O_pure rfl rfl rfl rfl (P_move rfl rfl) ?_
              refine O_pure rfl rfl rfl rfl (P_nil rfl rfl) ?_
              refine O_pure rfl rfl rfl rfl (P_fld0 rfl ty_fl_79_0 rfl) ?_
              first | (refine O_pure rfl rfl rfl rfl (P_ixa0 (1) rfl ty_ar_53 rfl rfl (by first | rfl | omega) (by omega)) ?_) | (refine O_pure rfl rfl rfl rfl (P_ixa (1) rfl ty_ar_53 rfl rfl (by first | rfl | omega) (by omega)) ?_)
              refine O_val rfl rfl rfl rfl (V_load rfl rfl ty_sc_25 (Rd.blk .h0 rfl)) ?_
              refine O_pure rfl rfl rfl rfl (P_fld0 rfl ty_fl_72_3 rfl) ?_
              refine O_val rfl rfl rfl rfl (V_load rfl rfl ty_sc_23 (Rd.blk .h1 rfl)) ?_
              refine O_pure rfl rfl rfl rfl (P_move rfl rfl) ?_
              refine O_pure rfl rfl rfl rfl (P_move rfl rfl) ?_
              refine O_pure rfl rfl rfl rfl (P_nil rfl rfl) ?_
              refine O_pure rfl rfl rfl rfl (P_fld0 rfl ty_fl_79_1 rfl) ?_
              first | (refine O_pure rfl rfl rfl rfl (P_ixa0 (1) rfl ty_ar_74 rfl rfl (by first | rfl | omega) (by omega)) ?_) | (refine O_pure rfl rfl rfl rfl (P_ixa (1) rfl ty_ar_74 rfl rfl (by first | rfl | omega) (by omega)) ?_)
              refine O_val rfl rfl rfl rfl (V_load rfl rfl ty_sc_73 (Rd.blk .h0 rfl)) ?_
              refine O_pure rfl rfl rfl rfl (P_fld0 rfl ty_fl_72_3 rfl) ?_
              refine O_val rfl rfl rfl rfl (V_load rfl rfl ty_sc_23 (Rd.blk .h1 rfl)) ?_
              refine O_keep rfl rfl (W_call rfl rfl rfl rfl fn_ca_27 (signed_ok p1 sg1 rc1 a (by omega)) (Split.one (p := [_, _])) (fun _ _ _ _ _ _ _ => trivial) fun v78 rs1 ⟨ws, hws, e1⟩ => ?_)
              subst e1
              refine St.ownForm (p := []) fun ub uc hub_ huc => ?_
              subst hub_
              refine K_keep (Weak.pick (p := [_, _, _]) (Weak.pick (p := [_, _, _]) (Weak.pick (p := [_, _]) (Weak.pick (p := [_, _]) (Weak.pick (p := [_, _]) (Weak.pick (p := [_, _]) (Weak.pick (p := [_, _]) (Weak.pick (p := [_, _]) (Weak.pick (p := [_, _]) (Weak.pick (p := [_, _]) (Weak.pick (p := [_, _]) (Weak.nil _)))))))))))) ?_
              refine O_keep rfl rfl (W_call rfl rfl rfl rfl fn_ca_52 (rsigned_ok q1 tg1 rc1 a (by omega)) (Split.one (p := [_, _, _, _, _])) (fun _ _ _ _ _ _ _ => trivial) fun v87 rs2 ⟨wt, hwt, e2⟩ => ?_)
              subst e2
              refine St.ownForm (p := []) fun vb vc hvb_ hvc => ?_
              subst hvb_
              refine K_keep (Weak.pick (p := [_, _, _]) (Weak.pick (p := [_, _, _]) (Weak.pick (p := [_, _, _]) (Weak.pick (p := [_, _, _]) (Weak.pick (p := [_, _, _]) (Weak.pick (p := [_, _]) (Weak.pick (p := [_, _]) (Weak.pick (p := [_, _]) (Weak.pick (p := [_, _]) (Weak.pick (p := [_, _]) (Weak.pick (p := [_, _]) (Weak.pick (p := [_, _]) (Weak.pick (p := [_, _]) (Weak.nil _)))))))))))))) ?_
              have hx : ∀ x ∈ ws.map (·.2), IsB x := fun x hx => by rw [hws] at hx; exact (hrcb _ (msgsOf_mem hx)).1
              have hy : ∀ x ∈ wt.map (·.2), IsB x := fun x hx => by rw [hwt] at hx; exact (hrcb _ (msgsOf_mem hx)).1
              have l1 : ws.length ≤ 4398046511104 := by (have q1 := congrArg List.length hws; have q2 := msgsOf_le rc1 a; rw [List.length_map] at q1; omega)
              have l2 : wt.length ≤ 4398046511104 := by (have q1 := congrArg List.length hwt; have q2 := msgsOf_le rc1 a; rw [List.length_map] at q1; omega)
              have hsame := same_ok (gl := gl) ub uc (ws.map (·.1)) (ws.map (·.2)) (by simp) (by rw [List.length_map]; exact l1) hx vb vc (wt.map (·.1)) (wt.map (·.2)) (by simp) (by rw [List.length_map]; exact l2) hy
              rw [List.length_map, List.length_map] at hsame
              refine O_keep rfl rfl (W_callV rfl rfl rfl rfl fn_ca_28 (hsame) (fun w nw => ⟨ItemsM.own .h3 .h4 w nw, ItemsM.own .h0 .h1 w nw⟩) (K_keep (Weak.refl _) ?_))
              refine E_true (t := 88) rfl (decide_eq_true (by rw [hws, hwt])) ?_
              refine O_pure rfl rfl rfl rfl (P_assign rfl rfl) ?_
              refine O_nil ?_
              refine St.env (.cons (t := 4) rfl .nil) ?_
              refine Q_then ?_
              refine R_ret ?_
              refine Q_block_ret ?_
              refine Q_then_ret ?_
              exact R_end (rs2 := [TWO w (n + 1)]) rfl rfl (.tmp rfl .nil) (⟨rfl, rfl⟩) ((Weak.pick (p := [_, _]) (Weak.pick (p := [_, _, _, _]) (Weak.pick (p := [_, _, _, _]) (Weak.pick (p := [_, _, _, _]) (Weak.pick (p := [_, _, _, _]) (Weak.pick (p := [_, _, _, _]) (Weak.pick (p := [_, _, _, _]) (Weak.pick (p := [_, _, _, _]) (Weak.pick (p := [_, _, _, _]) (Weak.pick (p := [_, _, _, _]) (Weak.pick (p := [_, _, _, _]) (Weak.nil _)))))))))))).trans ((Weak.pick (p := [_, _]) (Weak.pick (p := [_, _]) (Weak.pick (p := [_]) (Weak.keep (Weak.keep (Weak.keep (Weak.keep (Weak.keep (Weak.keep (Weak.keep (Weak.keep (Weak.nil _)))))))))))).trans ((Weak.keep (Weak.drop (Weak.refl _))).trans ((Weak.keep (Weak.pick (p := [_, _, _, _, _]) (Weak.pick (p := [_, _, _, _, _]) (Weak.pick (p := [_, _, _, _, _]) (Weak.pick (p := [_, _, _, _, _]) (Weak.keep (Weak.keep (Weak.keep (Weak.keep (Weak.keep (Weak.nil _))))))))))).trans (two_close (n := n + 1) (rs := []) ⟨⟨p0, q0, sg0, tg0, rc0, .slice sb0 sg0.length sc0, .slice tb0 tg0.length tc0⟩, ⟨p1, q1, sg1, tg1, rc1, .slice sb1 sg1.length sc1, .slice tb1 tg1.length tc1⟩, .slice zb ss.length zc, ss⟩ ⟨⟨hen0, Nat.le_succ_of_le hs0, Nat.le_succ_of_le hr0⟩, ⟨hen1, Nat.le_succ_of_le hs1, Nat.le_succ_of_le hr1⟩, Nat.le_succ_of_le hzl, hz16⟩)))))
            · skip
              refine R_seq ?_
              refine R_region ?_
              refine L_val rfl rfl rfl (OpP.v (P_eql rfl rfl rfl)) ?_
              refine L_val rfl rfl rfl (OpP.v (P_assign rfl rfl)) ?_
              refine L_nil ?_
              refine St.env (.cons (t := 0) rfl (.cons (t := 3) rfl (.cons (t := 4) rfl (.cons (t := 5) rfl (.cons (t := 89) rfl .nil))))) ?_
              refine Q_then ?_
              refine R_condP rfl (fun h6 => ?_) (fun h6 => ?_)
              · skip
                refine R_seq ?_
                refine St.res (rs' := [TWO w n, blk b3 (opC kd wh at_ a base xs.length c sl tw lg) 72]) (Weak.swap) ?_
                refine St.openP (p := []) (fun ⟨⟨p0, q0, sg0, tg0, rc0, vs0, vt0⟩, ⟨p1, q1, sg1, tg1, rc1, vs1, vt1⟩, z, ss⟩ hok => ?_)
                obtain ⟨⟨hen0, hs0, hr0⟩, ⟨hen1, hs1, hr1⟩, hzl, hz16⟩ := hok
                dsimp only at hen0 hen1 hs0 hs1 hr0 hr1 hzl hz16
                refine St.unbundle [] ?_
                refine St.res (rs' := [blk w [.pointer (some ⟨p0, 0, none⟩), .pointer (some ⟨p1, 0, none⟩), .pointer (some ⟨q0, 0, none⟩), .pointer (some ⟨q1, 0, none⟩), vs0, vs1, vt0, vt1, z] 79, REG p0 (sg0) (rc0), REF q0 (tg0) (rc0), ownS 27 1 (vs0) (sg0).length (ptrs (sg0)), ownS 114 1 (vt0) (tg0).length (ptrs (tg0)), REG p1 (sg1) (rc1), REF q1 (tg1) (rc1), ownS 27 1 (vs1) (sg1).length (ptrs (sg1)), ownS 114 1 (vt1) (tg1).length (ptrs (tg1)), ownS 33 16 (z) (ss).length (flat .u8 (ss)), blk b3 (opC kd wh at_ a base xs.length c sl tw lg) 72]) (Weak.refl _) ?_
                have htl0 : tg0.length = sg0.length := (enOf_len hen0).symm
                have htl1 : tg1.length = sg1.length := (enOf_len hen1).symm
                refine St.ownForm (p := [_, _, _]) fun sb0 sc0 hsb0_ hsc0 => ?_
                subst hsb0_
                refine St.ownForm (p := [_, _, _, _]) fun tb0 tc0 htb0_ htc0 => ?_
                subst htb0_
                refine St.ownForm (p := [_, _, _, _, _, _, _]) fun sb1 sc1 hsb1_ hsc1 => ?_
                subst hsb1_
                refine St.ownForm (p := [_, _, _, _, _, _, _, _]) fun tb1 tc1 htb1_ htc1 => ?_
                subst htb1_
                refine St.ownForm (p := [_, _, _, _, _, _, _, _, _]) fun zb zc hzb_ hzc => ?_
                subst hzb_
                refine St.res (rs' := [blk w [.pointer (some ⟨p0, 0, none⟩), .pointer (some ⟨p1, 0, none⟩), .pointer (some ⟨q0, 0, none⟩), .pointer (some ⟨q1, 0, none⟩), .slice sb0 sg0.length sc0, .slice sb1 sg1.length sc1, .slice tb0 tg0.length tc0, .slice tb1 tg1.length tc1, .slice zb ss.length zc] 79, REG p0 (sg0) (rc0), REF q0 (tg0) (rc0), ownS 27 1 (.slice sb0 sg0.length sc0) (sg0).length (ptrs (sg0)), ownS 114 1 (.slice tb0 tg0.length tc0) (tg0).length (ptrs (tg0)), REG p1 (sg1) (rc1), REF q1 (tg1) (rc1), ownS 27 1 (.slice sb1 sg1.length sc1) (sg1).length (ptrs (sg1)), ownS 114 1 (.slice tb1 tg1.length tc1) (tg1).length (ptrs (tg1)), ownS 33 16 (.slice zb ss.length zc) (ss).length (flat .u8 (ss)), blk b3 (opC kd wh at_ a base xs.length c sl tw lg) 72]) (Weak.refl _) ?_
                refine St.res (rs' := [blk w [.pointer (some ⟨p0, 0, none⟩), .pointer (some ⟨p1, 0, none⟩), .pointer (some ⟨q0, 0, none⟩), .pointer (some ⟨q1, 0, none⟩), .slice sb0 sg0.length sc0, .slice sb1 sg1.length sc1, .slice tb0 tg0.length tc0, .slice tb1 tg1.length tc1, .slice zb ss.length zc] 79, blk b3 (opC kd wh at_ a base xs.length c sl tw lg) 72, REG p1 (sg1) (rc1), REF q1 (tg1) (rc1), ownS 27 1 (.slice sb1 sg1.length sc1) (sg1).length (ptrs (sg1)), ownS 114 1 (.slice tb1 tg1.length tc1) (tg1).length (ptrs (tg1)), ownS 33 16 (.slice zb ss.length zc) (ss).length (flat .u8 (ss)), REG p0 (sg0) (rc0), REF q0 (tg0) (rc0), ownS 27 1 (.slice sb0 sg0.length sc0) (sg0).length (ptrs (sg0)), ownS 114 1 (.slice tb0 tg0.length tc0) (tg0).length (ptrs (tg0))]) (Weak.keep (Weak.pick (p := [_, _, _, _, _, _, _, _, _]) (Weak.pick (p := [_, _, _, _]) (Weak.pick (p := [_, _, _, _]) (Weak.pick (p := [_, _, _, _]) (Weak.pick (p := [_, _, _, _]) (Weak.pick (p := [_, _, _, _]) (Weak.keep (Weak.keep (Weak.keep (Weak.keep (Weak.nil _)))))))))))) ?_
                refine R_region ?_
                refine L_val rfl rfl rfl (OpP.v (P_move rfl rfl)) ?_
                refine L_val rfl rfl rfl (OpP.v (P_move rfl rfl)) ?_
                refine L_val rfl rfl rfl (OpP.v (P_nil rfl rfl)) ?_
                refine L_val rfl rfl rfl (OpP.v (P_fld0 rfl ty_fl_79_2 rfl)) ?_
                first | (refine L_val rfl rfl rfl (OpP.v (P_ixa0 (1) rfl ty_ar_55 rfl rfl (by first | rfl | omega) (by omega))) ?_) | (refine L_val rfl rfl rfl (OpP.v (P_ixa (1) rfl ty_ar_55 rfl rfl (by first | rfl | omega) (by omega))) ?_)
                refine L_val rfl rfl rfl (V_load rfl rfl ty_sc_54 (Rd.blk .h0 rfl)) ?_
                refine L_val rfl rfl rfl (OpP.v (P_len rfl ty_sl_54 rfl)) ?_
                refine L_val rfl rfl rfl (OpP.v (P_gtr rfl rfl rfl)) ?_
                refine L_nil ?_
                refine St.env (.cons (t := 0) rfl (.cons (t := 3) rfl (.cons (t := 4) rfl (.cons (t := 5) rfl (.cons (t := 98) rfl .nil))))) ?_
                refine Q_then ?_
                refine R_condP rfl (fun hlen => ?_) (fun hlen => ?_)
                · skip
                  have hlen2 : 0 < sg1.length := by omega
                  refine St.ownSome (p := [_, _, _, _]) (by omega) fun sbb sbc hq _ => ?_
                  simp only [Value.slice.injEq] at hq
                  obtain ⟨rfl, _, rfl⟩ := hq
                  refine St.ownSome (p := [_, _, _, _, _]) (by omega) fun tbb tbc hq _ => ?_
                  simp only [Value.slice.injEq] at hq
                  obtain ⟨rfl, _, rfl⟩ := hq
                  refine St.res (rs' := [blk w [.pointer (some ⟨p0, 0, none⟩), .pointer (some ⟨p1, 0, none⟩), .pointer (some ⟨q0, 0, none⟩), .pointer (some ⟨q1, 0, none⟩), .slice sb0 sg0.length sc0, .slice (some ⟨sbb, 0, none⟩) sg1.length sc1, .slice tb0 tg0.length tc0, .slice (some ⟨tbb, 0, none⟩) tg1.length tc1, .slice zb ss.length zc] 79, blk b3 (opC kd wh at_ a base xs.length c sl tw lg) 72, REG p1 (sg1) (rc1), REF q1 (tg1) (rc1), ownS 27 1 (.slice (some ⟨sbb, 0, none⟩) sg1.length sc1) (sg1).length (ptrs (sg1)), ownS 114 1 (.slice (some ⟨tbb, 0, none⟩) tg1.length tc1) (tg1).length (ptrs (tg1)), ownS 33 16 (.slice zb ss.length zc) (ss).length (flat .u8 (ss)), REG p0 (sg0) (rc0), REF q0 (tg0) (rc0), ownS 27 1 (.slice sb0 sg0.length sc0) (sg0).length (ptrs (sg0)), ownS 114 1 (.slice tb0 tg0.length tc0) (tg0).length (ptrs (tg0))]) (Weak.refl _) ?_
                  obtain ⟨ii, hii⟩ : ∃ ii : Nat, aroundI at_ (sg1.length : Int) = ii := ⟨(aroundI at_ sg1.length).toNat, by have hbd := aroundI_bound (x := at_) (n := (sg1.length : Int)) (by omega); omega⟩
                  have hil : ii < sg1.length := by have hbd := aroundI_bound (x := at_) (n := (sg1.length : Int)) (by omega); omega
                  obtain ⟨⟨a1, s⟩, hs⟩ : ∃ y, sg1[ii]? = some y := ⟨_, List.getElem?_eq_getElem hil⟩
                  obtain ⟨t, ht⟩ := enOf_at hen1 hs
                  refine R_seq ?_
                  refine R_open [(0, 0), (1, 1), (2, 0), (3, 0), (4, 0), (5, 0), (6, 0), (7, 1), (8, 0), (9, 2), (10, 0)] mixed (by kernel_rfl) (QOk.then (QOk.block (QOk.then QOk.body))) ?_
                  refine O_pure rfl rfl rfl rfl (P_fld0 rfl ty_fl_72_2 rfl) ?_
                  refine O_val rfl rfl rfl rfl (V_load rfl rfl ty_sc_3 (Rd.blk .h1 rfl)) ?_
                  refine O_pure rfl rfl rfl rfl (P_move rfl rfl) ?_
                  refine O_pure rfl rfl rfl rfl (P_move rfl rfl) ?_
                  refine O_pure rfl rfl rfl rfl (P_nil rfl rfl) ?_
                  refine O_pure rfl rfl rfl rfl (P_fld0 rfl ty_fl_79_2 rfl) ?_
                  first | (refine O_pure rfl rfl rfl rfl (P_ixa0 (1) rfl ty_ar_55 rfl rfl (by first | rfl | omega) (by omega)) ?_) | (refine O_pure rfl rfl rfl rfl (P_ixa (1) rfl ty_ar_55 rfl rfl (by first | rfl | omega) (by omega)) ?_)
                  refine O_val rfl rfl rfl rfl (V_load rfl rfl ty_sc_54 (Rd.blk .h0 rfl)) ?_
                  refine O_pure rfl rfl rfl rfl (P_len rfl ty_sl_54 rfl) ?_
                  refine O_keep rfl rfl (W_callV rfl rfl rfl rfl fn_ca_26 (around_ok at_ (sg1.length : Int) (by omega) (by omega)) (fun _ _ => trivial) (K_keep (Weak.refl _) ?_))
                  refine E_as (t := 108) (v' := .int .i64 (ii : Int)) rfl (by rw [hii]) ?_
                  refine O_pure rfl rfl rfl rfl (P_assign rfl rfl) ?_
                  refine O_nil ?_
                  refine St.env (.cons (t := 0) rfl (.cons (t := 4) rfl (.cons (t := 5) rfl (.cons (t := 6) rfl .nil)))) ?_
                  refine Q_then ?_
                  refine R_seq ?_
                  refine R_open [(0, 0), (1, 0), (2, 0), (3, 0), (4, 0), (5, 1), (6, 0), (7, 0), (8, 1), (10, 0), (11, 0), (12, 0), (13, 0), (14, 0), (15, 1), (16, 0), (17, 0), (18, 1), (9, 2), (19, 2), (20, 0), (21, 0)] mixed (by kernel_rfl) (QOk.then (QOk.block (QOk.then QOk.body))) ?_
                  refine O_pure rfl rfl rfl rfl (P_move rfl rfl) ?_
                  refine O_pure rfl rfl rfl rfl (P_move rfl rfl) ?_
                  refine O_pure rfl rfl rfl rfl (P_nil rfl rfl) ?_
                  refine O_pure rfl rfl rfl rfl (P_fld0 rfl ty_fl_79_2 rfl) ?_
                  first | (refine O_pure rfl rfl rfl rfl (P_ixa0 (1) rfl ty_ar_55 rfl rfl (by first | rfl | omega) (by omega)) ?_) | (refine O_pure rfl rfl rfl rfl (P_ixa (1) rfl ty_ar_55 rfl rfl (by first | rfl | omega) (by omega)) ?_)
                  refine O_val rfl rfl rfl rfl (V_load rfl rfl ty_sc_54 (Rd.blk .h0 rfl)) ?_
                  refine O_pure rfl rfl rfl rfl (P_move rfl rfl) ?_
                  refine O_pure rfl rfl rfl rfl (P_ixs (ii) rfl ty_sl_54 rfl rfl (by first | rfl | omega) (by omega)) ?_
                  refine O_val rfl rfl rfl rfl (V_load rfl rfl ty_sc_27 (rd_own1 .h4 (ptrs_at hs))) ?_
                  refine O_pure rfl rfl rfl rfl (P_move rfl rfl) ?_
                  refine O_pure rfl rfl rfl rfl (P_move rfl rfl) ?_
                  refine O_pure rfl rfl rfl rfl (P_nil rfl rfl) ?_
                  refine O_pure rfl rfl rfl rfl (P_fld0 rfl ty_fl_79_3 rfl) ?_
                  first | (refine O_pure rfl rfl rfl rfl (P_ixa0 (1) rfl ty_ar_76 rfl rfl (by first | rfl | omega) (by omega)) ?_) | (refine O_pure rfl rfl rfl rfl (P_ixa (1) rfl ty_ar_76 rfl rfl (by first | rfl | omega) (by omega)) ?_)
                  refine O_val rfl rfl rfl rfl (V_load rfl rfl ty_sc_75 (Rd.blk .h0 rfl)) ?_
                  refine O_pure rfl rfl rfl rfl (P_move rfl rfl) ?_
                  refine O_pure rfl rfl rfl rfl (P_ixs (ii) rfl ty_sl_75 rfl rfl (by first | rfl | omega) (by omega)) ?_
                  refine O_val rfl rfl rfl rfl (V_load rfl rfl ty_sc_114 (rd_own1 .h5 (ptrs_at ht))) ?_
                  refine O_keep rfl rfl (W_callR rfl rfl rfl rfl fn_ca_25 (addr_ok p1 sg1 rc1 ii a1 s hs) (Split.one (p := [_, _])) (fun _ _ _ _ _ _ _ => trivial) (K_keep (Weak.p1 (Weak.p1 (Weak.refl _))) ?_))
                  refine O_keep rfl rfl (W_callR rfl rfl rfl rfl fn_ca_53 (raddr_ok q1 tg1 rc1 ii a1 t ht) (Split.one (p := [_, _, _])) (fun _ _ _ _ _ _ _ => trivial) (K_keep (Weak.p1 (Weak.p1 (Weak.p1 (Weak.refl _)))) ?_))
                  refine O_pure rfl rfl rfl rfl (P_eql rfl rfl rfl) ?_
                  refine E_true (t := 129) rfl (decide_eq_true rfl) ?_
                  refine O_pure rfl rfl rfl rfl (P_assign rfl rfl) ?_
                  refine O_nil ?_
                  refine St.env (.cons (t := 4) rfl .nil) ?_
                  refine Q_then ?_
                  refine R_ret ?_
                  refine Q_block_ret ?_
                  refine Q_then_ret ?_
                  exact R_end (rs2 := [TWO w (n + 1)]) rfl rfl (.tmp rfl .nil) (⟨rfl, rfl⟩) ((Weak.pick (p := [_, _]) (Weak.pick (p := [_, _]) (Weak.pick (p := [_]) (Weak.keep (Weak.keep (Weak.keep (Weak.keep (Weak.keep (Weak.keep (Weak.keep (Weak.keep (Weak.nil _)))))))))))).trans ((Weak.keep (Weak.drop (Weak.refl _))).trans ((Weak.keep (Weak.pick (p := [_, _, _, _, _]) (Weak.pick (p := [_, _, _, _, _]) (Weak.pick (p := [_, _, _, _, _]) (Weak.pick (p := [_, _, _, _, _]) (Weak.keep (Weak.keep (Weak.keep (Weak.keep (Weak.keep (Weak.nil _))))))))))).trans (two_close (n := n + 1) (rs := []) ⟨⟨p0, q0, sg0, tg0, rc0, .slice sb0 sg0.length sc0, .slice tb0 tg0.length tc0⟩, ⟨p1, q1, sg1, tg1, rc1, .slice (some ⟨sbb, 0, none⟩) sg1.length sc1, .slice (some ⟨tbb, 0, none⟩) tg1.length tc1⟩, .slice zb ss.length zc, ss⟩ ⟨⟨hen0, Nat.le_succ_of_le hs0, Nat.le_succ_of_le hr0⟩, ⟨hen1, Nat.le_succ_of_le hs1, Nat.le_succ_of_le hr1⟩, Nat.le_succ_of_le hzl, hz16⟩))))
                · skip
                  refine R_skip ?_
                  refine Q_block ?_
                  refine Q_then ?_
                  refine R_seq ?_
                  refine R_region ?_
                  refine L_val rfl rfl rfl (OpP.v (P_assign rfl rfl)) ?_
                  refine L_nil ?_
                  refine St.env (.cons (t := 4) rfl .nil) ?_
                  refine Q_then ?_
                  refine R_ret ?_
                  exact R_end (rs2 := [TWO w (n + 1)]) rfl rfl (.tmp rfl .nil) (⟨rfl, rfl⟩) (by first | exact (Weak.drop two_mono) | exact ((Weak.keep (Weak.keep (Weak.keep (Weak.keep (Weak.keep (Weak.keep (Weak.keep (Weak.keep (Weak.keep (Weak.keep (Weak.keep (Weak.nil _)))))))))))).trans ((Weak.keep (Weak.drop (Weak.refl _))).trans ((Weak.keep (Weak.pick (p := [_, _, _, _, _]) (Weak.pick (p := [_, _, _, _, _]) (Weak.pick (p := [_, _, _, _, _]) (Weak.pick (p := [_, _, _, _, _]) (Weak.keep (Weak.keep (Weak.keep (Weak.keep (Weak.keep (Weak.nil _))))))))))).trans (two_close (n := n + 1) (rs := []) ⟨⟨p0, q0, sg0, tg0, rc0, .slice sb0 sg0.length sc0, .slice tb0 tg0.length tc0⟩, ⟨p1, q1, sg1, tg1, rc1, .slice sb1 sg1.length sc1, .slice tb1 tg1.length tc1⟩, .slice zb ss.length zc, ss⟩ ⟨⟨hen0, Nat.le_succ_of_le hs0, Nat.le_succ_of_le hr0⟩, ⟨hen1, Nat.le_succ_of_le hs1, Nat.le_succ_of_le hr1⟩, Nat.le_succ_of_le hzl, hz16⟩)))))
              · skip
                refine R_skip ?_
                refine Q_block ?_
                refine Q_then ?_
                refine R_seq ?_
                refine R_region ?_
                refine L_val rfl rfl rfl (OpP.v (P_assign rfl rfl)) ?_
                refine L_nil ?_
                refine St.env (.cons (t := 4) rfl .nil) ?_
                refine Q_then ?_
                refine R_ret ?_
                exact R_end (rs2 := [TWO w (n + 1)]) rfl rfl (.tmp rfl .nil) (⟨rfl, rfl⟩) (by first | exact (Weak.drop two_mono) | exact ((Weak.keep (Weak.keep (Weak.keep (Weak.keep (Weak.keep (Weak.keep (Weak.keep (Weak.keep (Weak.keep (Weak.keep (Weak.keep (Weak.nil _)))))))))))).trans ((Weak.keep (Weak.drop (Weak.refl _))).trans ((Weak.keep (Weak.pick (p := [_, _, _, _, _]) (Weak.pick (p := [_, _, _, _, _]) (Weak.pick (p := [_, _, _, _, _]) (Weak.pick (p := [_, _, _, _, _]) (Weak.keep (Weak.keep (Weak.keep (Weak.keep (Weak.keep (Weak.nil _))))))))))).trans (two_close (n := n + 1) (rs := []) ⟨⟨p0, q0, sg0, tg0, rc0, .slice sb0 sg0.length sc0, .slice tb0 tg0.length tc0⟩, ⟨p1, q1, sg1, tg1, rc1, .slice sb1 sg1.length sc1, .slice tb1 tg1.length tc1⟩, .slice zb ss.length zc, ss⟩ ⟨⟨hen0, Nat.le_succ_of_le hs0, Nat.le_succ_of_le hr0⟩, ⟨hen1, Nat.le_succ_of_le hs1, Nat.le_succ_of_le hr1⟩, Nat.le_succ_of_le hzl, hz16⟩)))))
theorem step_ok {gl : Nat → Obj} (hG : GlobsR gl) (w n : Nat) (hn : n ≤ 1599289640354) (kd wh at_ a : Int) (base : Option Addr) (c : Nat) (xs sl : List Int) (tw : Int) (lg : Bool) (hsl : sl.length = 16) (hxm : xs.length ≤ 140737488351232) (hxb : IsB xs) : SpecR (cx gl) 31 [.pointer (some ⟨w, 0, none⟩), .agg (opC kd wh at_ a base xs.length c sl tw lg).toArray] (fun w h => Seen w h base (ints .u8 xs)) [TWO w n] (.bool true) [TWO w (n + 1)] := by
  rcases and1 wh with h | h
  · exact step0 hG w n hn kd wh at_ a base c xs sl tw lg hsl hxm hxb h
  · exact step1 hG w n hn kd wh at_ a base c xs sl tw lg hsl hxm hxb h
end Go.Proofs.YtnaadddnbfnahaaDoor
