/- The walk of DigestFresh. Printed by gen.py. -/
import Derived.Test.YtldndhekjhlbmaaDoorD26
import Derived.Test.YtldndhekjhlbmaaDoorEngM
set_option linter.unusedVariables false
set_option linter.unusedSimpArgs false
set_option maxRecDepth 100000
namespace Go.Proofs.YtldndhekjhlbmaaDoor
open Go Go.RowKit Go.Proofs
theorem proveA_small (xss : List (List Int)) (at_ : Int) : (proveA xss at_).length ≤ 65536 := by
  unfold proveA
  split
  · rename_i h
    have hB : bigL xss = false := by
      cases hq : bigL xss with
      | false => rfl
      | true => rw [proveE_big hq] at h; cases h
    obtain ⟨g1, _, _⟩ := bigL_false hB
    have := wayH_le _ (leaves xss) at_.toNat (Nat.le_refl _)
    rw [leaves_length] at this; omega
  · exact Nat.zero_le _
/-- A mark. -/
def mk1 (a k : Int) : List Int := IntKind.u8.wrap a :: IntKind.u8.wrap k :: List.replicate 30 0
theorem mk1_length (a k : Int) : (mk1 a k).length = 32 := rfl
def mks (a : Int) (n : Nat) : List (List Int) := (List.range n).map fun (k : Nat) => mk1 a (k : Int)
theorem mks_length (a : Int) (n : Nat) : (mks a n).length = n := by simp [mks]
theorem mks_succ (a : Int) (n : Nat) : mks a (n + 1) = mks a n ++ [mk1 a n] := by simp [mks, List.range_succ]
theorem mks_at {a : Int} {n k : Nat} (h : k < n) : (mks a n)[k]? = some (mk1 a k) := by simp [mks, h]
theorem mks_len (a : Int) (n : Nat) : ∀ h ∈ mks a n, h.length = 32 := fun h hh => by
  simp only [mks, List.mem_map] at hh
  obtain ⟨k, _, rfl⟩ := hh; rfl
/-- A slice of digests of the call's own. -/
structure Ow where
  b : Option Addr
  c : Nat
  hs : List (List Int)
def Ow.val (u : Ow) : Value := .slice u.b u.hs.length u.c
def Ow.own (u : Ow) : HP := ownS 23 32 u.val u.hs.length (flat .u8 u.hs)
/-- The first i of them are marked, and k places of the next. -/
def Wr (us0 us : List Ow) (i k : Nat) : Prop := us.map Ow.val = us0.map Ow.val ∧ (∀ (j : Nat) (u : Ow), us[j]? = some u → j < i → u.hs = mks ((j : Int) + 1) u.hs.length) ∧ (∀ u ∈ us, ∀ h ∈ u.hs, h.length = 32) ∧ (∀ u : Ow, us[i]? = some u → u.hs.take k = mks ((i : Int) + 1) k ∧ k ≤ u.hs.length)
theorem Wr.start {us : List Ow} (h : ∀ u ∈ us, ∀ h ∈ u.hs, h.length = 32) : Wr us us 0 0 := ⟨rfl, fun j u _ hj => absurd hj (by omega), h, fun u _ => ⟨rfl, Nat.zero_le _⟩⟩
theorem Wr.step {us0 us : List Ow} {i k c : Nat} {b : Option Addr} {hs : List (List Int)} (h : Wr us0 us i k) (hu : us[i]? = some ⟨b, c, hs⟩) (hk : k < hs.length) : Wr us0 (us.set i ⟨b, c, hs.set k (mk1 ((i : Int) + 1) k)⟩) i (k + 1) := by
  obtain ⟨h1, h2, h3, h4⟩ := h
  have hi := (List.getElem?_eq_some_iff.1 hu).1
  refine ⟨?_, fun j u hj hji => ?_, fun u hm x hx => ?_, fun u hj => ?_⟩
  · rw [List.map_set, ← h1]
    apply List.ext_getElem?
    intro j
    rw [List.getElem?_set]
    split
    · rename_i e
      subst e
      rw [List.getElem?_map, hu, if_pos (by rw [List.length_map]; exact hi)]
      simp [Ow.val]
    · rfl
  · rw [List.getElem?_set_ne (by omega)] at hj
    exact h2 j u hj hji
  · rcases List.mem_or_eq_of_mem_set hm with hm | rfl
    · exact h3 u hm x hx
    · rcases List.mem_or_eq_of_mem_set hx with hx | rfl
      · exact h3 _ (List.mem_of_getElem? hu) x hx
      · rfl
  · rw [List.getElem?_set_self hi, Option.some.injEq] at hj
    subst hj
    obtain ⟨h5, h6⟩ := h4 _ hu
    refine ⟨?_, by simp; omega⟩
    show (hs.set k _).take (k + 1) = _
    rw [mks_succ, ← h5, List.take_add_one, List.getElem?_set_self hk, List.take_set_of_le (Nat.le_refl _)]
    rfl
theorem Wr.next {us0 us : List Ow} {i k : Nat} {u : Ow} (h : Wr us0 us i k) (hu : us[i]? = some u) (hk : ¬ k < u.hs.length) : Wr us0 us (i + 1) 0 := by
  obtain ⟨h1, h2, h3, h4⟩ := h
  refine ⟨h1, fun j u' hj hji => ?_, h3, fun u' _ => ⟨rfl, Nat.zero_le _⟩⟩
  by_cases hjj : j < i
  · exact h2 j u' hj hjj
  · obtain rfl : j = i := by omega
    rw [hu, Option.some.injEq] at hj
    subst hj
    obtain ⟨h5, h6⟩ := h4 _ hu
    have : k = u.hs.length := by omega
    subst this
    rw [List.take_length] at h5
    exact h5
theorem Wr.at_ {us0 us : List Ow} {i k j : Nat} {u : Ow} (h : Wr us0 us i k) (hu : us[j]? = some u) : (us0.map Ow.val)[j]? = some (.slice u.b u.hs.length u.c) := by rw [← h.1, List.getElem?_map, hu]; rfl
theorem Wr.len {us0 us : List Ow} {i k : Nat} (h : Wr us0 us i k) : us.length = us0.length := by have := congrArg List.length h.1; simpa using this
/-- One that has grown. -/
structure Gr where
  ob : Option Addr
  oc : Nat
  old : List (List Int)
  v : Value
  hs : List (List Int)
def Gr.oval (g : Gr) : Value := .slice g.ob g.old.length g.oc
def Gr.res (g : Gr) : HP := pair 23 32 g.oval g.old.length (flat .u8 g.old) g.v g.hs.length (flat .u8 g.hs)
def Gr.of (u : Ow) : Gr := ⟨u.b, u.c, u.hs, u.val, u.hs⟩
def cnt (i k j : Nat) : Nat := if j < i then k + 1 else k
def Gw (us0 : List Ow) (gs : List Gr) (k i : Nat) : Prop := gs.map Gr.oval = us0.map Ow.val ∧ ∀ (j : Nat) (g : Gr), gs[j]? = some g → g.old = mks ((j : Int) + 1) g.old.length ∧ g.hs = g.old ++ mks ((j : Int) + 101) (cnt i k j)
theorem Gw.start {us0 us : List Ow} (h : Wr us0 us us0.length 0) : Gw us0 (us.map Gr.of) 0 0 := by
  refine ⟨by rw [← h.1, List.map_map]; rfl, fun j g hj => ?_⟩
  rw [List.getElem?_map] at hj
  obtain ⟨u, hu, rfl⟩ := Option.map_eq_some_iff.1 hj
  refine ⟨h.2.1 j u hu (by rw [← h.len]; exact (List.getElem?_eq_some_iff.1 hu).1), ?_⟩
  show u.hs = u.hs ++ mks _ (cnt 0 0 j)
  unfold cnt; rw [if_neg (by omega)]; simp [mks]
theorem Gw.step {us0 : List Ow} {gs : List Gr} {k i oc : Nat} {ob : Option Addr} {old hs : List (List Int)} {v v' : Value} (h : Gw us0 gs k i) (hg : gs[i]? = some ⟨ob, oc, old, v, hs⟩) : Gw us0 (gs.set i ⟨ob, oc, old, v', hs ++ [mk1 ((i : Int) + 101) k]⟩) k (i + 1) := by
  have hi := (List.getElem?_eq_some_iff.1 hg).1
  refine ⟨?_, fun j g hj => ?_⟩
  · rw [List.map_set, ← h.1]
    apply List.ext_getElem?
    intro j
    rw [List.getElem?_set]
    split
    · rename_i e
      subst e
      rw [List.getElem?_map, hg, if_pos (by rw [List.length_map]; exact hi)]
      rfl
    · rfl
  · by_cases e : j = i
    · subst e
      rw [List.getElem?_set_self hi, Option.some.injEq] at hj
      subst hj
      obtain ⟨h1, h2⟩ := h.2 _ _ hg
      refine ⟨h1, ?_⟩
      have h2 : hs = old ++ mks ((j : Int) + 101) (cnt j k j) := h2
      show hs ++ _ = old ++ _
      rw [h2, List.append_assoc]
      unfold cnt
      rw [if_neg (by omega), if_pos (by omega), mks_succ]
    · rw [List.getElem?_set_ne (Ne.symm e)] at hj
      obtain ⟨h1, h2⟩ := h.2 _ _ hj
      refine ⟨h1, ?_⟩
      rw [h2]
      have : cnt i k j = cnt (i + 1) k j := by unfold cnt; split <;> split <;> omega
      rw [this]
theorem Gw.next {us0 : List Ow} {gs : List Gr} {k : Nat} (h : Gw us0 gs k us0.length) : Gw us0 gs (k + 1) 0 := by
  refine ⟨h.1, fun j g hj => ?_⟩
  obtain ⟨h1, h2⟩ := h.2 _ _ hj
  refine ⟨h1, ?_⟩
  rw [h2]
  have hl : gs.length = us0.length := by have := congrArg List.length h.1; simpa using this
  have hj := (List.getElem?_eq_some_iff.1 hj).1
  have : cnt us0.length k j = cnt 0 (k + 1) j := by unfold cnt; split <;> split <;> omega
  rw [this]
theorem Gw.at_ {us0 : List Ow} {gs : List Gr} {k i j : Nat} {g : Gr} (h : Gw us0 gs k i) (hg : gs[j]? = some g) : (us0.map Ow.val)[j]? = some (.slice g.ob g.old.length g.oc) := by rw [← h.1, List.getElem?_map, hg]; rfl
theorem Gw.len {us0 : List Ow} {gs : List Gr} {k i : Nat} (h : Gw us0 gs k i) : gs.length = us0.length := by have := congrArg List.length h.1; simpa using this
theorem Gw.small {us0 : List Ow} {gs : List Gr} {k i j : Nat} {g : Gr} (h : Gw us0 gs k i) (hs : ∀ u ∈ us0, u.hs.length ≤ 65536) (hg : gs[j]? = some g) : g.old.length ≤ 65536 ∧ g.hs.length ≤ g.old.length + (k + 1) := by
  have h1 := h.at_ hg
  rw [List.getElem?_map] at h1
  obtain ⟨u, hu, e⟩ := Option.map_eq_some_iff.1 h1
  have := hs u (List.mem_of_getElem? hu)
  simp only [Ow.val, Value.slice.injEq] at e
  refine ⟨by omega, ?_⟩
  rw [(h.2 _ _ hg).2, List.length_append, mks_length]
  unfold cnt; split <;> omega
set_option maxHeartbeats 2000000 in
theorem digestFresh_walk {gl : Nat → Obj} (hG : GlobsR gl) (base : Option Addr) (c : Nat) (vs : List Value) (xss : List (List Int)) (hvx : vs.length = xss.length) (hc : vs.length ≤ c) (hmax : vs.length ≤ 70368744177664) (at_ ot : Int) : SpecV (cx gl) 9 [.slice base vs.length c, .int .i64 at_, .int .i64 ot] (fun w => Items w base vs xss) (.bool true) := by
  refine Spec.enter (C := cx gl) Tryd.func9 rfl 208 rfl rfl fun w0 h0 hsep hsub hpre => ?_
  obtain rfl : h0 = Heap.none := hsep
  show St (cx gl) _ [(0, .slice base vs.length c), (1, .int .i64 at_), (2, .int .i64 ot)] _ _
  refine R_seq ?_
  refine R_region ?_
  refine L_val rfl rfl rfl (OpP.v (P_assign rfl rfl)) ?_
  refine L_nil ?_
  refine Q_then ?_
  refine R_seq ?_
  refine R_region ?_
  refine L_op rfl (W_callV rfl rfl rfl rfl fn_ca_20 (alive_ok hG.toGlobs) (fun _ _ => trivial) ?_)
  refine E_true (t := 30) rfl (rfl) ?_
  refine L_val rfl rfl rfl (OpP.v (P_assign rfl rfl)) ?_
  refine L_nil ?_
  refine St.env (.cons (t := 0) rfl (.cons (t := 1) rfl (.cons (t := 2) rfl (.cons (t := 6) rfl (.cons (t := 7) rfl .nil))))) ?_
  refine Q_then ?_
  refine R_seq ?_
  refine R_seq ?_
  refine R_region ?_
  refine L_val rfl rfl rfl (OpP.v (P_move rfl rfl)) ?_
  refine L_val rfl rfl rfl (OpP.v (P_not rfl rfl)) ?_
  refine L_nil ?_
  refine St.env (.cons (t := 0) rfl (.cons (t := 1) rfl (.cons (t := 2) rfl (.cons (t := 6) rfl (.cons (t := 32) rfl .nil))))) ?_
  refine Q_then ?_
  refine R_condF rfl ?_
  refine R_skip ?_
  refine Q_then ?_
  refine R_seq ?_
  refine R_region ?_
  refine L_val rfl rfl rfl (OpP.v (P_move rfl rfl)) ?_
  refine L_val rfl rfl rfl (OpP.v (P_move rfl rfl)) ?_
  refine L_op rfl (W_call rfl rfl rfl rfl fn_ca_33 (prove_ok hG.toGlobs base c vs xss at_ hvx hc hmax) (Split.nil _) (fun w a b _ hb dj m => Items.row hpre rfl w ⟨_, hb, m.le (Heap.le_join_right dj)⟩) fun v36 rs1 ⟨u1, e1, e2⟩ => ?_)
  subst e1; subst e2
  refine St.ownForm (p := []) fun ub1 uc1 he1 huc1 => ?_
  subst he1
  refine L_val rfl rfl rfl (OpP.v (P_move rfl rfl)) ?_
  refine L_val rfl rfl rfl (OpP.v (P_extract rfl rfl rfl)) ?_
  refine L_val rfl rfl rfl (OpP.v (P_extract rfl rfl rfl)) ?_
  refine L_op rfl (W_alloc rfl rfl rfl ty_ze_57 fun b8 => ?_)
  refine L_op rfl (W_storeAll rfl rfl rfl rfl ty_ag_57 (rfl) (by intro v hv; simp at hv; rcases hv with rfl | rfl | rfl <;> rfl) .h0 (rfl) ?_)
  refine L_val rfl rfl rfl (OpP.v (P_assign rfl rfl)) ?_
  refine L_nil ?_
  refine St.env (.cons (t := 0) rfl (.cons (t := 1) rfl (.cons (t := 2) rfl (.cons (t := 6) rfl (.cons (t := 8) rfl (.cons (t := 9) rfl .nil)))))) ?_
  refine Q_then ?_
  refine R_seq ?_
  refine R_region ?_
  refine L_val rfl rfl rfl (OpP.v (P_move rfl rfl)) ?_
  refine L_val rfl rfl rfl (OpP.v (P_move rfl rfl)) ?_
  refine L_op rfl (W_call rfl rfl rfl rfl fn_ca_33 (prove_ok hG.toGlobs base c vs xss at_ hvx hc hmax) (Split.nil _) (fun w a b _ hb dj m => Items.row hpre rfl w ⟨_, hb, m.le (Heap.le_join_right dj)⟩) fun v42 rs1 ⟨u2, e1, e2⟩ => ?_)
  subst e1; subst e2
  refine St.ownForm (p := []) fun ub2 uc2 he2 huc2 => ?_
  subst he2
  refine L_val rfl rfl rfl (OpP.v (P_move rfl rfl)) ?_
  refine L_val rfl rfl rfl (OpP.v (P_extract rfl rfl rfl)) ?_
  refine L_val rfl rfl rfl (OpP.v (P_extract rfl rfl rfl)) ?_
  refine L_op rfl (W_alloc rfl rfl rfl ty_ze_57 fun b10 => ?_)
  refine L_op rfl (W_storeAll rfl rfl rfl rfl ty_ag_57 (rfl) (by intro v hv; simp at hv; rcases hv with rfl | rfl | rfl <;> rfl) .h0 (rfl) ?_)
  refine L_val rfl rfl rfl (OpP.v (P_assign rfl rfl)) ?_
  refine L_nil ?_
  refine St.env (.cons (t := 0) rfl (.cons (t := 1) rfl (.cons (t := 2) rfl (.cons (t := 6) rfl (.cons (t := 8) rfl (.cons (t := 9) rfl (.cons (t := 10) rfl .nil))))))) ?_
  refine Q_then ?_
  refine R_seq ?_
  refine R_region ?_
  refine L_val rfl rfl rfl (OpP.v (P_move rfl rfl)) ?_
  refine L_val rfl rfl rfl (OpP.v (P_move rfl rfl)) ?_
  refine L_op rfl (W_call rfl rfl rfl rfl fn_ca_33 (prove_ok hG.toGlobs base c vs xss ot hvx hc hmax) (Split.nil _) (fun w a b _ hb dj m => Items.row hpre rfl w ⟨_, hb, m.le (Heap.le_join_right dj)⟩) fun v48 rs1 ⟨u3, e1, e2⟩ => ?_)
  subst e1; subst e2
  refine St.ownForm (p := []) fun ub3 uc3 he3 huc3 => ?_
  subst he3
  refine L_val rfl rfl rfl (OpP.v (P_move rfl rfl)) ?_
  refine L_val rfl rfl rfl (OpP.v (P_extract rfl rfl rfl)) ?_
  refine L_val rfl rfl rfl (OpP.v (P_extract rfl rfl rfl)) ?_
  refine L_op rfl (W_alloc rfl rfl rfl ty_ze_57 fun b12 => ?_)
  refine L_op rfl (W_storeAll rfl rfl rfl rfl ty_ag_57 (rfl) (by intro v hv; simp at hv; rcases hv with rfl | rfl | rfl <;> rfl) .h0 (rfl) ?_)
  refine L_val rfl rfl rfl (OpP.v (P_assign rfl rfl)) ?_
  refine L_nil ?_
  refine St.env (.cons (t := 0) rfl (.cons (t := 1) rfl (.cons (t := 2) rfl (.cons (t := 6) rfl (.cons (t := 8) rfl (.cons (t := 9) rfl (.cons (t := 10) rfl (.cons (t := 12) rfl .nil)))))))) ?_
  refine Q_then ?_
  refine R_seq ?_
  refine R_region ?_
  refine L_val rfl rfl rfl (OpP.v (P_move rfl rfl)) ?_
  refine L_val rfl rfl rfl (OpP.v (P_move rfl rfl)) ?_
  refine L_op rfl (W_call rfl rfl rfl rfl fn_ca_34 (rprove_ok hG base c vs xss at_ hvx hc hmax) (Split.nil _) (fun w a b _ hb dj m => Items.row hpre rfl w ⟨_, hb, m.le (Heap.le_join_right dj)⟩) fun v54 rs1 ⟨u4, e1, e2⟩ => ?_)
  subst e1; subst e2
  refine St.ownForm (p := []) fun ub4 uc4 he4 huc4 => ?_
  subst he4
  refine L_val rfl rfl rfl (OpP.v (P_move rfl rfl)) ?_
  refine L_val rfl rfl rfl (OpP.v (P_extract rfl rfl rfl)) ?_
  refine L_val rfl rfl rfl (OpP.v (P_extract rfl rfl rfl)) ?_
  refine L_op rfl (W_alloc rfl rfl rfl ty_ze_57 fun b14 => ?_)
  refine L_op rfl (W_storeAll rfl rfl rfl rfl ty_ag_57 (rfl) (by intro v hv; simp at hv; rcases hv with rfl | rfl | rfl <;> rfl) .h0 (rfl) ?_)
  refine L_val rfl rfl rfl (OpP.v (P_assign rfl rfl)) ?_
  refine L_nil ?_
  refine St.env (.cons (t := 0) rfl (.cons (t := 1) rfl (.cons (t := 2) rfl (.cons (t := 6) rfl (.cons (t := 8) rfl (.cons (t := 9) rfl (.cons (t := 10) rfl (.cons (t := 12) rfl (.cons (t := 14) rfl (.cons (t := 15) rfl .nil)))))))))) ?_
  refine Q_then ?_
  refine R_seq ?_
  refine R_region ?_
  refine L_val rfl rfl rfl (OpP.v (P_move rfl rfl)) ?_
  refine L_val rfl rfl rfl (OpP.v (P_move rfl rfl)) ?_
  refine L_op rfl (W_call rfl rfl rfl rfl fn_ca_34 (rprove_ok hG base c vs xss ot hvx hc hmax) (Split.nil _) (fun w a b _ hb dj m => Items.row hpre rfl w ⟨_, hb, m.le (Heap.le_join_right dj)⟩) fun v60 rs1 ⟨u5, e1, e2⟩ => ?_)
  subst e1; subst e2
  refine St.ownForm (p := []) fun ub5 uc5 he5 huc5 => ?_
  subst he5
  refine L_val rfl rfl rfl (OpP.v (P_move rfl rfl)) ?_
  refine L_val rfl rfl rfl (OpP.v (P_extract rfl rfl rfl)) ?_
  refine L_val rfl rfl rfl (OpP.v (P_extract rfl rfl rfl)) ?_
  refine L_op rfl (W_alloc rfl rfl rfl ty_ze_57 fun b16 => ?_)
  refine L_op rfl (W_storeAll rfl rfl rfl rfl ty_ag_57 (rfl) (by intro v hv; simp at hv; rcases hv with rfl | rfl | rfl <;> rfl) .h0 (rfl) ?_)
  refine L_val rfl rfl rfl (OpP.v (P_assign rfl rfl)) ?_
  refine L_nil ?_
  refine St.env (.cons (t := 0) rfl (.cons (t := 1) rfl (.cons (t := 6) rfl (.cons (t := 8) rfl (.cons (t := 9) rfl (.cons (t := 10) rfl (.cons (t := 12) rfl (.cons (t := 14) rfl (.cons (t := 15) rfl (.cons (t := 16) rfl .nil)))))))))) ?_
  refine Q_then ?_
  refine R_seq ?_
  refine R_seq ?_
  refine R_region ?_
  refine L_val rfl rfl rfl (OpP.v (P_move rfl rfl)) ?_
  refine L_val rfl rfl rfl (OpP.v (P_move rfl rfl)) ?_
  refine L_val rfl rfl rfl (OpP.v (P_neq rfl rfl rfl)) ?_
  refine E_false (t := 65) rfl (decide_eq_false (by simp)) ?_
  refine L_val rfl rfl rfl (OpP.v (P_move rfl rfl)) ?_
  refine L_val rfl rfl rfl (V_loadAgg rfl rfl ty_ag_57 (Rds.blk .h8) (rfl)) ?_
  refine L_val rfl rfl rfl (V_loadAgg rfl rfl ty_ag_57 (Rds.blk .h2) (rfl)) ?_
  refine L_op rfl (W_callV rfl rfl rfl rfl fn_ca_32 (same_ok (proveT xss at_) (proveI xss at_) ub1 uc1 ub4 uc4 (proveA xss at_) (proveA_len xss at_) (by have := proveA_small xss at_; omega)) (fun w nw => ⟨(Sn.own .h9 rfl).rw_ w nw, (Sn.own .h3 rfl).rw_ w nw⟩) ?_)
  refine E_true (t := 69) rfl (rfl) ?_
  refine L_val rfl rfl rfl (OpP.v (P_not rfl rfl)) ?_
  refine L_val rfl rfl rfl (OpP.v (P_pick rfl rfl rfl)) ?_
  refine L_val rfl rfl rfl (OpP.v (P_move rfl rfl)) ?_
  refine L_val rfl rfl rfl (V_loadAgg rfl rfl ty_ag_57 (Rds.blk .h6) (rfl)) ?_
  refine L_val rfl rfl rfl (V_loadAgg rfl rfl ty_ag_57 (Rds.blk .h2) (rfl)) ?_
  refine L_op rfl (W_callV rfl rfl rfl rfl fn_ca_32 (same_ok (proveT xss at_) (proveI xss at_) ub2 uc2 ub4 uc4 (proveA xss at_) (proveA_len xss at_) (by have := proveA_small xss at_; omega)) (fun w nw => ⟨(Sn.own .h7 rfl).rw_ w nw, (Sn.own .h3 rfl).rw_ w nw⟩) ?_)
  refine E_true (t := 75) rfl (rfl) ?_
  refine L_val rfl rfl rfl (OpP.v (P_not rfl rfl)) ?_
  refine L_val rfl rfl rfl (OpP.v (P_pick rfl rfl rfl)) ?_
  refine L_val rfl rfl rfl (OpP.v (P_move rfl rfl)) ?_
  refine L_val rfl rfl rfl (V_loadAgg rfl rfl ty_ag_57 (Rds.blk .h4) (rfl)) ?_
  refine L_val rfl rfl rfl (V_loadAgg rfl rfl ty_ag_57 (Rds.blk .h0) (rfl)) ?_
  refine L_op rfl (W_callV rfl rfl rfl rfl fn_ca_32 (same_ok (proveT xss ot) (proveI xss ot) ub3 uc3 ub5 uc5 (proveA xss ot) (proveA_len xss ot) (by have := proveA_small xss ot; omega)) (fun w nw => ⟨(Sn.own .h5 rfl).rw_ w nw, (Sn.own .h1 rfl).rw_ w nw⟩) ?_)
  refine E_true (t := 81) rfl (rfl) ?_
  refine L_val rfl rfl rfl (OpP.v (P_not rfl rfl)) ?_
  refine L_val rfl rfl rfl (OpP.v (P_pick rfl rfl rfl)) ?_
  refine L_nil ?_
  refine St.env (.cons (t := 0) rfl (.cons (t := 1) rfl (.cons (t := 6) rfl (.cons (t := 8) rfl (.cons (t := 10) rfl (.cons (t := 12) rfl (.cons (t := 14) rfl (.cons (t := 15) rfl (.cons (t := 83) rfl .nil))))))))) ?_
  refine Q_then ?_
  refine R_condF rfl ?_
  refine R_skip ?_
  refine Q_then ?_
  refine R_seq ?_
  refine R_region ?_
  refine L_val rfl rfl rfl (OpP.v (P_fld0 rfl ty_fl_57_2 rfl)) ?_
  refine L_val rfl rfl rfl (V_load rfl rfl ty_sc_55 (Rd.blk .h8 rfl)) ?_
  refine L_val rfl rfl rfl (OpP.v (P_fld0 rfl ty_fl_57_2 rfl)) ?_
  refine L_val rfl rfl rfl (V_load rfl rfl ty_sc_55 (Rd.blk .h6 rfl)) ?_
  refine L_val rfl rfl rfl (OpP.v (P_fld0 rfl ty_fl_57_2 rfl)) ?_
  refine L_val rfl rfl rfl (V_load rfl rfl ty_sc_55 (Rd.blk .h4 rfl)) ?_
  refine L_op rfl (W_lit (z := .nilIface) ([Ow.mk ub1 uc1 (proveA xss at_), Ow.mk ub2 uc2 (proveA xss at_), Ow.mk ub3 uc3 (proveA xss ot)].map Ow.val) rfl rfl rfl ty_sl_64 ty_lz_64 rfl rfl rfl (by decide) (by decide) (by simp [Value.cells]) (rfl) fun b90 => ?_)
  refine L_val rfl rfl rfl (OpP.v (P_assign rfl rfl)) ?_
  refine L_nil ?_
  refine St.env (.cons (t := 0) rfl (.cons (t := 1) rfl (.cons (t := 6) rfl (.cons (t := 8) rfl (.cons (t := 10) rfl (.cons (t := 12) rfl (.cons (t := 14) rfl (.cons (t := 15) rfl (.cons (t := 18) rfl .nil))))))))) ?_
  refine Q_then ?_
  refine R_seq ?_
  refine R_region ?_
  refine L_val rfl rfl rfl (OpP.v (P_fld0 rfl ty_fl_57_2 rfl)) ?_
  refine L_val rfl rfl rfl (V_load rfl rfl ty_sc_55 (Rd.blk .h9 rfl)) ?_
  refine L_val rfl rfl rfl (OpP.v (P_fld0 rfl ty_fl_57_2 rfl)) ?_
  refine L_val rfl rfl rfl (V_load rfl rfl ty_sc_55 (Rd.blk .h7 rfl)) ?_
  refine L_val rfl rfl rfl (OpP.v (P_fld0 rfl ty_fl_57_2 rfl)) ?_
  refine L_val rfl rfl rfl (V_load rfl rfl ty_sc_55 (Rd.blk .h5 rfl)) ?_
  refine L_op rfl (W_lit (z := .nilIface) ([Ow.mk ub1 uc1 (proveA xss at_), Ow.mk ub2 uc2 (proveA xss at_), Ow.mk ub3 uc3 (proveA xss ot)].map Ow.val) rfl rfl rfl ty_sl_64 ty_lz_64 rfl rfl rfl (by decide) (by decide) (by simp [Value.cells]) (rfl) fun b97 => ?_)
  refine St.res (Weak.pick (p := [_, _, _, _, _, _, _]) (Weak.pick (p := [_, _, _, _, _, _, _, _]) (Weak.pick (p := [_, _, _, _, _, _, _, _, _]) (Weak.keep (Weak.keep (Weak.pick (p := [_, _]) (Weak.pick (p := [_, _]) (Weak.nil _)))))))) ?_
  refine St.res (rs' := [Ow.own (Ow.mk ub3 uc3 (proveA xss ot)), Ow.own (Ow.mk ub2 uc2 (proveA xss at_)), Ow.own (Ow.mk ub1 uc1 (proveA xss at_)), _, _, _, _]) (Weak.refl _) ?_
  refine St.res (Weak.trans (Weak.keep (Weak.keep Weak.famOne)) (Weak.trans (Weak.keep Weak.famAdd) Weak.famAdd)) ?_
  obtain ⟨us0, hus⟩ : ∃ us0, [Ow.mk ub1 uc1 (proveA xss at_), Ow.mk ub2 uc2 (proveA xss at_), Ow.mk ub3 uc3 (proveA xss ot)] = us0 := ⟨_, rfl⟩
  show St (cx gl) _ _ [fam Ow.own [Ow.mk ub1 uc1 (proveA xss at_), Ow.mk ub2 uc2 (proveA xss at_), Ow.mk ub3 uc3 (proveA xss ot)], blk b97 ([Ow.mk ub1 uc1 (proveA xss at_), Ow.mk ub2 uc2 (proveA xss at_), Ow.mk ub3 uc3 (proveA xss ot)].map Ow.val) 55, blk b90 ([Ow.mk ub1 uc1 (proveA xss at_), Ow.mk ub2 uc2 (proveA xss at_), Ow.mk ub3 uc3 (proveA xss ot)].map Ow.val) 55, _, _] _
  rw [hus]
  have hu3 : us0.length = 3 := by rw [← hus]; rfl
  have husm : ∀ u ∈ us0, u.hs.length ≤ 65536 := by rw [← hus]; intro u hu; simp only [List.mem_cons, List.not_mem_nil, or_false] at hu; rcases hu with rfl | rfl | rfl <;> exact proveA_small _ _
  have hul : ∀ u ∈ us0, ∀ h ∈ u.hs, h.length = 32 := by rw [← hus]; intro u hu; simp only [List.mem_cons, List.not_mem_nil, or_false] at hu; rcases hu with rfl | rfl | rfl <;> exact proveA_len _ _
  refine L_val rfl rfl rfl (OpP.v (P_assign rfl rfl)) ?_
  refine L_nil ?_
  refine St.env (.cons (t := 0) rfl (.cons (t := 1) rfl (.cons (t := 6) rfl (.cons (t := 14) rfl (.cons (t := 15) rfl (.cons (t := 18) rfl (.cons (t := 19) rfl .nil))))))) ?_
  refine Q_then ?_
  refine R_seq ?_
  refine R_seq ?_
  refine R_region ?_
  refine L_val rfl rfl rfl (OpP.v (P_assign rfl rfl)) ?_
  refine L_nil ?_
  refine Q_then ?_
  refine R_block ?_
  refine R_loopE (G := Nat × List Ow) (.cons (t := 0) rfl (.cons (t := 1) rfl (.cons (t := 6) rfl (.cons (t := 14) rfl (.cons (t := 15) rfl (.cons (t := 18) rfl (.cons (t := 19) rfl .nil))))))) (fun g => [(20, .int .i64 (g.1 : Int))]) (fun g => [fam Ow.own g.2, blk b97 (us0.map Ow.val) 55, blk b90 (us0.map Ow.val) 55, blk b14 [.int .i64 (proveT xss at_), .int .i64 (proveI xss at_), .slice ub4 (proveA xss at_).length uc4] 57, ownS 23 32 (.slice ub4 (proveA xss at_).length uc4) (proveA xss at_).length (flat .u8 (proveA xss at_))]) (fun g => Wr us0 g.2 g.1 0 ∧ g.1 ≤ 3) (fun g => 3 - g.1) (0, us0) (⟨Wr.start hul, by omega⟩) (by repeat (first | exact .nil | refine .cons rfl ?_ | refine .consE rfl (by first | rfl | (congr 1; omega) | (congr 1; push_cast; omega)) ?_)) (Weak.refl _) ?_
  rintro ⟨i, us⟩ hinv
  replace hinv : Wr us0 us i 0 ∧ i ≤ 3 := hinv
  show St (cx gl) _ ((20, .int .i64 (i : Int)) :: _) [fam Ow.own us, blk b97 (us0.map Ow.val) 55, blk b90 (us0.map Ow.val) 55, blk b14 [.int .i64 (proveT xss at_), .int .i64 (proveI xss at_), .slice ub4 (proveA xss at_).length uc4] 57, ownS 23 32 (.slice ub4 (proveA xss at_).length uc4) (proveA xss at_).length (flat .u8 (proveA xss at_))] _
  obtain ⟨hw, hi3⟩ := hinv
  refine R_seq ?_
  refine R_seq ?_
  refine R_region ?_
  refine L_val rfl rfl rfl (OpP.v (P_move rfl rfl)) ?_
  refine L_val rfl rfl rfl (OpP.v (P_lss rfl rfl rfl)) ?_
  refine L_nil ?_
  refine Q_then ?_
  refine R_condP rfl (fun hi => ?_) (fun hi => ?_)
  · skip
    refine R_skip ?_
    refine Q_then ?_
    refine R_seq ?_
    refine R_block ?_
    refine R_seq ?_
    refine R_region ?_
    refine L_val rfl rfl rfl (OpP.v (P_assign rfl rfl)) ?_
    refine L_nil ?_
    refine Q_then ?_
    refine R_block ?_
    refine R_loopE (G := Nat × List Ow) (.cons (t := 0) rfl (.cons (t := 1) rfl (.cons (t := 6) rfl (.cons (t := 14) rfl (.cons (t := 15) rfl (.cons (t := 18) rfl (.cons (t := 19) rfl (.cons (t := 20) rfl (.cons (t := 98) rfl (.cons (t := 99) rfl .nil)))))))))) (fun g => [(21, .int .i64 (g.1 : Int))]) (fun g => [fam Ow.own g.2, blk b97 (us0.map Ow.val) 55, blk b90 (us0.map Ow.val) 55, blk b14 [.int .i64 (proveT xss at_), .int .i64 (proveI xss at_), .slice ub4 (proveA xss at_).length uc4] 57, ownS 23 32 (.slice ub4 (proveA xss at_).length uc4) (proveA xss at_).length (flat .u8 (proveA xss at_))]) (fun g => Wr us0 g.2 i g.1) (fun g => ((us0[i]?).map fun u => u.hs.length).getD 0 - g.1) (0, us) (hw) (by repeat (first | exact .nil | refine .cons rfl ?_ | refine .consE rfl (by first | rfl | (congr 1; omega) | (congr 1; push_cast; omega)) ?_)) (Weak.refl _) ?_
    rintro ⟨k, us1⟩ hinv
    replace hinv : Wr us0 us1 i k := hinv
    show St (cx gl) _ ((21, .int .i64 (k : Int)) :: _) [fam Ow.own us1, blk b97 (us0.map Ow.val) 55, blk b90 (us0.map Ow.val) 55, blk b14 [.int .i64 (proveT xss at_), .int .i64 (proveI xss at_), .slice ub4 (proveA xss at_).length uc4] 57, ownS 23 32 (.slice ub4 (proveA xss at_).length uc4) (proveA xss at_).length (flat .u8 (proveA xss at_))] _
    have hw1 := hinv
    obtain ⟨u, hu⟩ : ∃ u, us1[i]? = some u := ⟨_, List.getElem?_eq_getElem (by have := hw1.len; omega)⟩
    have hvi := hw1.at_ hu
    refine R_seq ?_
    refine R_seq ?_
    refine R_region ?_
    refine L_val rfl rfl rfl (OpP.v (P_move rfl rfl)) ?_
    refine L_val rfl rfl rfl (OpP.v (P_move rfl rfl)) ?_
    refine L_val rfl rfl rfl (OpP.v (P_move rfl rfl)) ?_
    refine L_val rfl rfl rfl (OpP.v (P_ixs (i) rfl ty_sl_64 rfl rfl (by first | rfl | omega) (by omega))) ?_
    refine L_val rfl rfl rfl (V_load rfl rfl ty_sc_55 (rd_blk1 .h2 hvi)) ?_
    refine L_val rfl rfl rfl (OpP.v (P_len rfl ty_sl_55 rfl)) ?_
    refine L_val rfl rfl rfl (OpP.v (P_lss rfl rfl rfl)) ?_
    refine L_nil ?_
    refine Q_then ?_
    refine R_condP rfl (fun hk => ?_) (fun hk => ?_)
    · skip
      obtain ⟨ub, uc, uh⟩ := u
      have hk : (k : Int) < (uh.length : Int) := hk
      refine St.res (Weak.famOpen hu) ?_
      refine St.hasFact .h0 (p := ∃ b, ub = some ⟨b, 0, none⟩) (fun h hh => ?_) ?_
      · rcases hh.2 with ⟨_, h0, _⟩ | ⟨b, cap, junk, e, _⟩
        · have h0 : uh.length = 0 := h0
          omega
        · simp only [Ow.val, Value.slice.injEq] at e; exact ⟨b, e.1⟩
      rintro ⟨ob, rfl⟩
      obtain ⟨oc2, hoc⟩ : ∃ x, x = uc := ⟨_, rfl⟩
      subst hoc
      have hl32 := hw1.2.2.1 _ (List.mem_of_getElem? hu)
      have hsm : uh.length ≤ 65536 := by have h2 := hw1.at_ hu; rw [List.getElem?_map] at h2; obtain ⟨u2, hu2, e2⟩ := Option.map_eq_some_iff.1 h2; have := husm u2 (List.mem_of_getElem? hu2); simp only [Ow.val, Value.slice.injEq] at e2; omega
      refine R_skip ?_
      refine Q_then ?_
      refine R_seq ?_
      refine R_block ?_
      refine R_region ?_
      refine L_val rfl rfl rfl (OpP.v (P_move rfl rfl)) ?_
      refine L_val rfl rfl rfl (OpP.v (P_move rfl rfl)) ?_
      refine L_val rfl rfl rfl (OpP.v (P_ixs (i) rfl ty_sl_64 rfl rfl (by first | rfl | omega) (by omega))) ?_
      refine L_val rfl rfl rfl (V_load rfl rfl ty_sc_55 (rd_blk1 .h4 hvi)) ?_
      refine L_val rfl rfl rfl (OpP.v (P_move rfl rfl)) ?_
      refine L_val rfl rfl rfl (OpP.v (P_move rfl rfl)) ?_
      first | (refine L_val rfl rfl rfl (OpP.v (P_addN rfl rfl rfl (by simp only [fits]; omega))) ?_) | (refine L_val rfl rfl rfl (OpP.v (P_add rfl rfl rfl)) ?_)
      refine L_val rfl rfl rfl (OpP.v (P_conv rfl ty_int_3 ty_int_5 rfl)) ?_
      refine L_val rfl rfl rfl (OpP.v (P_move rfl rfl)) ?_
      refine L_val rfl rfl rfl (OpP.v (P_conv rfl ty_int_3 ty_int_5 rfl)) ?_
      refine L_val rfl rfl rfl (OpP.v (P_buildArrR rfl ty_ar_23 ty_ze_23 rfl rfl rfl (by first | decide | (simp only [List.length_cons, List.length_nil]; omega)) (by simp [Value.oneCell']))) ?_
      refine E_as (t := 121) (v' := .agg (ints .u8 (mk1 ((i : Int) + 1) k)).toArray) rfl rfl ?_
      refine L_val rfl rfl rfl (OpP.v (P_ixs (k) rfl ty_sl_55 rfl rfl (by first | rfl | omega) (by omega))) ?_
      refine L_op rfl (W_storeOwn (T := 23) (sz := 32) (n := uh.length) (c := oc2) (vs := ints .u8 (mk1 ((i : Int) + 1) k)) (cs := flat .u8 uh) rfl rfl rfl rfl ty_ag_23 rfl ints_one .h0 (by rw [flat_length hl32, ints_length, mk1_length]; have := Nat.mul_le_mul_right 32 (show k + 1 ≤ uh.length by omega); rw [Nat.add_mul] at this; omega) ?_)
      refine St.res (rs' := [Ow.own (Ow.mk (some ⟨ob, 0, none⟩) oc2 (uh.set k (mk1 ((i : Int) + 1) k))), fam Ow.own (us1.take i), fam Ow.own (us1.drop (i + 1)), blk b97 (us0.map Ow.val) 55, blk b90 (us0.map Ow.val) 55, blk b14 [.int .i64 (proveT xss at_), .int .i64 (proveI xss at_), .slice ub4 (proveA xss at_).length uc4] 57, ownS 23 32 (.slice ub4 (proveA xss at_).length uc4) (proveA xss at_).length (flat .u8 (proveA xss at_))]) (by unfold Ow.own Ow.val; rw [List.length_set, Nat.zero_add, flat_splice hl32 (by omega) rfl]; exact Weak.refl _) ?_
      refine St.res (Weak.famClose (by have := (List.getElem?_eq_some_iff.1 hu).1; exact this)) ?_
      refine L_nil ?_
      refine Q_block ?_
      refine Q_then ?_
      refine R_region ?_
      refine L_val rfl rfl rfl (OpP.v (P_move rfl rfl)) ?_
      first | (refine L_val rfl rfl rfl (OpP.v (P_addN rfl rfl rfl (by simp only [fits]; omega))) ?_) | (refine L_val rfl rfl rfl (OpP.v (P_add rfl rfl rfl)) ?_)
      refine L_val rfl rfl rfl (OpP.v (P_assign rfl rfl)) ?_
      refine L_nil ?_
      exact Q_round (k + 1, us1.set i (Ow.mk (some ⟨ob, 0, none⟩) oc2 (uh.set k (mk1 ((i : Int) + 1) k)))) (hw1.step hu (by omega)) (by show ((us0[i]?).map fun u => u.hs.length).getD 0 - (k + 1) < ((us0[i]?).map fun u => u.hs.length).getD 0 - k; have hq : ((us0[i]?).map fun u => u.hs.length).getD 0 = uh.length := (by have h2 := hw1.at_ hu; rw [List.getElem?_map] at h2; obtain ⟨u2, hu2, e2⟩ := Option.map_eq_some_iff.1 h2; rw [hu2]; simp only [Ow.val, Value.slice.injEq] at e2; exact e2.2.1); rw [hq]; omega) (by repeat (first | exact .nil | refine .cons rfl ?_ | refine .consE rfl (by first | rfl | (congr 1; omega) | (congr 1; push_cast; omega)) ?_)) (Weak.refl _)
    · skip
      refine R_exit ?_
      refine Q_then_exit ?_
      refine Q_then_exit ?_
      refine Q_block_eq ?_
      refine Q_block ?_
      refine Q_then ?_
      refine R_region ?_
      refine L_val rfl rfl rfl (OpP.v (P_move rfl rfl)) ?_
      first | (refine L_val rfl rfl rfl (OpP.v (P_addN rfl rfl rfl (by simp only [fits]; omega))) ?_) | (refine L_val rfl rfl rfl (OpP.v (P_add rfl rfl rfl)) ?_)
      refine L_val rfl rfl rfl (OpP.v (P_assign rfl rfl)) ?_
      refine L_nil ?_
      exact Q_round (i + 1, us1) (⟨hw1.next hu (by omega), by omega⟩) (by show 3 - (i + 1) < 3 - i; omega) (by repeat (first | exact .nil | refine .cons rfl ?_ | refine .consE rfl (by first | rfl | (congr 1; omega) | (congr 1; push_cast; omega)) ?_)) (Weak.refl _)
  · skip
    refine R_exit ?_
    refine Q_then_exit ?_
    refine Q_then_exit ?_
    refine Q_block_eq ?_
    refine St.env (.cons (t := 0) rfl (.cons (t := 1) rfl (.cons (t := 6) rfl (.cons (t := 14) rfl (.cons (t := 15) rfl (.cons (t := 18) rfl (.cons (t := 19) rfl .nil))))))) ?_
    refine Q_then ?_
    refine R_seq ?_
    refine R_seq ?_
    refine R_region ?_
    refine L_val rfl rfl rfl (OpP.v (P_assign rfl rfl)) ?_
    refine L_nil ?_
    refine Q_then ?_
    refine R_block ?_
    have hw3 : Wr us0 us us0.length 0 := by rw [hu3, show 3 = i by omega]; exact hw
    refine St.res (Weak.famMap (g := Gr.res) Gr.of (fun u _ h hh => pair_of_own hh)) ?_
    refine St.res (rs' := [fam Gr.res (us.map Gr.of), blk b97 ((us.map Gr.of).map Gr.v) 55, blk b90 (us0.map Ow.val) 55, blk b14 [.int .i64 (proveT xss at_), .int .i64 (proveI xss at_), .slice ub4 (proveA xss at_).length uc4] 57, ownS 23 32 (.slice ub4 (proveA xss at_).length uc4) (proveA xss at_).length (flat .u8 (proveA xss at_))]) (by rw [← hw3.1, List.map_map]; exact Weak.refl _) ?_
    refine R_loopE (G := Nat × List Gr) (.cons (t := 0) rfl (.cons (t := 1) rfl (.cons (t := 6) rfl (.cons (t := 14) rfl (.cons (t := 15) rfl (.cons (t := 18) rfl (.cons (t := 19) rfl .nil))))))) (fun g => [(22, .int .i64 (g.1 : Int))]) (fun g => [fam Gr.res g.2, blk b97 (g.2.map Gr.v) 55, blk b90 (us0.map Ow.val) 55, blk b14 [.int .i64 (proveT xss at_), .int .i64 (proveI xss at_), .slice ub4 (proveA xss at_).length uc4] 57, ownS 23 32 (.slice ub4 (proveA xss at_).length uc4) (proveA xss at_).length (flat .u8 (proveA xss at_))]) (fun g => Gw us0 g.2 g.1 0 ∧ g.1 ≤ 20) (fun g => 20 - g.1) (0, us.map Gr.of) (⟨Gw.start hw3, by omega⟩) (by repeat (first | exact .nil | refine .cons rfl ?_ | refine .consE rfl (by first | rfl | (congr 1; omega) | (congr 1; push_cast; omega)) ?_)) (Weak.refl _) ?_
    rintro ⟨k, gs⟩ hinv
    replace hinv : Gw us0 gs k 0 ∧ k ≤ 20 := hinv
    show St (cx gl) _ ((22, .int .i64 (k : Int)) :: _) [fam Gr.res gs, blk b97 (gs.map Gr.v) 55, blk b90 (us0.map Ow.val) 55, blk b14 [.int .i64 (proveT xss at_), .int .i64 (proveI xss at_), .slice ub4 (proveA xss at_).length uc4] 57, ownS 23 32 (.slice ub4 (proveA xss at_).length uc4) (proveA xss at_).length (flat .u8 (proveA xss at_))] _
    obtain ⟨hg, hk20⟩ := hinv
    refine R_seq ?_
    refine R_seq ?_
    refine R_region ?_
    refine L_val rfl rfl rfl (OpP.v (P_move rfl rfl)) ?_
    refine L_val rfl rfl rfl (OpP.v (P_lss rfl rfl rfl)) ?_
    refine L_nil ?_
    refine Q_then ?_
    refine R_condP rfl (fun hkk => ?_) (fun hkk => ?_)
    · skip
      refine R_skip ?_
      refine Q_then ?_
      refine R_seq ?_
      refine R_block ?_
      refine R_seq ?_
      refine R_region ?_
      refine L_val rfl rfl rfl (OpP.v (P_assign rfl rfl)) ?_
      refine L_nil ?_
      refine Q_then ?_
      refine R_block ?_
      refine R_loopE (G := Nat × List Gr) (.cons (t := 0) rfl (.cons (t := 1) rfl (.cons (t := 6) rfl (.cons (t := 14) rfl (.cons (t := 15) rfl (.cons (t := 18) rfl (.cons (t := 19) rfl (.cons (t := 22) rfl (.cons (t := 123) rfl (.cons (t := 124) rfl .nil)))))))))) (fun g => [(23, .int .i64 (g.1 : Int))]) (fun g => [fam Gr.res g.2, blk b97 (g.2.map Gr.v) 55, blk b90 (us0.map Ow.val) 55, blk b14 [.int .i64 (proveT xss at_), .int .i64 (proveI xss at_), .slice ub4 (proveA xss at_).length uc4] 57, ownS 23 32 (.slice ub4 (proveA xss at_).length uc4) (proveA xss at_).length (flat .u8 (proveA xss at_))]) (fun g => Gw us0 g.2 k g.1 ∧ g.1 ≤ 3) (fun g => 3 - g.1) (0, gs) (⟨hg, by omega⟩) (by repeat (first | exact .nil | refine .cons rfl ?_ | refine .consE rfl (by first | rfl | (congr 1; omega) | (congr 1; push_cast; omega)) ?_)) (Weak.refl _) ?_
      rintro ⟨i2, gs1⟩ hinv
      replace hinv : Gw us0 gs1 k i2 ∧ i2 ≤ 3 := hinv
      show St (cx gl) _ ((23, .int .i64 (i2 : Int)) :: _) [fam Gr.res gs1, blk b97 (gs1.map Gr.v) 55, blk b90 (us0.map Ow.val) 55, blk b14 [.int .i64 (proveT xss at_), .int .i64 (proveI xss at_), .slice ub4 (proveA xss at_).length uc4] 57, ownS 23 32 (.slice ub4 (proveA xss at_).length uc4) (proveA xss at_).length (flat .u8 (proveA xss at_))] _
      have hg1 := hinv
      refine R_seq ?_
      refine R_seq ?_
      refine R_region ?_
      refine L_val rfl rfl rfl (OpP.v (P_move rfl rfl)) ?_
      refine L_val rfl rfl rfl (OpP.v (P_lss rfl rfl rfl)) ?_
      refine L_nil ?_
      refine Q_then ?_
      refine R_condP rfl (fun hi => ?_) (fun hi => ?_)
      · skip
        obtain ⟨g, hgi⟩ : ∃ g, gs1[i2]? = some g := ⟨_, List.getElem?_eq_getElem (by have := hg1.1.len; omega)⟩
        obtain ⟨hgs1, hgs2⟩ := hg1.1.small husm hgi
        obtain ⟨gb, gc, go, gv, gh⟩ := g
        have hgs1 : go.length ≤ 65536 := hgs1
        have hgs2 : gh.length ≤ go.length + (k + 1) := hgs2
        have hgv : (gs1.map Gr.v)[i2]? = some gv := by rw [List.getElem?_map, hgi]; rfl
        refine St.famFact .h0 hgi (p := ∃ b c, gv = .slice b gh.length c) (fun h hh => ?_) ?_
        · obtain ⟨_, b, c, e, _⟩ := pair_forms hh
          exact ⟨b, c, e⟩
        rintro ⟨vb, vc, rfl⟩
        refine St.res (Weak.famOpen hgi) ?_
        refine R_skip ?_
        refine Q_then ?_
        refine R_seq ?_
        refine R_block ?_
        refine R_region ?_
        refine L_val rfl rfl rfl (OpP.v (P_move rfl rfl)) ?_
        refine L_val rfl rfl rfl (OpP.v (P_move rfl rfl)) ?_
        refine L_val rfl rfl rfl (OpP.v (P_move rfl rfl)) ?_
        refine L_val rfl rfl rfl (OpP.v (P_move rfl rfl)) ?_
        refine L_val rfl rfl rfl (OpP.v (P_ixs (i2) rfl ty_sl_64 rfl rfl (by first | rfl | omega) (by omega))) ?_
        refine L_val rfl rfl rfl (V_load rfl rfl ty_sc_55 (rd_blk1 .h3 hgv)) ?_
        refine L_val rfl rfl rfl (OpP.v (P_move rfl rfl)) ?_
        first | (refine L_val rfl rfl rfl (OpP.v (P_addN rfl rfl rfl (by simp only [fits]; omega))) ?_) | (refine L_val rfl rfl rfl (OpP.v (P_add rfl rfl rfl)) ?_)
        refine L_val rfl rfl rfl (OpP.v (P_conv rfl ty_int_3 ty_int_5 rfl)) ?_
        refine L_val rfl rfl rfl (OpP.v (P_move rfl rfl)) ?_
        refine L_val rfl rfl rfl (OpP.v (P_conv rfl ty_int_3 ty_int_5 rfl)) ?_
        refine L_val rfl rfl rfl (OpP.v (P_buildArrR rfl ty_ar_23 ty_ze_23 rfl rfl rfl (by first | decide | (simp only [List.length_cons, List.length_nil]; omega)) (by simp [Value.oneCell']))) ?_
        refine E_as (t := 142) (v' := .agg (ints .u8 (mk1 ((i2 : Int) + 101) k)).toArray) rfl rfl ?_
        refine L_op rfl (W_lit (z := .nilIface) (ints .u8 (mk1 ((i2 : Int) + 101) k)) rfl rfl rfl ty_sl_55 ty_lz_55 rfl rfl rfl (by decide) (by decide) (by intro v hv; simp only [List.mem_singleton] at hv; subst hv; rfl) (by simp [Value.cells]) fun b143 => ?_)
        refine L_op rfl (W_appendPair (p := [_]) (m := 1) (news := ints .u8 (mk1 ((i2 : Int) + 101) k)) rfl rfl rfl ty_sl_55 ty_ap_55 ty_src_55 rfl rfl rfl (Src.slice (sz := 32) (Rds.blk .h0) rfl ints_one) (by omega) (by simp only [maxLen]; omega) fun v144 => ?_)
        refine St.hasFact .h1 (p := ∃ b c, v144 = .slice b (gh.length + 1) c) (fun h hh => by obtain ⟨_, b, c, e, _⟩ := pair_forms hh; exact ⟨b, c, e⟩) ?_
        rintro ⟨nb, nc, rfl⟩
        refine St.res (rs' := [Gr.res (Gr.mk gb gc go (.slice nb (gh.length + 1) nc) (gh ++ [mk1 ((i2 : Int) + 101) k])), fam Gr.res (gs1.take i2), fam Gr.res (gs1.drop (i2 + 1)), blk b97 (gs1.map Gr.v) 55, blk b90 (us0.map Ow.val) 55, blk b14 [.int .i64 (proveT xss at_), .int .i64 (proveI xss at_), .slice ub4 (proveA xss at_).length uc4] 57, ownS 23 32 (.slice ub4 (proveA xss at_).length uc4) (proveA xss at_).length (flat .u8 (proveA xss at_))]) (Weak.drop (by unfold Gr.res Gr.oval; rw [List.length_append, flat_append]; simp only [flat_cons, flat_nil, List.append_nil]; exact Weak.refl _)) ?_
        refine L_val rfl rfl rfl (OpP.v (P_ixs (i2) rfl ty_sl_64 rfl rfl (by first | rfl | omega) (by omega))) ?_
        refine L_op rfl (W_store rfl rfl rfl rfl ty_sc_55 rfl .h3 (by rw [List.length_map]; have := hg1.1.len; omega) ?_)
        refine St.res (rs' := [Gr.res (Gr.mk gb gc go (.slice nb (gh.length + 1) nc) (gh ++ [mk1 ((i2 : Int) + 101) k])), fam Gr.res (gs1.take i2), fam Gr.res (gs1.drop (i2 + 1)), blk b97 ((gs1.set i2 (Gr.mk gb gc go (.slice nb (gh.length + 1) nc) (gh ++ [mk1 ((i2 : Int) + 101) k]))).map Gr.v) 55, blk b90 (us0.map Ow.val) 55, blk b14 [.int .i64 (proveT xss at_), .int .i64 (proveI xss at_), .slice ub4 (proveA xss at_).length uc4] 57, ownS 23 32 (.slice ub4 (proveA xss at_).length uc4) (proveA xss at_).length (flat .u8 (proveA xss at_))]) (by rw [List.map_set, Nat.zero_add, Nat.mul_one]; exact Weak.refl _) ?_
        refine St.res (Weak.famClose (by have := (List.getElem?_eq_some_iff.1 hgi).1; exact this)) ?_
        refine L_nil ?_
        refine Q_block ?_
        refine Q_then ?_
        refine R_region ?_
        refine L_val rfl rfl rfl (OpP.v (P_move rfl rfl)) ?_
        first | (refine L_val rfl rfl rfl (OpP.v (P_addN rfl rfl rfl (by simp only [fits]; omega))) ?_) | (refine L_val rfl rfl rfl (OpP.v (P_add rfl rfl rfl)) ?_)
        refine L_val rfl rfl rfl (OpP.v (P_assign rfl rfl)) ?_
        refine L_nil ?_
        exact Q_round (i2 + 1, gs1.set i2 (Gr.mk gb gc go (.slice nb (gh.length + 1) nc) (gh ++ [mk1 ((i2 : Int) + 101) k]))) (⟨hg1.1.step hgi, by omega⟩) (by show 3 - (i2 + 1) < 3 - i2; omega) (by repeat (first | exact .nil | refine .cons rfl ?_ | refine .consE rfl (by first | rfl | (congr 1; omega) | (congr 1; push_cast; omega)) ?_)) (Weak.refl _)
      · skip
        refine R_exit ?_
        refine Q_then_exit ?_
        refine Q_then_exit ?_
        refine Q_block_eq ?_
        refine Q_block ?_
        refine Q_then ?_
        refine R_region ?_
        refine L_val rfl rfl rfl (OpP.v (P_move rfl rfl)) ?_
        first | (refine L_val rfl rfl rfl (OpP.v (P_addN rfl rfl rfl (by simp only [fits]; omega))) ?_) | (refine L_val rfl rfl rfl (OpP.v (P_add rfl rfl rfl)) ?_)
        refine L_val rfl rfl rfl (OpP.v (P_assign rfl rfl)) ?_
        refine L_nil ?_
        exact Q_round (k + 1, gs1) (⟨Gw.next (by rw [hu3, show 3 = i2 by omega]; exact hg1.1), by omega⟩) (by show 20 - (k + 1) < 20 - k; omega) (by repeat (first | exact .nil | refine .cons rfl ?_ | refine .consE rfl (by first | rfl | (congr 1; omega) | (congr 1; push_cast; omega)) ?_)) (Weak.refl _)
    · skip
      refine R_exit ?_
      refine Q_then_exit ?_
      refine Q_then_exit ?_
      refine Q_block_eq ?_
      refine St.env (.cons (t := 0) rfl (.cons (t := 1) rfl (.cons (t := 6) rfl (.cons (t := 14) rfl (.cons (t := 15) rfl (.cons (t := 18) rfl (.cons (t := 19) rfl .nil))))))) ?_
      refine Q_then ?_
      refine R_seq ?_
      refine R_seq ?_
      refine R_region ?_
      refine L_val rfl rfl rfl (OpP.v (P_assign rfl rfl)) ?_
      refine L_nil ?_
      refine Q_then ?_
      refine R_block ?_
      have hg20 : Gw us0 gs 20 0 := by rw [show 20 = k by omega]; exact hg
      refine R_loopE (G := Nat) (.cons (t := 0) rfl (.cons (t := 1) rfl (.cons (t := 6) rfl (.cons (t := 14) rfl (.cons (t := 15) rfl (.cons (t := 18) rfl (.cons (t := 19) rfl .nil))))))) (fun g => [(24, .int .i64 (g : Int))]) (fun _ => _) (fun g => g ≤ 3) (fun g => 3 - g) (0) (by omega) (by repeat (first | exact .nil | refine .cons rfl ?_ | refine .consE rfl (by first | rfl | (congr 1; omega) | (congr 1; push_cast; omega)) ?_)) (Weak.refl _) ?_
      intro i3 hinv
      replace hinv : i3 ≤ 3 := hinv
      show St (cx gl) _ ((24, .int .i64 (i3 : Int)) :: _) _ _
      refine R_seq ?_
      refine R_seq ?_
      refine R_region ?_
      refine L_val rfl rfl rfl (OpP.v (P_move rfl rfl)) ?_
      refine L_val rfl rfl rfl (OpP.v (P_lss rfl rfl rfl)) ?_
      refine L_nil ?_
      refine Q_then ?_
      refine R_condP rfl (fun hi => ?_) (fun hi => ?_)
      · skip
        obtain ⟨g, hgi⟩ : ∃ g, gs[i3]? = some g := ⟨_, List.getElem?_eq_getElem (by have := hg20.len; omega)⟩
        obtain ⟨hgo, hgh⟩ := hg20.2 _ _ hgi
        have hgl := hg20.at_ hgi
        obtain ⟨gb, gc, go, gv, gh⟩ := g
        have hglE : (us0.map Ow.val)[i3]? = some (.slice gb go.length gc) := hgl
        have hgv : (gs.map Gr.v)[i3]? = some gv := by rw [List.getElem?_map, hgi]; rfl
        have hgoE : go = mks ((i3 : Int) + 1) go.length := hgo
        have hghE : gh = go ++ mks ((i3 : Int) + 101) 20 := hgh
        have hgs1 : go.length ≤ 65536 := (hg20.small husm hgi).1
        have h32 : ∀ h ∈ go, h.length = 32 := by rw [hgoE]; exact mks_len _ _
        have h32' : ∀ h ∈ gh, h.length = 32 := by rw [hghE]; intro h hh; rcases List.mem_append.1 hh with hh | hh; exact h32 h hh; exact mks_len _ _ h hh
        have hghl : gh.length = go.length + 20 := by rw [hghE, List.length_append, mks_length]
        refine St.famFact .h0 hgi (p := (0 < go.length → ∃ b, gb = some ⟨b, 0, none⟩) ∧ ∃ b c, gv = .slice (some ⟨b, 0, none⟩) gh.length c) (fun h hh => ?_) ?_
        · obtain ⟨⟨b, c, e, _, e3⟩, b2, c2, e2, _, e4⟩ := pair_forms hh
          obtain ⟨b', rfl⟩ := e4 (show 0 < gh.length by omega)
          refine ⟨fun h => ?_, b', c2, e2⟩
          simp only [Gr.oval, Value.slice.injEq] at e
          rw [e.1]; exact e3 h
        rintro ⟨hgb, vb, vc, rfl⟩
        refine R_skip ?_
        refine Q_then ?_
        refine R_seq ?_
        refine R_block ?_
        refine R_seq ?_
        refine R_region ?_
        refine L_val rfl rfl rfl (OpP.v (P_move rfl rfl)) ?_
        refine L_val rfl rfl rfl (OpP.v (P_move rfl rfl)) ?_
        refine L_val rfl rfl rfl (OpP.v (P_ixs (i3) rfl ty_sl_64 rfl rfl (by first | rfl | omega) (by omega))) ?_
        refine L_val rfl rfl rfl (V_load rfl rfl ty_sc_55 (rd_blk1 .h2 hglE)) ?_
        refine L_val rfl rfl rfl (OpP.v (P_len rfl ty_sl_55 rfl)) ?_
        refine L_val rfl rfl rfl (OpP.v (P_assign rfl rfl)) ?_
        refine L_nil ?_
        refine Q_then ?_
        refine R_seq ?_
        refine R_seq ?_
        refine R_region ?_
        refine L_val rfl rfl rfl (OpP.v (P_assign rfl rfl)) ?_
        refine L_nil ?_
        refine Q_then ?_
        refine R_block ?_
        refine R_loopE (G := Nat) (.cons (t := 0) rfl (.cons (t := 1) rfl (.cons (t := 6) rfl (.cons (t := 14) rfl (.cons (t := 15) rfl (.cons (t := 18) rfl (.cons (t := 19) rfl (.cons (t := 24) rfl (.cons (t := 25) rfl (.cons (t := 146) rfl (.cons (t := 147) rfl (.cons (t := 150) rfl (.cons (t := 151) rfl (.cons (t := 152) rfl (.cons (t := 153) rfl (.cons (t := 154) rfl .nil)))))))))))))))) (fun g => [(26, .int .i64 (g : Int))]) (fun _ => _) (fun g => g ≤ go.length) (fun g => go.length - g) (0) (Nat.zero_le _) (by repeat (first | exact .nil | refine .cons rfl ?_ | refine .consE rfl (by first | rfl | (congr 1; omega) | (congr 1; push_cast; omega)) ?_)) (Weak.refl _) ?_
        intro k3 hinv
        replace hinv : k3 ≤ go.length := hinv
        show St (cx gl) _ ((26, .int .i64 (k3 : Int)) :: _) _ _
        refine R_seq ?_
        refine R_seq ?_
        refine R_region ?_
        refine L_val rfl rfl rfl (OpP.v (P_move rfl rfl)) ?_
        refine L_val rfl rfl rfl (OpP.v (P_move rfl rfl)) ?_
        refine L_val rfl rfl rfl (OpP.v (P_lss rfl rfl rfl)) ?_
        refine L_nil ?_
        refine Q_then ?_
        refine R_condP rfl (fun hk => ?_) (fun hk => ?_)
        · skip
          have hk : (k3 : Int) < (go.length : Int) := hk
          obtain ⟨ob, rfl⟩ := hgb (by omega)
          have hat : go[k3]? = some (mk1 ((i3 : Int) + 1) k3) := by rw [hgoE]; exact mks_at (by omega)
          refine R_skip ?_
          refine Q_then ?_
          refine R_seq ?_
          refine R_block ?_
          refine R_seq ?_
          refine R_region ?_
          refine L_val rfl rfl rfl (OpP.v (P_move rfl rfl)) ?_
          refine L_val rfl rfl rfl (OpP.v (P_move rfl rfl)) ?_
          refine L_val rfl rfl rfl (OpP.v (P_ixs (i3) rfl ty_sl_64 rfl rfl (by first | rfl | omega) (by omega))) ?_
          refine L_val rfl rfl rfl (V_load rfl rfl ty_sc_55 (rd_blk1 .h2 hglE)) ?_
          refine L_val rfl rfl rfl (OpP.v (P_move rfl rfl)) ?_
          refine L_val rfl rfl rfl (OpP.v (P_ixs (k3) rfl ty_sl_55 rfl rfl (by first | rfl | omega) (by omega))) ?_
          refine L_val rfl rfl rfl (V_loadAgg rfl rfl ty_ag_23 (Rds.sn (k := k3 * 32) (us := ints .u8 (mk1 ((i3 : Int) + 1) k3)) (Sn.fam .h0 hgi fun rs m => Sn.pairOld m rfl) (fun j v hv => flat_at h32 hat j v hv)) (rfl)) ?_
          refine L_val rfl rfl rfl (OpP.v (P_move rfl rfl)) ?_
          first | (refine L_val rfl rfl rfl (OpP.v (P_addN rfl rfl rfl (by simp only [fits]; omega))) ?_) | (refine L_val rfl rfl rfl (OpP.v (P_add rfl rfl rfl)) ?_)
          refine L_val rfl rfl rfl (OpP.v (P_conv rfl ty_int_3 ty_int_5 rfl)) ?_
          refine L_val rfl rfl rfl (OpP.v (P_move rfl rfl)) ?_
          refine L_val rfl rfl rfl (OpP.v (P_conv rfl ty_int_3 ty_int_5 rfl)) ?_
          refine L_val rfl rfl rfl (OpP.v (P_buildArrR rfl ty_ar_23 ty_ze_23 rfl rfl rfl (by first | decide | (simp only [List.length_cons, List.length_nil]; omega)) (by simp [Value.oneCell']))) ?_
          refine E_as (t := 172) (v' := .agg (ints .u8 (mk1 ((i3 : Int) + 1) k3)).toArray) rfl rfl ?_
          refine L_val rfl rfl rfl (OpP.v (P_neArr rfl rfl rfl ty_un_23 ty_int_5 ty_sc_5 ty_eg_23 (rfl) (rfl))) ?_
          refine E_false (t := 173) rfl (decide_eq_false (by simp)) ?_
          refine L_nil ?_
          refine Q_then ?_
          refine R_condF rfl ?_
          refine R_skip ?_
          refine Q_block ?_
          refine Q_then ?_
          refine R_region ?_
          refine L_val rfl rfl rfl (OpP.v (P_move rfl rfl)) ?_
          first | (refine L_val rfl rfl rfl (OpP.v (P_addN rfl rfl rfl (by simp only [fits]; omega))) ?_) | (refine L_val rfl rfl rfl (OpP.v (P_add rfl rfl rfl)) ?_)
          refine L_val rfl rfl rfl (OpP.v (P_assign rfl rfl)) ?_
          refine L_nil ?_
          exact Q_round (k3 + 1) (by show (k3 + 1) ≤ go.length; omega) (by show go.length - (k3 + 1) < go.length - k3; omega) (by repeat (first | exact .nil | refine .cons rfl ?_ | refine .consE rfl (by first | rfl | (congr 1; omega) | (congr 1; push_cast; omega)) ?_)) (Weak.refl _)
        · skip
          refine R_exit ?_
          refine Q_then_exit ?_
          refine Q_then_exit ?_
          refine Q_block_eq ?_
          refine Q_then ?_
          refine R_seq ?_
          refine R_region ?_
          refine L_val rfl rfl rfl (OpP.v (P_assign rfl rfl)) ?_
          refine L_nil ?_
          refine Q_then ?_
          refine R_block ?_
          refine R_loopE (G := Nat) (.cons (t := 0) rfl (.cons (t := 1) rfl (.cons (t := 6) rfl (.cons (t := 14) rfl (.cons (t := 15) rfl (.cons (t := 18) rfl (.cons (t := 19) rfl (.cons (t := 24) rfl (.cons (t := 25) rfl (.cons (t := 26) rfl (.cons (t := 146) rfl (.cons (t := 147) rfl (.cons (t := 150) rfl (.cons (t := 151) rfl (.cons (t := 152) rfl (.cons (t := 153) rfl (.cons (t := 154) rfl (.cons (t := 155) rfl (.cons (t := 156) rfl (.cons (t := 157) rfl .nil)))))))))))))))))))) (fun g => [(27, .int .i64 (g : Int))]) (fun _ => _) (fun g => g ≤ 20) (fun g => 20 - g) (0) (by omega) (by repeat (first | exact .nil | refine .cons rfl ?_ | refine .consE rfl (by first | rfl | (congr 1; omega) | (congr 1; push_cast; omega)) ?_)) (Weak.refl _) ?_
          intro k4 hinv
          replace hinv : k4 ≤ 20 := hinv
          show St (cx gl) _ ((27, .int .i64 (k4 : Int)) :: _) _ _
          refine R_seq ?_
          refine R_seq ?_
          refine R_region ?_
          refine L_val rfl rfl rfl (OpP.v (P_move rfl rfl)) ?_
          refine L_val rfl rfl rfl (OpP.v (P_lss rfl rfl rfl)) ?_
          refine L_nil ?_
          refine Q_then ?_
          refine R_condP rfl (fun hk => ?_) (fun hk => ?_)
          · skip
            have hat : gh[go.length + k4]? = some (mk1 ((i3 : Int) + 101) k4) := by rw [hghE, List.getElem?_append_right (by omega), Nat.add_sub_cancel_left]; exact mks_at (by omega)
            refine R_skip ?_
            refine Q_then ?_
            refine R_seq ?_
            refine R_block ?_
            refine R_seq ?_
            refine R_region ?_
            refine L_val rfl rfl rfl (OpP.v (P_move rfl rfl)) ?_
            refine L_val rfl rfl rfl (OpP.v (P_move rfl rfl)) ?_
            refine L_val rfl rfl rfl (OpP.v (P_ixs (i3) rfl ty_sl_64 rfl rfl (by first | rfl | omega) (by omega))) ?_
            refine L_val rfl rfl rfl (V_load rfl rfl ty_sc_55 (rd_blk1 .h1 hgv)) ?_
            refine L_val rfl rfl rfl (OpP.v (P_move rfl rfl)) ?_
            refine L_val rfl rfl rfl (OpP.v (P_move rfl rfl)) ?_
            first | (refine L_val rfl rfl rfl (OpP.v (P_addN rfl rfl rfl (by simp only [fits]; omega))) ?_) | (refine L_val rfl rfl rfl (OpP.v (P_add rfl rfl rfl)) ?_)
            refine L_val rfl rfl rfl (OpP.v (P_ixs (go.length + k4) rfl ty_sl_55 rfl rfl (by first | rfl | omega) (by omega))) ?_
            refine L_val rfl rfl rfl (V_loadAgg rfl rfl ty_ag_23 (Rds.sn (k := (go.length + k4) * 32) (us := ints .u8 (mk1 ((i3 : Int) + 101) k4)) (Sn.fam .h0 hgi fun rs m => Sn.pairNew m rfl) (fun j v hv => flat_at h32' hat j v hv)) (rfl)) ?_
            refine L_val rfl rfl rfl (OpP.v (P_move rfl rfl)) ?_
            first | (refine L_val rfl rfl rfl (OpP.v (P_addN rfl rfl rfl (by simp only [fits]; omega))) ?_) | (refine L_val rfl rfl rfl (OpP.v (P_add rfl rfl rfl)) ?_)
            refine L_val rfl rfl rfl (OpP.v (P_conv rfl ty_int_3 ty_int_5 rfl)) ?_
            refine L_val rfl rfl rfl (OpP.v (P_move rfl rfl)) ?_
            refine L_val rfl rfl rfl (OpP.v (P_conv rfl ty_int_3 ty_int_5 rfl)) ?_
            refine L_val rfl rfl rfl (OpP.v (P_buildArrR rfl ty_ar_23 ty_ze_23 rfl rfl rfl (by first | decide | (simp only [List.length_cons, List.length_nil]; omega)) (by simp [Value.oneCell']))) ?_
            refine E_as (t := 192) (v' := .agg (ints .u8 (mk1 ((i3 : Int) + 101) k4)).toArray) rfl rfl ?_
            refine L_val rfl rfl rfl (OpP.v (P_neArr rfl rfl rfl ty_un_23 ty_int_5 ty_sc_5 ty_eg_23 (rfl) (rfl))) ?_
            refine E_false (t := 193) rfl (decide_eq_false (by simp)) ?_
            refine L_nil ?_
            refine Q_then ?_
            refine R_condF rfl ?_
            refine R_skip ?_
            refine Q_block ?_
            refine Q_then ?_
            refine R_region ?_
            refine L_val rfl rfl rfl (OpP.v (P_move rfl rfl)) ?_
            first | (refine L_val rfl rfl rfl (OpP.v (P_addN rfl rfl rfl (by simp only [fits]; omega))) ?_) | (refine L_val rfl rfl rfl (OpP.v (P_add rfl rfl rfl)) ?_)
            refine L_val rfl rfl rfl (OpP.v (P_assign rfl rfl)) ?_
            refine L_nil ?_
            exact Q_round (k4 + 1) (by show (k4 + 1) ≤ 20; omega) (by show 20 - (k4 + 1) < 20 - k4; omega) (by repeat (first | exact .nil | refine .cons rfl ?_ | refine .consE rfl (by first | rfl | (congr 1; omega) | (congr 1; push_cast; omega)) ?_)) (Weak.refl _)
          · skip
            refine R_exit ?_
            refine Q_then_exit ?_
            refine Q_then_exit ?_
            refine Q_block_eq ?_
            refine Q_block ?_
            refine Q_then ?_
            refine R_region ?_
            refine L_val rfl rfl rfl (OpP.v (P_move rfl rfl)) ?_
            first | (refine L_val rfl rfl rfl (OpP.v (P_addN rfl rfl rfl (by simp only [fits]; omega))) ?_) | (refine L_val rfl rfl rfl (OpP.v (P_add rfl rfl rfl)) ?_)
            refine L_val rfl rfl rfl (OpP.v (P_assign rfl rfl)) ?_
            refine L_nil ?_
            exact Q_round (i3 + 1) (by show (i3 + 1) ≤ 3; omega) (by show 3 - (i3 + 1) < 3 - i3; omega) (by repeat (first | exact .nil | refine .cons rfl ?_ | refine .consE rfl (by first | rfl | (congr 1; omega) | (congr 1; push_cast; omega)) ?_)) (Weak.refl _)
      · skip
        refine R_exit ?_
        refine Q_then_exit ?_
        refine Q_then_exit ?_
        refine Q_block_eq ?_
        refine St.env (.cons (t := 0) rfl (.cons (t := 1) rfl (.cons (t := 6) rfl (.cons (t := 14) rfl (.cons (t := 15) rfl .nil))))) ?_
        refine Q_then ?_
        refine R_seq ?_
        refine R_region ?_
        refine L_val rfl rfl rfl (OpP.v (P_move rfl rfl)) ?_
        refine L_val rfl rfl rfl (OpP.v (P_move rfl rfl)) ?_
        refine L_op rfl (W_call rfl rfl rfl rfl fn_ca_33 (prove_ok hG.toGlobs base c vs xss at_ hvx hc hmax) (Split.nil _) (fun w a b _ hb dj m => Items.row hpre rfl w ⟨_, hb, m.le (Heap.le_join_right dj)⟩) fun v197 rs1 ⟨u6, e1, e2⟩ => ?_)
        subst e1; subst e2
        refine St.ownForm (p := []) fun ub6 uc6 he6 huc6 => ?_
        subst he6
        refine L_val rfl rfl rfl (OpP.v (P_move rfl rfl)) ?_
        refine L_val rfl rfl rfl (OpP.v (P_extract rfl rfl rfl)) ?_
        refine L_val rfl rfl rfl (OpP.v (P_extract rfl rfl rfl)) ?_
        refine L_op rfl (W_alloc rfl rfl rfl ty_ze_57 fun b28 => ?_)
        refine L_op rfl (W_storeAll rfl rfl rfl rfl ty_ag_57 (rfl) (by intro v hv; simp at hv; rcases hv with rfl | rfl | rfl <;> rfl) .h0 (rfl) ?_)
        refine L_val rfl rfl rfl (OpP.v (P_assign rfl rfl)) ?_
        refine L_nil ?_
        refine St.env (.cons (t := 6) rfl (.cons (t := 14) rfl (.cons (t := 15) rfl (.cons (t := 28) rfl (.cons (t := 29) rfl .nil))))) ?_
        refine Q_then ?_
        refine R_seq ?_
        refine R_region ?_
        refine L_val rfl rfl rfl (OpP.v (P_move rfl rfl)) ?_
        refine L_val rfl rfl rfl (OpP.v (P_move rfl rfl)) ?_
        refine L_val rfl rfl rfl (OpP.v (P_eql rfl rfl rfl)) ?_
        refine E_true (t := 202) rfl (decide_eq_true rfl) ?_
        refine L_val rfl rfl rfl (OpP.v (P_move rfl rfl)) ?_
        refine L_val rfl rfl rfl (V_loadAgg rfl rfl ty_ag_57 (Rds.blk .h0) (rfl)) ?_
        refine L_val rfl rfl rfl (V_loadAgg rfl rfl ty_ag_57 (Rds.blk .h5) (rfl)) ?_
        refine L_op rfl (W_callV rfl rfl rfl rfl fn_ca_32 (same_ok (proveT xss at_) (proveI xss at_) ub6 uc6 ub4 uc4 (proveA xss at_) (proveA_len xss at_) (by have := proveA_small xss at_; omega)) (fun w nw => ⟨(Sn.own .h1 rfl).rw_ w nw, (Sn.own .h6 rfl).rw_ w nw⟩) ?_)
        refine E_true (t := 206) rfl (rfl) ?_
        refine L_val rfl rfl rfl (OpP.v (P_pick rfl rfl rfl)) ?_
        refine L_val rfl rfl rfl (OpP.v (P_assign rfl rfl)) ?_
        refine L_nil ?_
        refine St.env (.cons (t := 6) rfl .nil) ?_
        refine Q_then ?_
        refine R_ret ?_
        exact R_endV rfl rfl (.tmp rfl .nil) (rfl)
end Go.Proofs.YtldndhekjhlbmaaDoor
