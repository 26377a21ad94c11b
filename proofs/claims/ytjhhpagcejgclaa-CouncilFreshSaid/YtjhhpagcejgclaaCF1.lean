/- Walks: apart. Printed by gen.py. -/
import Derived.Test.YtjhhpagcejgclaaCM1
set_option linter.unusedVariables false
set_option linter.unusedSimpArgs false
set_option maxRecDepth 100000
namespace Go.Proofs.Ytjhhpagcejgclaa
open Go Go.RowKit Go.Proofs
/-- A mark. -/
def mk1 (a k : Int) : Mem := ⟨a, k, 0⟩
def mks (a : Int) (n : Nat) : List Mem := (List.range n).map fun (k : Nat) => mk1 a (k : Int)
theorem mks_length (a : Int) (n : Nat) : (mks a n).length = n := by simp [mks]
theorem mks_succ (a : Int) (n : Nat) : mks a (n + 1) = mks a n ++ [mk1 a n] := by simp [mks, List.range_succ]
theorem mks_at {a : Int} {n k : Nat} (h : k < n) : (mks a n)[k]? = some (mk1 a k) := by simp [mks, h]
/-- A slice of digests of the call's own. -/
structure Ow where
  b : Option Addr
  c : Nat
  hs : List Mem
def Ow.val (u : Ow) : Value := .slice u.b u.hs.length u.c
def Ow.own (u : Ow) : HP := ownS 48 3 u.val u.hs.length (memC u.hs)
/-- The first i of them are marked, and k places of the next. -/
def Wr (us0 us : List Ow) (i k : Nat) : Prop := us.map Ow.val = us0.map Ow.val ∧ (∀ (j : Nat) (u : Ow), us[j]? = some u → j < i → u.hs = mks (1000 + (j : Int)) u.hs.length) ∧ (∀ u : Ow, us[i]? = some u → u.hs.take k = mks (1000 + (i : Int)) k ∧ k ≤ u.hs.length)
theorem Wr.start {us : List Ow} : Wr us us 0 0 := ⟨rfl, fun j u _ hj => absurd hj (by omega), fun u _ => ⟨rfl, Nat.zero_le _⟩⟩
theorem Wr.step {us0 us : List Ow} {i k c : Nat} {b : Option Addr} {hs : List Mem} (h : Wr us0 us i k) (hu : us[i]? = some ⟨b, c, hs⟩) (hk : k < hs.length) : Wr us0 (us.set i ⟨b, c, hs.set k (mk1 (1000 + (i : Int)) k)⟩) i (k + 1) := by
  obtain ⟨h1, h2, h4⟩ := h
  have hi := (List.getElem?_eq_some_iff.1 hu).1
  refine ⟨?_, fun j u hj hji => ?_, fun u hj => ?_⟩
  · rw [List.map_set, ← h1]
    apply List.ext_getElem?
    intro j
    rw [List.getElem?_set]
    split
    · rename_i e
      subst e
      rw [List.getElem?_map, hu, if_pos (by rw [List.length_map]; exact hi)]
      simp [Ow.val]
    · rfl
  · rw [List.getElem?_set_ne (by omega)] at hj
    exact h2 j u hj hji
  · rw [List.getElem?_set_self hi, Option.some.injEq] at hj
    subst hj
    obtain ⟨h5, h6⟩ := h4 _ hu
    refine ⟨?_, by simp; omega⟩
    show (hs.set k _).take (k + 1) = _
    rw [mks_succ, ← h5, List.take_add_one, List.getElem?_set_self hk, List.take_set_of_le (Nat.le_refl _)]
    rfl
theorem Wr.next {us0 us : List Ow} {i k : Nat} {u : Ow} (h : Wr us0 us i k) (hu : us[i]? = some u) (hk : ¬ k < u.hs.length) : Wr us0 us (i + 1) 0 := by
  obtain ⟨h1, h2, h4⟩ := h
  refine ⟨h1, fun j u' hj hji => ?_, fun u' _ => ⟨rfl, Nat.zero_le _⟩⟩
  by_cases hjj : j < i
  · exact h2 j u' hj hjj
  · obtain rfl : j = i := by omega
    rw [hu, Option.some.injEq] at hj
    subst hj
    obtain ⟨h5, h6⟩ := h4 _ hu
    have : k = u.hs.length := by omega
    subst this
    rw [List.take_length] at h5
    exact h5
theorem Wr.at_ {us0 us : List Ow} {i k j : Nat} {u : Ow} (h : Wr us0 us i k) (hu : us[j]? = some u) : (us0.map Ow.val)[j]? = some (.slice u.b u.hs.length u.c) := by rw [← h.1, List.getElem?_map, hu]; rfl
theorem Wr.len {us0 us : List Ow} {i k : Nat} (h : Wr us0 us i k) : us.length = us0.length := by have := congrArg List.length h.1; simpa using this
/-- One that has grown. -/
structure Gr where
  ob : Option Addr
  oc : Nat
  old : List Mem
  v : Value
  hs : List Mem
def Gr.oval (g : Gr) : Value := .slice g.ob g.old.length g.oc
def Gr.res (g : Gr) : HP := pair 48 3 g.oval g.old.length (memC g.old) g.v g.hs.length (memC g.hs)
def Gr.of (u : Ow) : Gr := ⟨u.b, u.c, u.hs, u.val, u.hs⟩
def cnt (i k j : Nat) : Nat := if j < i then k + 1 else k
def Gw (us0 : List Ow) (gs : List Gr) (k i : Nat) : Prop := gs.map Gr.oval = us0.map Ow.val ∧ ∀ (j : Nat) (g : Gr), gs[j]? = some g → g.old = mks (1000 + (j : Int)) g.old.length ∧ g.hs = g.old ++ mks (2000 + (j : Int)) (cnt i k j)
theorem Gw.start {us0 us : List Ow} (h : Wr us0 us us0.length 0) : Gw us0 (us.map Gr.of) 0 0 := by
  refine ⟨by rw [← h.1, List.map_map]; rfl, fun j g hj => ?_⟩
  rw [List.getElem?_map] at hj
  obtain ⟨u, hu, rfl⟩ := Option.map_eq_some_iff.1 hj
  refine ⟨h.2.1 j u hu (by rw [← h.len]; exact (List.getElem?_eq_some_iff.1 hu).1), ?_⟩
  show u.hs = u.hs ++ mks _ (cnt 0 0 j)
  unfold cnt; rw [if_neg (by omega)]; simp [mks]
theorem Gw.step {us0 : List Ow} {gs : List Gr} {k i oc : Nat} {ob : Option Addr} {old hs : List Mem} {v v' : Value} (h : Gw us0 gs k i) (hg : gs[i]? = some ⟨ob, oc, old, v, hs⟩) : Gw us0 (gs.set i ⟨ob, oc, old, v', hs ++ [mk1 (2000 + (i : Int)) k]⟩) k (i + 1) := by
  have hi := (List.getElem?_eq_some_iff.1 hg).1
  refine ⟨?_, fun j g hj => ?_⟩
  · rw [List.map_set, ← h.1]
    apply List.ext_getElem?
    intro j
    rw [List.getElem?_set]
    split
    · rename_i e
      subst e
      rw [List.getElem?_map, hg, if_pos (by rw [List.length_map]; exact hi)]
      rfl
    · rfl
  · by_cases e : j = i
    · subst e
      rw [List.getElem?_set_self hi, Option.some.injEq] at hj
      subst hj
      obtain ⟨h1, h2⟩ := h.2 _ _ hg
      refine ⟨h1, ?_⟩
      have h2 : hs = old ++ mks (2000 + (j : Int)) (cnt j k j) := h2
      show hs ++ _ = old ++ _
      rw [h2, List.append_assoc]
      unfold cnt
      rw [if_neg (by omega), if_pos (by omega), mks_succ]
    · rw [List.getElem?_set_ne (Ne.symm e)] at hj
      obtain ⟨h1, h2⟩ := h.2 _ _ hj
      refine ⟨h1, ?_⟩
      rw [h2]
      have : cnt i k j = cnt (i + 1) k j := by unfold cnt; split <;> split <;> omega
      rw [this]
theorem Gw.next {us0 : List Ow} {gs : List Gr} {k : Nat} (h : Gw us0 gs k us0.length) : Gw us0 gs (k + 1) 0 := by
  refine ⟨h.1, fun j g hj => ?_⟩
  obtain ⟨h1, h2⟩ := h.2 _ _ hj
  refine ⟨h1, ?_⟩
  rw [h2]
  have hl : gs.length = us0.length := by have := congrArg List.length h.1; simpa using this
  have hj := (List.getElem?_eq_some_iff.1 hj).1
  have : cnt us0.length k j = cnt 0 (k + 1) j := by unfold cnt; split <;> split <;> omega
  rw [this]
theorem Gw.at_ {us0 : List Ow} {gs : List Gr} {k i j : Nat} {g : Gr} (h : Gw us0 gs k i) (hg : gs[j]? = some g) : (us0.map Ow.val)[j]? = some (.slice g.ob g.old.length g.oc) := by rw [← h.1, List.getElem?_map, hg]; rfl
theorem Gw.len {us0 : List Ow} {gs : List Gr} {k i : Nat} (h : Gw us0 gs k i) : gs.length = us0.length := by have := congrArg List.length h.1; simpa using this
theorem Gw.small {us0 : List Ow} {gs : List Gr} {k i j : Nat} {g : Gr} (h : Gw us0 gs k i) (hs : ∀ u ∈ us0, u.hs.length ≤ 65536) (hg : gs[j]? = some g) : g.old.length ≤ 65536 ∧ g.hs.length ≤ g.old.length + (k + 1) := by
  have h1 := h.at_ hg
  rw [List.getElem?_map] at h1
  obtain ⟨u, hu, e⟩ := Option.map_eq_some_iff.1 h1
  have := hs u (List.mem_of_getElem? hu)
  simp only [Ow.val, Value.slice.injEq] at e
  refine ⟨by omega, ?_⟩
  rw [(h.2 _ _ hg).2, List.length_append, mks_length]
  unfold cnt; split <;> omega
set_option maxHeartbeats 4000000 in
theorem apart_ok {gl : Nat → Obj} (ab ac : Nat) (us0 : List Ow) (hn8 : us0.length = 8) (husm : ∀ u ∈ us0, u.hs.length ≤ 65536) : SpecR (cx gl) 42 [.slice (some ⟨ab, 0, none⟩) 8 ac] (fun _ _ => True) [fam Ow.own us0, ownS 22 1 (.slice (some ⟨ab, 0, none⟩) 8 ac) 8 (us0.map Ow.val)] (.bool true) [] := by
  refine Spec.enter (C := cx gl) Try.func42 rfl 121 rfl rfl fun w0 h0 hsep hsub hpre => ?_
  show St (cx gl) _ [(0, .slice (some ⟨ab, 0, none⟩) 8 ac)] _ _
  refine R_seq ?_
  refine R_region ?_
  refine L_val rfl rfl rfl (OpP.v (P_assign rfl rfl)) ?_
  refine L_nil ?_
  refine Q_then ?_
  refine R_seq ?_
  refine R_region ?_
  refine L_val rfl rfl rfl (OpP.v (P_assign rfl rfl)) ?_
  refine L_nil ?_
  refine Q_then ?_
  refine R_seq ?_
  refine R_seq ?_
  refine R_region ?_
  refine L_val rfl rfl rfl (OpP.v (P_assign rfl rfl)) ?_
  refine L_nil ?_
  refine Q_then ?_
  refine R_block ?_
  refine R_loopE (G := Nat × List Ow × Value) (.cons (t := 0) rfl (.cons (t := 2) rfl .nil)) (fun g => [(3, g.2.2), (4, .int .i64 (g.1 : Int))]) (fun g => [fam Ow.own g.2.1, ownS 22 1 (.slice (some ⟨ab, 0, none⟩) 8 ac) 8 (us0.map Ow.val), ownS 22 1 (g.2.2) (g.1) ((us0.map Ow.val).take (g.1))]) (fun g => Wr us0 g.2.1 g.1 0 ∧ g.1 ≤ 8) (fun g => 8 - g.1) (0, us0, .slice none 0 0) (⟨Wr.start, by omega⟩) (by repeat (first | exact .nil | refine .cons rfl ?_ | refine .consE rfl (by first | rfl | (congr 1; omega) | (congr 1; push_cast; omega)) ?_)) (Weak.trans (Weak.newNil (T := 22) (sz := 1)) (Weak.pick (p := [_]) (Weak.pick (p := [_]) (Weak.refl _)))) ?_
  rintro ⟨i, us, mv⟩ hinv
  replace hinv : Wr us0 us i 0 ∧ i ≤ 8 := hinv
  show St (cx gl) _ ((3, mv) :: (4, .int .i64 (i : Int)) :: _) [fam Ow.own us, ownS 22 1 (.slice (some ⟨ab, 0, none⟩) 8 ac) 8 (us0.map Ow.val), ownS 22 1 (mv) (i) ((us0.map Ow.val).take (i))] _
  obtain ⟨hw, hi8⟩ := hinv
  refine R_seq ?_
  refine R_seq ?_
  refine R_region ?_
  refine L_val rfl rfl rfl (OpP.v (P_move rfl rfl)) ?_
  refine L_val rfl rfl rfl (OpP.v (P_move rfl rfl)) ?_
  refine L_val rfl rfl rfl (OpP.v (P_len rfl ty_sl_60 rfl)) ?_
  refine L_val rfl rfl rfl (OpP.v (P_lss rfl rfl rfl)) ?_
  refine L_nil ?_
  refine Q_then ?_
  refine R_condP rfl (fun hi => ?_) (fun hi => ?_)
  · skip
    refine R_skip ?_
    refine Q_then ?_
    refine R_seq ?_
    refine R_block ?_
    refine R_seq ?_
    refine R_seq ?_
    refine R_region ?_
    refine L_val rfl rfl rfl (OpP.v (P_assign rfl rfl)) ?_
    refine L_nil ?_
    refine Q_then ?_
    refine R_block ?_
    refine R_loopE (G := Nat × List Ow) (.cons (t := 0) rfl (.cons (t := 2) rfl (.cons (t := 3) rfl (.cons (t := 4) rfl (.cons (t := 12) rfl (.cons (t := 13) rfl (.cons (t := 14) rfl (.cons (t := 15) rfl .nil)))))))) (fun g => [(5, .int .i64 (g.1 : Int))]) (fun g => [fam Ow.own g.2, ownS 22 1 (.slice (some ⟨ab, 0, none⟩) 8 ac) 8 (us0.map Ow.val), ownS 22 1 (mv) (i) ((us0.map Ow.val).take (i))]) (fun g => Wr us0 g.2 i g.1) (fun g => ((us0[i]?).map fun u => u.hs.length).getD 0 - g.1) (0, us) (hw) (by repeat (first | exact .nil | refine .cons rfl ?_ | refine .consE rfl (by first | rfl | (congr 1; omega) | (congr 1; push_cast; omega)) ?_)) (Weak.refl _) ?_
    rintro ⟨k, us1⟩ hinv
    replace hinv : Wr us0 us1 i k := hinv
    show St (cx gl) _ ((5, .int .i64 (k : Int)) :: _) [fam Ow.own us1, ownS 22 1 (.slice (some ⟨ab, 0, none⟩) 8 ac) 8 (us0.map Ow.val), ownS 22 1 (mv) (i) ((us0.map Ow.val).take (i))] _
    have hw1 := hinv
    obtain ⟨u, hu⟩ : ∃ u, us1[i]? = some u := ⟨_, List.getElem?_eq_getElem (by have := hw1.len; omega)⟩
    have hvi := hw1.at_ hu
    refine R_seq ?_
    refine R_seq ?_
    refine R_region ?_
    refine L_val rfl rfl rfl (OpP.v (P_move rfl rfl)) ?_
    refine L_val rfl rfl rfl (OpP.v (P_move rfl rfl)) ?_
    refine L_val rfl rfl rfl (OpP.v (P_move rfl rfl)) ?_
    refine L_val rfl rfl rfl (OpP.v (P_ixs (i) rfl ty_sl_60 rfl rfl (by first | rfl | omega) (by omega))) ?_
    refine L_val rfl rfl rfl (V_load rfl rfl ty_sc_22 (rd_own1 .h1 hvi)) ?_
    refine L_val rfl rfl rfl (OpP.v (P_len rfl ty_sl_22 rfl)) ?_
    refine L_val rfl rfl rfl (OpP.v (P_lss rfl rfl rfl)) ?_
    refine L_nil ?_
    refine Q_then ?_
    refine R_condP rfl (fun hk => ?_) (fun hk => ?_)
    · skip
      obtain ⟨ub, uc, uh⟩ := u
      have hk : (k : Int) < (uh.length : Int) := hk
      refine St.res (Weak.famOpen hu) ?_
      refine St.hasFact .h0 (p := ∃ b, ub = some ⟨b, 0, none⟩) (fun h hh => ?_) ?_
      · rcases hh.2 with ⟨_, h0, _⟩ | ⟨b, cap, junk, e, _⟩
        · have h0 : uh.length = 0 := h0
          omega
        · simp only [Ow.val, Value.slice.injEq] at e; exact ⟨b, e.1⟩
      rintro ⟨ob, rfl⟩
      obtain ⟨oc2, hoc⟩ : ∃ x, x = uc := ⟨_, rfl⟩
      subst hoc
      have hsm : uh.length ≤ 65536 := by have h2 := hw1.at_ hu; rw [List.getElem?_map] at h2; obtain ⟨u2, hu2, e2⟩ := Option.map_eq_some_iff.1 h2; have := husm u2 (List.mem_of_getElem? hu2); simp only [Ow.val, Value.slice.injEq] at e2; omega
      refine R_skip ?_
      refine Q_then ?_
      refine R_seq ?_
      refine R_block ?_
      refine R_region ?_
      refine L_val rfl rfl rfl (OpP.v (P_move rfl rfl)) ?_
      refine L_val rfl rfl rfl (OpP.v (P_move rfl rfl)) ?_
      refine L_val rfl rfl rfl (OpP.v (P_ixs (i) rfl ty_sl_60 rfl rfl (by first | rfl | omega) (by omega))) ?_
      refine L_val rfl rfl rfl (V_load rfl rfl ty_sc_22 (rd_own1 .h3 hvi)) ?_
      refine L_val rfl rfl rfl (OpP.v (P_move rfl rfl)) ?_
      refine L_val rfl rfl rfl (OpP.v (P_move rfl rfl)) ?_
      refine L_val rfl rfl rfl (OpP.v (P_addN rfl rfl rfl (by simp only [fits]; omega))) ?_
      refine L_val rfl rfl rfl (OpP.v (P_convN rfl ty_int_3 ty_int_39 rfl (by simp only [fits]; omega))) ?_
      refine L_val rfl rfl rfl (OpP.v (P_move rfl rfl)) ?_
      refine L_val rfl rfl rfl (OpP.v (P_convN rfl ty_int_3 ty_int_32 rfl (by simp only [fits]; omega))) ?_
      refine L_val rfl rfl rfl (OpP.v (P_buildStruct rfl ty_pl_48 ty_ze_48 rfl rfl (rfl))) ?_
      refine E_as (t := 37) (v' := .agg (mk1 (1000 + (i : Int)) k).cells.toArray) rfl (rfl) ?_
      refine L_val rfl rfl rfl (OpP.v (P_ixs (k) rfl ty_sl_22 rfl rfl (by first | rfl | omega) (by omega))) ?_
      refine L_op rfl (W_storeOwn (T := 48) (sz := 3) (n := uh.length) (c := oc2) (vs := (mk1 (1000 + (i : Int)) k).cells) (cs := memC uh) rfl rfl rfl rfl ty_ag_48 rfl (Mem.cells_one _) .h0 (by rw [memC_length]; show 0 + k * 3 + 3 ≤ uh.length * 3; omega) ?_)
      refine St.res (rs' := [Ow.own (Ow.mk (some ⟨ob, 0, none⟩) oc2 (uh.set k (mk1 (1000 + (i : Int)) k))), fam Ow.own (us1.take i), fam Ow.own (us1.drop (i + 1)), ownS 22 1 (.slice (some ⟨ab, 0, none⟩) 8 ac) 8 (us0.map Ow.val), ownS 22 1 (mv) (i) ((us0.map Ow.val).take (i))]) (by unfold Ow.own Ow.val memC; rw [List.length_set, Nat.zero_add, rows_splice (mem_len uh) (by omega) rfl]; exact Weak.refl _) ?_
      refine St.res (Weak.famClose (by have := (List.getElem?_eq_some_iff.1 hu).1; exact this)) ?_
      refine L_nil ?_
      refine Q_block ?_
      refine Q_then ?_
      refine R_region ?_
      refine L_val rfl rfl rfl (OpP.v (P_move rfl rfl)) ?_
      first | (refine L_val rfl rfl rfl (OpP.v (P_addN rfl rfl rfl (by simp only [fits]; omega))) ?_) | (refine L_val rfl rfl rfl (OpP.v (P_add rfl rfl rfl)) ?_)
      refine L_val rfl rfl rfl (OpP.v (P_assign rfl rfl)) ?_
      refine L_nil ?_
      exact Q_round (k + 1, us1.set i (Ow.mk (some ⟨ob, 0, none⟩) oc2 (uh.set k (mk1 (1000 + (i : Int)) k)))) (hw1.step hu (by omega)) (by show ((us0[i]?).map fun u => u.hs.length).getD 0 - (k + 1) < ((us0[i]?).map fun u => u.hs.length).getD 0 - k; have hq : ((us0[i]?).map fun u => u.hs.length).getD 0 = uh.length := (by have h2 := hw1.at_ hu; rw [List.getElem?_map] at h2; obtain ⟨u2, hu2, e2⟩ := Option.map_eq_some_iff.1 h2; rw [hu2]; simp only [Ow.val, Value.slice.injEq] at e2; exact e2.2.1); rw [hq]; omega) (by repeat (first | exact .nil | refine .cons rfl ?_ | refine .consE rfl (by first | rfl | (congr 1; omega) | (congr 1; push_cast; omega)) ?_)) (Weak.refl _)
    · skip
      have hk : ¬ (k : Int) < (u.hs.length : Int) := hk
      refine R_exit ?_
      refine Q_then_exit ?_
      refine Q_then_exit ?_
      refine Q_block_eq ?_
      refine Q_then ?_
      refine R_region ?_
      refine L_val rfl rfl rfl (OpP.v (P_move rfl rfl)) ?_
      refine L_val rfl rfl rfl (OpP.v (P_move rfl rfl)) ?_
      refine L_val rfl rfl rfl (OpP.v (P_move rfl rfl)) ?_
      refine L_val rfl rfl rfl (OpP.v (P_ixs (i) rfl ty_sl_60 rfl rfl (by first | rfl | omega) (by omega))) ?_
      refine L_val rfl rfl rfl (V_load rfl rfl ty_sc_22 (rd_own1 .h1 hvi)) ?_
      refine L_op rfl (W_lit (z := .nilIface) ([.slice u.b u.hs.length u.c]) rfl rfl rfl ty_sl_60 ty_lz_60 rfl rfl rfl (by decide) (by decide) (by simp [Value.cells]) (rfl) fun b44 => ?_)
      refine L_op rfl (W_append (p := [_, _, _]) rfl rfl rfl ty_sl_60 ty_ap_60 ty_src_60 rfl rfl rfl (Src.slice (sz := 1) (m := 1) (news := [.slice u.b u.hs.length u.c]) (Rds.blk .h0) rfl (by intro v hv; simp only [List.mem_singleton] at hv; subst hv; rfl)) (by omega) (by simp only [maxLen]; omega) fun v45 => ?_)
      refine L_val rfl rfl rfl (OpP.v (P_assign rfl rfl)) ?_
      refine L_nil ?_
      refine Q_block ?_
      refine Q_then ?_
      refine R_region ?_
      refine L_val rfl rfl rfl (OpP.v (P_move rfl rfl)) ?_
      first | (refine L_val rfl rfl rfl (OpP.v (P_addN rfl rfl rfl (by simp only [fits]; omega))) ?_) | (refine L_val rfl rfl rfl (OpP.v (P_add rfl rfl rfl)) ?_)
      refine L_val rfl rfl rfl (OpP.v (P_assign rfl rfl)) ?_
      refine L_nil ?_
      exact Q_round (i + 1, us1, v45) (⟨hw1.next hu (by omega), by omega⟩) (by show 8 - (i + 1) < 8 - i; omega) (by repeat (first | exact .nil | refine .cons rfl ?_ | refine .consE rfl (by first | rfl | (congr 1; omega) | (congr 1; push_cast; omega)) ?_)) (Weak.drop (Weak.keep (Weak.keep (ownS.to1 rfl (by rw [List.take_add_one, hvi]; rfl)))))
  · skip
    refine R_exit ?_
    refine Q_then_exit ?_
    refine Q_then_exit ?_
    refine Q_block_eq ?_
    refine St.env (.cons (t := 0) rfl (.cons (t := 2) rfl (.cons (t := 3) rfl .nil))) ?_
    refine Q_then ?_
    refine R_seq ?_
    refine R_seq ?_
    refine R_region ?_
    refine L_val rfl rfl rfl (OpP.v (P_assign rfl rfl)) ?_
    refine L_nil ?_
    refine Q_then ?_
    refine R_block ?_
    obtain rfl : i = 8 := by omega
    have hw8 : Wr us0 us us0.length 0 := by rw [hn8]; exact hw
    refine St.ownSome (p := [_, _]) (by omega) fun mb mc hmv hmc => ?_
    subst hmv
    refine St.res (Weak.famMap (g := Gr.res) Gr.of (fun u _ h hh => pair_of_own hh)) ?_
    refine St.res (rs' := [fam Gr.res (us.map Gr.of), ownS 22 1 (.slice (some ⟨ab, 0, none⟩) 8 ac) 8 (us0.map Ow.val), ownS 22 1 (.slice (some ⟨mb, 0, none⟩) 8 mc) 8 ((us.map Gr.of).map Gr.v)]) (Weak.keep (Weak.keep (ownS.to1 rfl (by rw [← hw8.1, List.map_map, List.take_of_length_le (by rw [List.length_map, hw8.len]; omega)]; rfl)))) ?_
    refine R_loopE (G := Nat × List Gr) (.cons (t := 0) rfl (.cons (t := 2) rfl (.cons (t := 3) rfl .nil))) (fun g => [(6, .int .i64 (g.1 : Int))]) (fun g => [fam Gr.res g.2, ownS 22 1 (.slice (some ⟨ab, 0, none⟩) 8 ac) 8 (us0.map Ow.val), ownS 22 1 (.slice (some ⟨mb, 0, none⟩) 8 mc) 8 (g.2.map Gr.v)]) (fun g => Gw us0 g.2 g.1 0 ∧ g.1 ≤ 70) (fun g => 70 - g.1) (0, us.map Gr.of) (⟨Gw.start hw8, by omega⟩) (by repeat (first | exact .nil | refine .cons rfl ?_ | refine .consE rfl (by first | rfl | (congr 1; omega) | (congr 1; push_cast; omega)) ?_)) (Weak.refl _) ?_
    rintro ⟨k, gs⟩ hinv
    replace hinv : Gw us0 gs k 0 ∧ k ≤ 70 := hinv
    show St (cx gl) _ ((6, .int .i64 (k : Int)) :: _) [fam Gr.res gs, ownS 22 1 (.slice (some ⟨ab, 0, none⟩) 8 ac) 8 (us0.map Ow.val), ownS 22 1 (.slice (some ⟨mb, 0, none⟩) 8 mc) 8 (gs.map Gr.v)] _
    obtain ⟨hg, hk70⟩ := hinv
    refine R_seq ?_
    refine R_seq ?_
    refine R_region ?_
    refine L_val rfl rfl rfl (OpP.v (P_move rfl rfl)) ?_
    refine L_val rfl rfl rfl (OpP.v (P_lss rfl rfl rfl)) ?_
    refine L_nil ?_
    refine Q_then ?_
    refine R_condP rfl (fun hkk => ?_) (fun hkk => ?_)
    · skip
      refine R_skip ?_
      refine Q_then ?_
      refine R_seq ?_
      refine R_block ?_
      refine R_seq ?_
      refine R_region ?_
      refine L_val rfl rfl rfl (OpP.v (P_assign rfl rfl)) ?_
      refine L_nil ?_
      refine Q_then ?_
      refine R_block ?_
      refine R_loopE (G := Nat × List Gr) (.cons (t := 0) rfl (.cons (t := 2) rfl (.cons (t := 3) rfl (.cons (t := 6) rfl (.cons (t := 46) rfl (.cons (t := 47) rfl .nil)))))) (fun g => [(7, .int .i64 (g.1 : Int))]) (fun g => [fam Gr.res g.2, ownS 22 1 (.slice (some ⟨ab, 0, none⟩) 8 ac) 8 (us0.map Ow.val), ownS 22 1 (.slice (some ⟨mb, 0, none⟩) 8 mc) 8 (g.2.map Gr.v)]) (fun g => Gw us0 g.2 k g.1 ∧ g.1 ≤ 8) (fun g => 8 - g.1) (0, gs) (⟨hg, by omega⟩) (by repeat (first | exact .nil | refine .cons rfl ?_ | refine .consE rfl (by first | rfl | (congr 1; omega) | (congr 1; push_cast; omega)) ?_)) (Weak.refl _) ?_
      rintro ⟨i2, gs1⟩ hinv
      replace hinv : Gw us0 gs1 k i2 ∧ i2 ≤ 8 := hinv
      show St (cx gl) _ ((7, .int .i64 (i2 : Int)) :: _) [fam Gr.res gs1, ownS 22 1 (.slice (some ⟨ab, 0, none⟩) 8 ac) 8 (us0.map Ow.val), ownS 22 1 (.slice (some ⟨mb, 0, none⟩) 8 mc) 8 (gs1.map Gr.v)] _
      have hg1 := hinv
      refine R_seq ?_
      refine R_seq ?_
      refine R_region ?_
      refine L_val rfl rfl rfl (OpP.v (P_move rfl rfl)) ?_
      refine L_val rfl rfl rfl (OpP.v (P_move rfl rfl)) ?_
      refine L_val rfl rfl rfl (OpP.v (P_len rfl ty_sl_60 rfl)) ?_
      refine L_val rfl rfl rfl (OpP.v (P_lss rfl rfl rfl)) ?_
      refine L_nil ?_
      refine Q_then ?_
      refine R_condP rfl (fun hi => ?_) (fun hi => ?_)
      · skip
        obtain ⟨g, hgi⟩ : ∃ g, gs1[i2]? = some g := ⟨_, List.getElem?_eq_getElem (by have := hg1.1.len; omega)⟩
        obtain ⟨hgs1, hgs2⟩ := hg1.1.small husm hgi
        obtain ⟨gb, gc, go, gv, gh⟩ := g
        have hgs1 : go.length ≤ 65536 := hgs1
        have hgs2 : gh.length ≤ go.length + (k + 1) := hgs2
        have hgv : (gs1.map Gr.v)[i2]? = some gv := by rw [List.getElem?_map, hgi]; rfl
        refine St.famFact .h0 hgi (p := ∃ b c, gv = .slice b gh.length c) (fun h hh => ?_) ?_
        · obtain ⟨_, b, c, e, _⟩ := pair_forms hh
          exact ⟨b, c, e⟩
        rintro ⟨vb, vc, rfl⟩
        refine St.res (Weak.famOpen hgi) ?_
        refine R_skip ?_
        refine Q_then ?_
        refine R_seq ?_
        refine R_block ?_
        refine R_region ?_
        refine L_val rfl rfl rfl (OpP.v (P_move rfl rfl)) ?_
        refine L_val rfl rfl rfl (OpP.v (P_move rfl rfl)) ?_
        refine L_val rfl rfl rfl (OpP.v (P_move rfl rfl)) ?_
        refine L_val rfl rfl rfl (OpP.v (P_move rfl rfl)) ?_
        refine L_val rfl rfl rfl (OpP.v (P_ixs (i2) rfl ty_sl_60 rfl rfl (by first | rfl | omega) (by omega))) ?_
        refine L_val rfl rfl rfl (V_load rfl rfl ty_sc_22 (rd_own1 .h4 hgv)) ?_
        refine L_val rfl rfl rfl (OpP.v (P_move rfl rfl)) ?_
        refine L_val rfl rfl rfl (OpP.v (P_addN rfl rfl rfl (by simp only [fits]; omega))) ?_
        refine L_val rfl rfl rfl (OpP.v (P_convN rfl ty_int_3 ty_int_39 rfl (by simp only [fits]; omega))) ?_
        refine L_val rfl rfl rfl (OpP.v (P_move rfl rfl)) ?_
        refine L_val rfl rfl rfl (OpP.v (P_convN rfl ty_int_3 ty_int_32 rfl (by simp only [fits]; omega))) ?_
        refine L_val rfl rfl rfl (OpP.v (P_buildStruct rfl ty_pl_48 ty_ze_48 rfl rfl (rfl))) ?_
        refine E_as (t := 67) (v' := .agg (mk1 (2000 + (i2 : Int)) k).cells.toArray) rfl (rfl) ?_
        refine L_op rfl (W_lit (z := .nilIface) ((mk1 (2000 + (i2 : Int)) k).cells) rfl rfl rfl ty_sl_22 ty_lz_22 rfl rfl rfl (by decide) (by decide) (by intro v hv; simp only [List.mem_singleton] at hv; subst hv; rfl) (by simp [Value.cells]) fun b68 => ?_)
        refine L_op rfl (W_appendPair (p := [_]) (m := 1) (news := (mk1 (2000 + (i2 : Int)) k).cells) rfl rfl rfl ty_sl_22 ty_ap_22 ty_src_22 rfl rfl rfl (Src.slice (sz := 3) (Rds.blk .h0) rfl (Mem.cells_one _)) (by omega) (by simp only [maxLen]; omega) fun v69 => ?_)
        refine St.hasFact .h1 (p := ∃ b c, v69 = .slice b (gh.length + 1) c) (fun h hh => by obtain ⟨_, b, c, e, _⟩ := pair_forms hh; exact ⟨b, c, e⟩) ?_
        rintro ⟨nb, nc, rfl⟩
        refine St.res (rs' := [Gr.res (Gr.mk gb gc go (.slice nb (gh.length + 1) nc) (gh ++ [mk1 (2000 + (i2 : Int)) k])), fam Gr.res (gs1.take i2), fam Gr.res (gs1.drop (i2 + 1)), ownS 22 1 (.slice (some ⟨ab, 0, none⟩) 8 ac) 8 (us0.map Ow.val), ownS 22 1 (.slice (some ⟨mb, 0, none⟩) 8 mc) 8 (gs1.map Gr.v)]) (Weak.drop (by unfold Gr.res Gr.oval; rw [List.length_append, ← memC_snoc]; exact Weak.refl _)) ?_
        refine L_val rfl rfl rfl (OpP.v (P_ixs (i2) rfl ty_sl_60 rfl rfl (by first | rfl | omega) (by omega))) ?_
        refine L_op rfl (W_storeOwn1 (T := 22) (sz := 1) (n := 8) (c := mc) (cs := gs1.map Gr.v) rfl rfl rfl rfl ty_sc_22 rfl .h4 (by rw [List.length_map]; have := hg1.1.len; omega) ?_)
        refine St.res (rs' := [Gr.res (Gr.mk gb gc go (.slice nb (gh.length + 1) nc) (gh ++ [mk1 (2000 + (i2 : Int)) k])), fam Gr.res (gs1.take i2), fam Gr.res (gs1.drop (i2 + 1)), ownS 22 1 (.slice (some ⟨ab, 0, none⟩) 8 ac) 8 (us0.map Ow.val), ownS 22 1 (.slice (some ⟨mb, 0, none⟩) 8 mc) 8 ((gs1.set i2 (Gr.mk gb gc go (.slice nb (gh.length + 1) nc) (gh ++ [mk1 (2000 + (i2 : Int)) k]))).map Gr.v)]) (by rw [List.map_set, Nat.zero_add, Nat.mul_one]; exact Weak.refl _) ?_
        refine St.res (Weak.famClose (by have := (List.getElem?_eq_some_iff.1 hgi).1; exact this)) ?_
        refine L_nil ?_
        refine Q_block ?_
        refine Q_then ?_
        refine R_region ?_
        refine L_val rfl rfl rfl (OpP.v (P_move rfl rfl)) ?_
        first | (refine L_val rfl rfl rfl (OpP.v (P_addN rfl rfl rfl (by simp only [fits]; omega))) ?_) | (refine L_val rfl rfl rfl (OpP.v (P_add rfl rfl rfl)) ?_)
        refine L_val rfl rfl rfl (OpP.v (P_assign rfl rfl)) ?_
        refine L_nil ?_
        exact Q_round (i2 + 1, gs1.set i2 (Gr.mk gb gc go (.slice nb (gh.length + 1) nc) (gh ++ [mk1 (2000 + (i2 : Int)) k]))) (⟨hg1.1.step hgi, by omega⟩) (by show 8 - (i2 + 1) < 8 - i2; omega) (by repeat (first | exact .nil | refine .cons rfl ?_ | refine .consE rfl (by first | rfl | (congr 1; omega) | (congr 1; push_cast; omega)) ?_)) (Weak.refl _)
      · skip
        refine R_exit ?_
        refine Q_then_exit ?_
        refine Q_then_exit ?_
        refine Q_block_eq ?_
        refine Q_block ?_
        refine Q_then ?_
        refine R_region ?_
        refine L_val rfl rfl rfl (OpP.v (P_move rfl rfl)) ?_
        first | (refine L_val rfl rfl rfl (OpP.v (P_addN rfl rfl rfl (by simp only [fits]; omega))) ?_) | (refine L_val rfl rfl rfl (OpP.v (P_add rfl rfl rfl)) ?_)
        refine L_val rfl rfl rfl (OpP.v (P_assign rfl rfl)) ?_
        refine L_nil ?_
        exact Q_round (k + 1, gs1) (⟨Gw.next (by rw [hn8, show 8 = i2 by omega]; exact hg1.1), by omega⟩) (by show 70 - (k + 1) < 70 - k; omega) (by repeat (first | exact .nil | refine .cons rfl ?_ | refine .consE rfl (by first | rfl | (congr 1; omega) | (congr 1; push_cast; omega)) ?_)) (Weak.refl _)
    · skip
      refine R_exit ?_
      refine Q_then_exit ?_
      refine Q_then_exit ?_
      refine Q_block_eq ?_
      refine St.env (.cons (t := 0) rfl (.cons (t := 2) rfl (.cons (t := 3) rfl .nil))) ?_
      refine Q_then ?_
      refine R_seq ?_
      refine R_seq ?_
      refine R_region ?_
      refine L_val rfl rfl rfl (OpP.v (P_assign rfl rfl)) ?_
      refine L_nil ?_
      refine Q_then ?_
      refine R_block ?_
      have hg70 : Gw us0 gs 70 0 := by rw [show 70 = k by omega]; exact hg
      refine R_loopE (G := Nat) (.cons (t := 0) rfl (.cons (t := 2) rfl (.cons (t := 3) rfl .nil))) (fun g => [(8, .int .i64 (g : Int))]) (fun _ => _) (fun g => g ≤ 8) (fun g => 8 - g) (0) (Nat.zero_le _) (by repeat (first | exact .nil | refine .cons rfl ?_ | refine .consE rfl (by first | rfl | (congr 1; omega) | (congr 1; push_cast; omega)) ?_)) (Weak.refl _) ?_
      intro i3 hinv
      replace hinv : i3 ≤ 8 := hinv
      show St (cx gl) _ ((8, .int .i64 (i3 : Int)) :: _) _ _
      refine R_seq ?_
      refine R_seq ?_
      refine R_region ?_
      refine L_val rfl rfl rfl (OpP.v (P_move rfl rfl)) ?_
      refine L_val rfl rfl rfl (OpP.v (P_move rfl rfl)) ?_
      refine L_val rfl rfl rfl (OpP.v (P_len rfl ty_sl_60 rfl)) ?_
      refine L_val rfl rfl rfl (OpP.v (P_lss rfl rfl rfl)) ?_
      refine L_nil ?_
      refine Q_then ?_
      refine R_condP rfl (fun hi => ?_) (fun hi => ?_)
      · skip
        obtain ⟨g, hgi⟩ : ∃ g, gs[i3]? = some g := ⟨_, List.getElem?_eq_getElem (by have := hg70.len; omega)⟩
        obtain ⟨hgo, hgh⟩ := hg70.2 _ _ hgi
        have hgl := hg70.at_ hgi
        have hgs0 := (hg70.small husm hgi).1
        obtain ⟨gb, gc, go, gv, gh⟩ := g
        have hglE : (us0.map Ow.val)[i3]? = some (.slice gb go.length gc) := hgl
        have hgv : (gs.map Gr.v)[i3]? = some gv := by rw [List.getElem?_map, hgi]; rfl
        have hgoE : go = mks (1000 + (i3 : Int)) go.length := hgo
        have hghE : gh = go ++ mks (2000 + (i3 : Int)) 70 := hgh
        have hgs1 : go.length ≤ 65536 := hgs0
        have hghl : gh.length = go.length + 70 := by rw [hghE, List.length_append, mks_length]
        refine St.famFact .h0 hgi (p := (0 < go.length → ∃ b, gb = some ⟨b, 0, none⟩) ∧ ∃ b c, gv = .slice (some ⟨b, 0, none⟩) gh.length c) (fun h hh => ?_) ?_
        · obtain ⟨⟨b, c, e, _, e3⟩, b2, c2, e2, _, e4⟩ := pair_forms hh
          obtain ⟨b', rfl⟩ := e4 (show 0 < gh.length by omega)
          refine ⟨fun h => ?_, b', c2, e2⟩
          simp only [Gr.oval, Value.slice.injEq] at e
          rw [e.1]; exact e3 h
        rintro ⟨hgb, vb, vc, rfl⟩
        refine R_skip ?_
        refine Q_then ?_
        refine R_seq ?_
        refine R_block ?_
        refine R_seq ?_
        refine R_region ?_
        refine L_val rfl rfl rfl (OpP.v (P_move rfl rfl)) ?_
        refine L_val rfl rfl rfl (OpP.v (P_move rfl rfl)) ?_
        refine L_val rfl rfl rfl (OpP.v (P_ixs (i3) rfl ty_sl_60 rfl rfl (by first | rfl | omega) (by omega))) ?_
        refine L_val rfl rfl rfl (V_load rfl rfl ty_sc_22 (rd_own1 .h1 hglE)) ?_
        refine L_val rfl rfl rfl (OpP.v (P_len rfl ty_sl_22 rfl)) ?_
        refine L_val rfl rfl rfl (OpP.v (P_assign rfl rfl)) ?_
        refine L_nil ?_
        refine Q_then ?_
        refine R_seq ?_
        refine R_seq ?_
        refine R_region ?_
        refine L_val rfl rfl rfl (OpP.v (P_assign rfl rfl)) ?_
        refine L_nil ?_
        refine Q_then ?_
        refine R_block ?_
        refine R_loopE (G := Nat) (.cons (t := 0) rfl (.cons (t := 2) rfl (.cons (t := 3) rfl (.cons (t := 8) rfl (.cons (t := 9) rfl (.cons (t := 71) rfl (.cons (t := 72) rfl (.cons (t := 73) rfl (.cons (t := 74) rfl (.cons (t := 77) rfl (.cons (t := 78) rfl (.cons (t := 79) rfl (.cons (t := 80) rfl (.cons (t := 81) rfl .nil)))))))))))))) (fun g => [(10, .int .i64 (g : Int))]) (fun _ => _) (fun g => g ≤ go.length) (fun g => go.length - g) (0) (Nat.zero_le _) (by repeat (first | exact .nil | refine .cons rfl ?_ | refine .consE rfl (by first | rfl | (congr 1; omega) | (congr 1; push_cast; omega)) ?_)) (Weak.refl _) ?_
        intro k3 hinv
        replace hinv : k3 ≤ go.length := hinv
        show St (cx gl) _ ((10, .int .i64 (k3 : Int)) :: _) _ _
        refine R_seq ?_
        refine R_seq ?_
        refine R_region ?_
        refine L_val rfl rfl rfl (OpP.v (P_move rfl rfl)) ?_
        refine L_val rfl rfl rfl (OpP.v (P_move rfl rfl)) ?_
        refine L_val rfl rfl rfl (OpP.v (P_lss rfl rfl rfl)) ?_
        refine L_nil ?_
        refine Q_then ?_
        refine R_condP rfl (fun hk => ?_) (fun hk => ?_)
        · skip
          have hk : (k3 : Int) < (go.length : Int) := hk
          obtain ⟨ob, rfl⟩ := hgb (by omega)
          have hat : go[k3]? = some (mk1 (1000 + (i3 : Int)) k3) := by rw [hgoE]; exact mks_at (by omega)
          refine R_skip ?_
          refine Q_then ?_
          refine R_seq ?_
          refine R_block ?_
          refine R_seq ?_
          refine R_region ?_
          refine L_val rfl rfl rfl (OpP.v (P_move rfl rfl)) ?_
          refine L_val rfl rfl rfl (OpP.v (P_move rfl rfl)) ?_
          refine L_val rfl rfl rfl (OpP.v (P_ixs (i3) rfl ty_sl_60 rfl rfl (by first | rfl | omega) (by omega))) ?_
          refine L_val rfl rfl rfl (V_load rfl rfl ty_sc_22 (rd_own1 .h1 hglE)) ?_
          refine L_val rfl rfl rfl (OpP.v (P_move rfl rfl)) ?_
          refine L_val rfl rfl rfl (OpP.v (P_ixs (k3) rfl ty_sl_22 rfl rfl (by first | rfl | omega) (by omega))) ?_
          refine L_val rfl rfl rfl (V_loadAgg rfl rfl ty_ag_48 (Rds.sn (k := k3 * 3) (us := (mk1 (1000 + (i3 : Int)) k3).cells) (Sn.fam .h0 hgi fun rs m => Sn.pairOld m rfl) (fun j v hv => rows_at (mem_len go) hat j v hv)) (rfl)) ?_
          refine L_val rfl rfl rfl (OpP.v (P_move rfl rfl)) ?_
          refine L_val rfl rfl rfl (OpP.v (P_addN rfl rfl rfl (by simp only [fits]; omega))) ?_
          refine L_val rfl rfl rfl (OpP.v (P_convN rfl ty_int_3 ty_int_39 rfl (by simp only [fits]; omega))) ?_
          refine L_val rfl rfl rfl (OpP.v (P_move rfl rfl)) ?_
          refine L_val rfl rfl rfl (OpP.v (P_convN rfl ty_int_3 ty_int_32 rfl (by simp only [fits]; omega))) ?_
          refine L_val rfl rfl rfl (OpP.v (P_buildStruct rfl ty_pl_48 ty_ze_48 rfl rfl (rfl))) ?_
          refine E_as (t := 99) (v' := .agg (mk1 (1000 + (i3 : Int)) k3).cells.toArray) rfl (rfl) ?_
          refine L_val rfl rfl rfl (OpP.v (P_neq_struct (b := false) rfl se_me rfl rfl rfl rfl (Mem.cells_kind (mk1 (1000 + (i3 : Int)) k3) (mk1 (1000 + (i3 : Int)) k3)) ⟨fun _ => rfl, fun _ => rfl⟩)) ?_
          refine E_false (t := 100) rfl (rfl) ?_
          refine L_nil ?_
          refine Q_then ?_
          refine R_condF rfl ?_
          refine R_skip ?_
          refine Q_block ?_
          refine Q_then ?_
          refine R_region ?_
          refine L_val rfl rfl rfl (OpP.v (P_move rfl rfl)) ?_
          first | (refine L_val rfl rfl rfl (OpP.v (P_addN rfl rfl rfl (by simp only [fits]; omega))) ?_) | (refine L_val rfl rfl rfl (OpP.v (P_add rfl rfl rfl)) ?_)
          refine L_val rfl rfl rfl (OpP.v (P_assign rfl rfl)) ?_
          refine L_nil ?_
          exact Q_round (k3 + 1) (by omega) (by show go.length - (k3 + 1) < go.length - k3; omega) (by repeat (first | exact .nil | refine .cons rfl ?_ | refine .consE rfl (by first | rfl | (congr 1; omega) | (congr 1; push_cast; omega)) ?_)) (Weak.refl _)
        · skip
          refine R_exit ?_
          refine Q_then_exit ?_
          refine Q_then_exit ?_
          refine Q_block_eq ?_
          refine Q_then ?_
          refine R_seq ?_
          refine R_region ?_
          refine L_val rfl rfl rfl (OpP.v (P_assign rfl rfl)) ?_
          refine L_nil ?_
          refine Q_then ?_
          refine R_block ?_
          refine R_loopE (G := Nat) (.cons (t := 0) rfl (.cons (t := 2) rfl (.cons (t := 3) rfl (.cons (t := 8) rfl (.cons (t := 9) rfl (.cons (t := 10) rfl (.cons (t := 71) rfl (.cons (t := 72) rfl (.cons (t := 73) rfl (.cons (t := 74) rfl (.cons (t := 77) rfl (.cons (t := 78) rfl (.cons (t := 79) rfl (.cons (t := 80) rfl (.cons (t := 81) rfl (.cons (t := 82) rfl (.cons (t := 83) rfl (.cons (t := 84) rfl .nil)))))))))))))))))) (fun g => [(11, .int .i64 (g : Int))]) (fun _ => _) (fun g => g ≤ 70) (fun g => 70 - g) (0) (Nat.zero_le _) (by repeat (first | exact .nil | refine .cons rfl ?_ | refine .consE rfl (by first | rfl | (congr 1; omega) | (congr 1; push_cast; omega)) ?_)) (Weak.refl _) ?_
          intro k4 hinv
          replace hinv : k4 ≤ 70 := hinv
          show St (cx gl) _ ((11, .int .i64 (k4 : Int)) :: _) _ _
          refine R_seq ?_
          refine R_seq ?_
          refine R_region ?_
          refine L_val rfl rfl rfl (OpP.v (P_move rfl rfl)) ?_
          refine L_val rfl rfl rfl (OpP.v (P_lss rfl rfl rfl)) ?_
          refine L_nil ?_
          refine Q_then ?_
          refine R_condP rfl (fun hk => ?_) (fun hk => ?_)
          · skip
            have hat : gh[go.length + k4]? = some (mk1 (2000 + (i3 : Int)) k4) := by rw [hghE, List.getElem?_append_right (by omega), Nat.add_sub_cancel_left]; exact mks_at (by omega)
            refine R_skip ?_
            refine Q_then ?_
            refine R_seq ?_
            refine R_block ?_
            refine R_seq ?_
            refine R_region ?_
            refine L_val rfl rfl rfl (OpP.v (P_move rfl rfl)) ?_
            refine L_val rfl rfl rfl (OpP.v (P_move rfl rfl)) ?_
            refine L_val rfl rfl rfl (OpP.v (P_ixs (i3) rfl ty_sl_60 rfl rfl (by first | rfl | omega) (by omega))) ?_
            refine L_val rfl rfl rfl (V_load rfl rfl ty_sc_22 (rd_own1 .h2 hgv)) ?_
            refine L_val rfl rfl rfl (OpP.v (P_move rfl rfl)) ?_
            refine L_val rfl rfl rfl (OpP.v (P_move rfl rfl)) ?_
            refine L_val rfl rfl rfl (OpP.v (P_addN rfl rfl rfl (by simp only [fits]; omega))) ?_
            refine L_val rfl rfl rfl (OpP.v (P_ixs (go.length + k4) rfl ty_sl_22 rfl rfl (by first | rfl | omega) (by omega))) ?_
            refine L_val rfl rfl rfl (V_loadAgg rfl rfl ty_ag_48 (Rds.sn (k := (go.length + k4) * 3) (us := (mk1 (2000 + (i3 : Int)) k4).cells) (Sn.fam .h0 hgi fun rs m => Sn.pairNew m rfl) (fun j v hv => rows_at (mem_len gh) hat j v hv)) (rfl)) ?_
            refine L_val rfl rfl rfl (OpP.v (P_move rfl rfl)) ?_
            refine L_val rfl rfl rfl (OpP.v (P_addN rfl rfl rfl (by simp only [fits]; omega))) ?_
            refine L_val rfl rfl rfl (OpP.v (P_convN rfl ty_int_3 ty_int_39 rfl (by simp only [fits]; omega))) ?_
            refine L_val rfl rfl rfl (OpP.v (P_move rfl rfl)) ?_
            refine L_val rfl rfl rfl (OpP.v (P_convN rfl ty_int_3 ty_int_32 rfl (by simp only [fits]; omega))) ?_
            refine L_val rfl rfl rfl (OpP.v (P_buildStruct rfl ty_pl_48 ty_ze_48 rfl rfl (rfl))) ?_
            refine E_as (t := 119) (v' := .agg (mk1 (2000 + (i3 : Int)) k4).cells.toArray) rfl (rfl) ?_
            refine L_val rfl rfl rfl (OpP.v (P_neq_struct (b := false) rfl se_me rfl rfl rfl rfl (Mem.cells_kind (mk1 (2000 + (i3 : Int)) k4) (mk1 (2000 + (i3 : Int)) k4)) ⟨fun _ => rfl, fun _ => rfl⟩)) ?_
            refine E_false (t := 120) rfl (rfl) ?_
            refine L_nil ?_
            refine Q_then ?_
            refine R_condF rfl ?_
            refine R_skip ?_
            refine Q_block ?_
            refine Q_then ?_
            refine R_region ?_
            refine L_val rfl rfl rfl (OpP.v (P_move rfl rfl)) ?_
            first | (refine L_val rfl rfl rfl (OpP.v (P_addN rfl rfl rfl (by simp only [fits]; omega))) ?_) | (refine L_val rfl rfl rfl (OpP.v (P_add rfl rfl rfl)) ?_)
            refine L_val rfl rfl rfl (OpP.v (P_assign rfl rfl)) ?_
            refine L_nil ?_
            exact Q_round (k4 + 1) (by omega) (by show 70 - (k4 + 1) < 70 - k4; omega) (by repeat (first | exact .nil | refine .cons rfl ?_ | refine .consE rfl (by first | rfl | (congr 1; omega) | (congr 1; push_cast; omega)) ?_)) (Weak.refl _)
          · skip
            refine R_exit ?_
            refine Q_then_exit ?_
            refine Q_then_exit ?_
            refine Q_block_eq ?_
            refine Q_block ?_
            refine Q_then ?_
            refine R_region ?_
            refine L_val rfl rfl rfl (OpP.v (P_move rfl rfl)) ?_
            first | (refine L_val rfl rfl rfl (OpP.v (P_addN rfl rfl rfl (by simp only [fits]; omega))) ?_) | (refine L_val rfl rfl rfl (OpP.v (P_add rfl rfl rfl)) ?_)
            refine L_val rfl rfl rfl (OpP.v (P_assign rfl rfl)) ?_
            refine L_nil ?_
            exact Q_round (i3 + 1) (by omega) (by show 8 - (i3 + 1) < 8 - i3; omega) (by repeat (first | exact .nil | refine .cons rfl ?_ | refine .consE rfl (by first | rfl | (congr 1; omega) | (congr 1; push_cast; omega)) ?_)) (Weak.refl _)
      · skip
        refine R_exit ?_
        refine Q_then_exit ?_
        refine Q_then_exit ?_
        refine Q_block_eq ?_
        refine St.env (.cons (t := 2) rfl .nil) ?_
        refine Q_then ?_
        refine R_seq ?_
        refine R_region ?_
        refine L_val rfl rfl rfl (OpP.v (P_assign rfl rfl)) ?_
        refine L_nil ?_
        refine Q_then ?_
        refine R_ret ?_
        exact R_end (rs2 := []) rfl rfl (.tmp rfl .nil) (⟨rfl, rfl⟩) (Weak.nil _)
end Go.Proofs.Ytjhhpagcejgclaa
