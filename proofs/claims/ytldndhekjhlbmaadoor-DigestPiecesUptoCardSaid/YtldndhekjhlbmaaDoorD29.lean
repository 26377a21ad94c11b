/- The walk of DigestPieces. Printed by gen.py. -/
import Derived.Test.YtldndhekjhlbmaaDoorD15
import Derived.Test.YtldndhekjhlbmaaDoorAlive
import Derived.Test.YtldndhekjhlbmaaDoorRead
import Derived.Test.YtldndhekjhlbmaaDoorD8
set_option linter.unusedVariables false
set_option linter.unusedSimpArgs false
set_option maxRecDepth 100000
namespace Go.Proofs.YtldndhekjhlbmaaDoor
open Go Go.RowKit Go.Proofs
/-- A step of a script over hashers. -/
structure Stp where
  kind : Int
  on : Int
  b : Option Addr
  c : Nat
  x : List Int
def Stp.cells (s : Stp) : List Value := [.int .i64 s.kind, .int .i64 s.on, .slice s.b s.x.length s.c]
theorem stp_len {steps : List Stp} : ∀ s ∈ steps, s.cells.length = 3 := fun _ _ => rfl
/-- A hasher and what it was given. -/
structure Tx where
  hp : Nat
  x : List Int
  v : Value
def Tx.H (t : Tx) : HP := hasher t.hp t.x
def Tx.X (t : Tx) : HP := ownS 5 1 t.v t.x.length (ints .u8 t.x)
def Tx.ptr (t : Tx) : Value := .pointer (some ⟨t.hp, 0, none⟩)
def Tx.OH (v : Value) (ts : List Tx) : HP := ownS 33 1 v ts.length (ts.map Tx.ptr)
def Tx.OT (v : Value) (ts : List Tx) : HP := ownS 26 1 v ts.length (ts.map Tx.v)
def given (steps : List Stp) : Nat := (steps.map fun s => s.x.length).sum
theorem given_take {steps : List Stp} {i : Nat} {s : Stp} (h : steps[i]? = some s) : given (steps.take (i + 1)) = given (steps.take i) + s.x.length := by
  unfold given; rw [List.take_add_one, h, List.map_append, List.sum_append]; simp
theorem given_le {steps : List Stp} (i : Nat) : given (steps.take i) ≤ given steps := by
  have h : given steps = given (steps.take i) + given (steps.drop i) := by
    unfold given; rw [← List.sum_append, ← List.map_append, List.take_append_drop]
  omega
def PInv (steps : List Stp) (i : Nat) (ts : List Tx) : Prop := 1 ≤ ts.length ∧ ts.length ≤ i + 1 ∧ i ≤ steps.length ∧ ∀ t ∈ ts, t.x.length ≤ given (steps.take i)
theorem PInv.add {steps : List Stp} {i : Nat} {ts : List Tx} {s : Stp} {t : Tx} (h : PInv steps i ts) (hs : steps[i]? = some s) (ht : t.x.length ≤ given (steps.take i)) : PInv steps (i + 1) (ts ++ [t]) := by
  obtain ⟨h1, h2, h3, h4⟩ := h
  have := (List.getElem?_eq_some_iff.1 hs).1
  refine ⟨by simp, by simp; omega, by omega, fun t' ht' => ?_⟩
  rw [given_take hs]
  rcases List.mem_append.1 ht' with h | h
  · have := h4 t' h; omega
  · obtain rfl := List.mem_singleton.1 h; omega
theorem PInv.set {steps : List Stp} {i k : Nat} {ts : List Tx} {s : Stp} {t : Tx} (h : PInv steps i ts) (hs : steps[i]? = some s) (ht : t.x.length ≤ given (steps.take i) + s.x.length) : PInv steps (i + 1) (ts.set k t) := by
  obtain ⟨h1, h2, h3, h4⟩ := h
  have := (List.getElem?_eq_some_iff.1 hs).1
  refine ⟨by simpa using h1, by simp; omega, by omega, fun t' ht' => ?_⟩
  rw [given_take hs]
  rcases List.mem_or_eq_of_mem_set ht' with h | rfl
  · have := h4 t' h; omega
  · exact ht
theorem PInv.same {steps : List Stp} {i : Nat} {ts : List Tx} {s : Stp} (h : PInv steps i ts) (hs : steps[i]? = some s) : PInv steps (i + 1) ts := by
  obtain ⟨h1, h2, h3, h4⟩ := h
  have := (List.getElem?_eq_some_iff.1 hs).1
  exact ⟨h1, by omega, by omega, fun t' ht' => by rw [given_take hs]; have := h4 t' ht'; omega⟩
theorem tmod_bounds (a : Int) {n : Int} (h : 0 < n) : -n < a.tmod n ∧ a.tmod n < n := by
  refine ⟨?_, Int.tmod_lt_of_pos a h⟩
  have := Int.tmod_lt_of_pos (-a) h
  rw [Int.neg_tmod] at this
  omega
theorem own_to {T sz n n' : Nat} {v : Value} {cs cs' : List Value} {h : Heap} (hn : n = n') (hc : cs = cs') (x : ownS T sz v n cs h) : ownS T sz v n' cs' h := by subst hn; subst hc; exact x
theorem own_form {T sz n : Nat} {v : Value} {cs : List Value} {h : Heap} (x : ownS T sz v n cs h) : ∃ b c, v = .slice b n c ∧ n ≤ c := x.form
set_option maxHeartbeats 2000000 in
theorem digestPieces_walk {gl : Nat → Obj} (hG : GlobsR gl) (sb : Option Addr) (sc : Nat) (steps : List Stp) (hsc : steps.length ≤ sc) (hlen : steps.length ≤ 1048576) (hsum : given steps ≤ 1048576) (hst : ∀ s ∈ steps, s.x.length ≤ s.c ∧ IsB s.x) : SpecV (cx gl) 5 [.slice sb steps.length sc] (fun w => Row w sb (steps.flatMap Stp.cells) ∧ ∀ s ∈ steps, Row w s.b (ints .u8 s.x)) (.bool true) := by
  refine Spec.enter (C := cx gl) Tryd.func5 rfl 152 rfl rfl fun w0 h0 hsep hsub hpre => ?_
  obtain rfl : h0 = Heap.none := hsep
  show St (cx gl) _ [(0, .slice sb steps.length sc)] _ _
  refine R_seq ?_
  refine R_region ?_
  refine L_val rfl rfl rfl (OpP.v (P_assign rfl rfl)) ?_
  refine L_nil ?_
  refine Q_then ?_
  refine R_seq ?_
  refine R_region ?_
  refine L_op rfl (W_callV rfl rfl rfl rfl fn_ca_20 (alive_ok hG.toGlobs) (fun _ _ => trivial) ?_)
  refine E_true (t := 17) rfl (rfl) ?_
  refine L_val rfl rfl rfl (OpP.v (P_assign rfl rfl)) ?_
  refine L_nil ?_
  refine St.env (.cons (t := 0) rfl (.cons (t := 2) rfl (.cons (t := 3) rfl .nil))) ?_
  refine Q_then ?_
  refine R_seq ?_
  refine R_seq ?_
  refine R_region ?_
  refine L_val rfl rfl rfl (OpP.v (P_move rfl rfl)) ?_
  refine L_val rfl rfl rfl (OpP.v (P_not rfl rfl)) ?_
  refine L_nil ?_
  refine St.env (.cons (t := 0) rfl (.cons (t := 2) rfl (.cons (t := 19) rfl .nil))) ?_
  refine Q_then ?_
  refine R_condF rfl ?_
  refine R_skip ?_
  refine Q_then ?_
  refine R_seq ?_
  refine R_region ?_
  refine L_op rfl (W_call rfl rfl rfl rfl fn_ca_21 (new_ok hG.toGlobs) (Split.nil _) (fun _ _ _ _ _ _ _ => trivial) fun v20 rs1 ⟨hb0, e1, e2⟩ => ?_)
  subst e1; subst e2
  refine L_val rfl rfl rfl (OpP.v (P_assign rfl rfl)) ?_
  refine L_nil ?_
  refine St.env (.cons (t := 0) rfl (.cons (t := 2) rfl (.cons (t := 4) rfl .nil))) ?_
  refine Q_then ?_
  refine R_seq ?_
  refine R_seq ?_
  refine R_region ?_
  refine L_val rfl rfl rfl (OpP.v (P_move rfl rfl)) ?_
  refine L_val rfl rfl rfl (OpP.v (P_eqNil rfl ty_ptr_33 rfl rfl)) ?_
  refine L_nil ?_
  refine St.env (.cons (t := 0) rfl (.cons (t := 2) rfl (.cons (t := 4) rfl (.cons (t := 22) rfl .nil)))) ?_
  refine Q_then ?_
  refine R_condF rfl ?_
  refine R_skip ?_
  refine Q_then ?_
  refine R_seq ?_
  refine R_region ?_
  refine L_val rfl rfl rfl (OpP.v (P_move rfl rfl)) ?_
  refine L_op rfl (W_lit (z := .nilIface) ([.pointer (some ⟨hb0, 0, none⟩)]) rfl rfl rfl ty_sl_35 ty_lz_35 rfl rfl rfl (by decide) (by decide) (by simp [Value.cells]) (rfl) fun b24 => ?_)
  refine L_val rfl rfl rfl (OpP.v (P_assign rfl rfl)) ?_
  refine L_nil ?_
  refine St.env (.cons (t := 0) rfl (.cons (t := 2) rfl (.cons (t := 5) rfl .nil))) ?_
  refine Q_then ?_
  refine R_seq ?_
  refine R_region ?_
  refine L_op rfl (W_lit (z := .nilIface) ([.slice none 0 0]) rfl rfl rfl ty_sl_36 ty_lz_36 rfl rfl rfl (by decide) (by decide) (by simp [Value.cells]) (rfl) fun b25 => ?_)
  refine L_val rfl rfl rfl (OpP.v (P_assign rfl rfl)) ?_
  refine L_nil ?_
  refine St.env (.cons (t := 0) rfl (.cons (t := 2) rfl (.cons (t := 5) rfl (.cons (t := 6) rfl .nil)))) ?_
  refine Q_then ?_
  refine R_seq ?_
  refine R_seq ?_
  refine R_region ?_
  refine L_val rfl rfl rfl (OpP.v (P_assign rfl rfl)) ?_
  refine L_nil ?_
  refine Q_then ?_
  refine R_block ?_
  refine St.res (rs' := [fam Tx.H [(Tx.mk hb0 [] (.slice none 0 0))], fam Tx.X [(Tx.mk hb0 [] (.slice none 0 0))], Tx.OH (.slice (some ⟨b24, 0, none⟩) 1 1) [(Tx.mk hb0 [] (.slice none 0 0))], Tx.OT (.slice (some ⟨b25, 0, none⟩) 1 1) [(Tx.mk hb0 [] (.slice none 0 0))]]) (Weak.trans (Weak.pick (p := [_, _]) (Weak.pick (p := [_]) (Weak.keep (Weak.nil _)))) (Weak.trans (Weak.famOne (f := Tx.H) (x := (Tx.mk hb0 [] (.slice none 0 0)))) (Weak.trans Weak.newNil (Weak.trans (Weak.famOne (f := Tx.X) (x := (Tx.mk hb0 [] (.slice none 0 0)))) (Weak.trans Weak.swap (Weak.keep (Weak.keep (Weak.trans (Weak.turn .h0 (ownS.of_blk (n := 1) rfl (by decide))) (Weak.keep (Weak.turn .h0 (ownS.of_blk (n := 1) rfl (by decide)))))))))))) ?_
  refine R_loopE (G := Nat × List Tx × Value × Value) (.cons (t := 0) rfl (.cons (t := 2) rfl .nil)) (fun g => [(5, g.2.2.1), (6, g.2.2.2), (7, .int .i64 (g.1 : Int))]) (fun g => [fam Tx.H g.2.1, fam Tx.X g.2.1, Tx.OH (g.2.2.1) g.2.1, Tx.OT (g.2.2.2) g.2.1]) (fun g => PInv steps g.1 g.2.1) (fun g => steps.length - g.1) (0, [(Tx.mk hb0 [] (.slice none 0 0))], .slice (some ⟨b24, 0, none⟩) 1 1, .slice (some ⟨b25, 0, none⟩) 1 1) (⟨Nat.le_refl _, Nat.le_refl _, Nat.zero_le _, fun t ht => by obtain rfl := List.mem_singleton.1 ht; exact Nat.zero_le _⟩) (by repeat (first | exact .nil | refine .cons rfl ?_ | refine .consE rfl (by first | rfl | (congr 1; omega) | (congr 1; push_cast; omega)) ?_)) (Weak.refl _) ?_
  rintro ⟨i, ts, hv, tv⟩ hinv
  replace hinv : PInv steps i ts := hinv
  show St (cx gl) _ ((5, hv) :: (6, tv) :: (7, .int .i64 (i : Int)) :: _) [fam Tx.H ts, fam Tx.X ts, Tx.OH (hv) ts, Tx.OT (tv) ts] _
  have hI := hinv
  have hI2 := hI
  obtain ⟨hn1, hni, his, hxs⟩ := hI2
  refine St.ownSome (p := [_, _]) (T := 33) (sz := 1) (cs := ts.map Tx.ptr) hn1 fun hb hc hhv hhc => ?_
  subst hhv
  refine St.ownSome (p := [_, _, _]) (T := 26) (sz := 1) (cs := ts.map Tx.v) hn1 fun tb tc htv htc => ?_
  subst htv
  refine R_seq ?_
  refine R_seq ?_
  refine R_region ?_
  refine L_val rfl rfl rfl (OpP.v (P_move rfl rfl)) ?_
  refine L_val rfl rfl rfl (OpP.v (P_move rfl rfl)) ?_
  refine L_val rfl rfl rfl (OpP.v (P_len rfl ty_sl_31 rfl)) ?_
  refine L_val rfl rfl rfl (OpP.v (P_lss rfl rfl rfl)) ?_
  refine L_nil ?_
  refine Q_then ?_
  refine R_condP rfl (fun hlt => ?_) (fun hlt => ?_)
  · skip
    have hlt' : i < steps.length := by omega
    obtain ⟨s, hs⟩ : ∃ s, steps[i]? = some s := ⟨_, List.getElem?_eq_getElem hlt'⟩
    have hsm := List.mem_of_getElem? hs
    obtain ⟨hsc1, hsb⟩ := hst s hsm
    have hgs : given (steps.take i) + s.x.length ≤ 1048576 := by rw [← given_take hs]; exact Nat.le_trans (given_le _) hsum
    obtain ⟨pb, pj, rfl, hrow⟩ := hpre.1.some_ (by rw [rows_length stp_len]; omega)
    have hrs := hpre.2 s hsm
    refine R_skip ?_
    refine Q_then ?_
    refine R_seq ?_
    refine R_block ?_
    refine R_seq ?_
    refine R_region ?_
    refine L_val rfl rfl rfl (OpP.v (P_move rfl rfl)) ?_
    refine L_val rfl rfl rfl (OpP.v (P_move rfl rfl)) ?_
    refine L_val rfl rfl rfl (OpP.v (P_ixs (i) rfl ty_sl_31 rfl rfl (by first | rfl | omega) (by omega))) ?_
    refine L_val rfl rfl rfl (V_loadAgg rfl rfl ty_ag_38 ((Rds.row hrow rfl).part (i * 3) (fun j v hv => rows_at stp_len hs j v hv)) (rfl)) ?_
    refine L_op rfl (W_alloc rfl rfl rfl ty_ze_38 fun b8 => ?_)
    refine L_op rfl (W_storeAll rfl rfl rfl rfl ty_ag_38 (rfl) (by intro v hv; simp [Stp.cells] at hv; rcases hv with rfl | rfl | rfl <;> rfl) .h0 (rfl) ?_)
    refine L_nil ?_
    refine Q_then ?_
    refine R_seq ?_
    refine R_region ?_
    refine L_val rfl rfl rfl (OpP.v (P_fld0 rfl ty_fl_38_1 rfl)) ?_
    refine L_val rfl rfl rfl (V_load rfl rfl ty_sc_3 (Rd.blk .h0 rfl)) ?_
    refine L_val rfl rfl rfl (OpP.v (P_move rfl rfl)) ?_
    refine L_val rfl rfl rfl (OpP.v (P_len rfl ty_sl_35 rfl)) ?_
    refine L_val rfl rfl rfl (OpP.v (P_rem rfl rfl rfl (by omega))) ?_
    obtain ⟨tm, htm⟩ : ∃ tm, tm = s.on.tmod (ts.length : Int) := ⟨_, rfl⟩
    have htb := tmod_bounds s.on (n := (ts.length : Int)) (by omega)
    rw [← htm] at htb
    refine E_as (t := 40) (v' := .int .i64 tm) rfl (by rw [htm]) ?_
    refine L_val rfl rfl rfl (OpP.v (P_assign rfl rfl)) ?_
    refine L_nil ?_
    refine Q_then ?_
    refine R_joinE0 (G := Nat) (.cons (t := 0) rfl (.cons (t := 2) rfl (.cons (t := 5) rfl (.cons (t := 6) rfl (.cons (t := 7) rfl (.cons (t := 8) rfl (.cons (t := 26) rfl (.cons (t := 27) rfl (.cons (t := 28) rfl (.cons (t := 29) rfl (.cons (t := 32) rfl (.cons (t := 33) rfl (.cons (t := 34) rfl (.cons (t := 35) rfl (.cons (t := 36) rfl (.cons (t := 37) rfl (.cons (t := 38) rfl (.cons (t := 39) rfl (.cons (t := 40) rfl .nil))))))))))))))))))) (fun g => [(9, .int .i64 (g : Int))]) (fun g => g < ts.length) ?_ ?_
    · skip
      refine R_seq ?_
      refine R_region ?_
      refine L_val rfl rfl rfl (OpP.v (P_move rfl rfl)) ?_
      refine L_val rfl rfl rfl (OpP.v (P_lss rfl rfl rfl)) ?_
      refine L_nil ?_
      refine Q_then ?_
      refine R_condP rfl (fun h3 => ?_) (fun h3 => ?_)
      · skip
        refine R_region ?_
        refine L_val rfl rfl rfl (OpP.v (P_move rfl rfl)) ?_
        refine L_val rfl rfl rfl (OpP.v (P_move rfl rfl)) ?_
        refine L_val rfl rfl rfl (OpP.v (P_len rfl ty_sl_35 rfl)) ?_
        first | (refine L_val rfl rfl rfl (OpP.v (P_addN rfl rfl rfl (by simp only [fits]; omega))) ?_) | (refine L_val rfl rfl rfl (OpP.v (P_add rfl rfl rfl)) ?_)
        refine L_val rfl rfl rfl (OpP.v (P_assign rfl rfl)) ?_
        refine L_nil ?_
        exact Q_meet ((tm + (ts.length : Int)).toNat) (by omega) (by repeat (first | exact .nil | refine .cons rfl ?_ | refine .consE rfl (by first | rfl | (congr 1; omega) | (congr 1; push_cast; omega)) ?_)) (Weak.refl _)
      · skip
        refine R_skip ?_
        exact Q_meet (tm.toNat) (by omega) (by repeat (first | exact .nil | refine .cons rfl ?_ | refine .consE rfl (by first | rfl | (congr 1; omega) | (congr 1; push_cast; omega)) ?_)) (Weak.refl _)
    · intro k hinv
      replace hinv : k < ts.length := hinv
      show St (cx gl) _ ((9, .int .i64 (k : Int)) :: _) _ _
      obtain ⟨⟨hp, x, v⟩, hk⟩ : ∃ t, ts[k]? = some t := ⟨_, List.getElem?_eq_getElem hinv⟩
      have hkp : (ts.map Tx.ptr)[k]? = some (.pointer (some ⟨hp, 0, none⟩)) := by rw [List.getElem?_map, hk]; rfl
      have hkv : (ts.map Tx.v)[k]? = some v := by rw [List.getElem?_map, hk]; rfl
      have hxl : x.length ≤ given (steps.take i) := hxs _ (List.mem_of_getElem? hk)
      refine St.famFact .h2 hk (p := ∃ b c, v = .slice b x.length c ∧ x.length ≤ c) (fun h hh => own_form hh) ?_
      rintro ⟨vb, vc, rfl, hvc⟩
      refine R_seq ?_
      refine R_region ?_
      refine L_val rfl rfl rfl (OpP.v (P_fld0 rfl ty_fl_38_0 rfl)) ?_
      refine L_val rfl rfl rfl (V_load rfl rfl ty_sc_3 (Rd.blk .h0 rfl)) ?_
      refine L_nil ?_
      refine Q_then ?_
      refine R_block ?_
      refine R_seq ?_
      refine R_region ?_
      refine L_val rfl rfl rfl (OpP.v (P_eql rfl rfl rfl)) ?_
      refine L_val rfl rfl rfl (OpP.v (P_assign rfl rfl)) ?_
      refine L_nil ?_
      refine Q_then ?_
      refine R_condP rfl (fun h4 => ?_) (fun h4 => ?_)
      · skip
        refine R_seq ?_
        refine R_region ?_
        refine L_op rfl (W_call rfl rfl rfl rfl fn_ca_21 (new_ok hG.toGlobs) (Split.nil _) (fun _ _ _ _ _ _ _ => trivial) fun v63 rs1 ⟨nb, e1, e2⟩ => ?_)
        subst e1; subst e2
        refine L_val rfl rfl rfl (OpP.v (P_assign rfl rfl)) ?_
        refine L_nil ?_
        refine Q_then ?_
        refine R_seq ?_
        refine R_seq ?_
        refine R_region ?_
        refine L_val rfl rfl rfl (OpP.v (P_move rfl rfl)) ?_
        refine L_val rfl rfl rfl (OpP.v (P_eqNil rfl ty_ptr_33 rfl rfl)) ?_
        refine L_nil ?_
        refine Q_then ?_
        refine R_condF rfl ?_
        refine R_skip ?_
        refine Q_then ?_
        refine R_seq ?_
        refine R_region ?_
        refine L_val rfl rfl rfl (OpP.v (P_move rfl rfl)) ?_
        refine L_val rfl rfl rfl (OpP.v (P_move rfl rfl)) ?_
        refine L_op rfl (W_lit (z := .nilIface) ([.pointer (some ⟨nb, 0, none⟩)]) rfl rfl rfl ty_sl_35 ty_lz_35 rfl rfl rfl (by decide) (by decide) (by simp [Value.cells]) (rfl) fun b68 => ?_)
        refine L_op rfl (W_append (p := [_, _, _, _, _]) rfl rfl rfl ty_sl_35 ty_ap_35 ty_src_35 rfl rfl rfl (Src.slice (sz := 1) (m := 1) (news := [.pointer (some ⟨nb, 0, none⟩)]) (Rds.blk .h0) rfl (by simp [Value.oneCell'])) (by omega) (by simp only [maxLen]; omega) fun v69 => ?_)
        refine L_val rfl rfl rfl (OpP.v (P_assign rfl rfl)) ?_
        refine L_nil ?_
        refine Q_then ?_
        refine R_region ?_
        refine L_val rfl rfl rfl (OpP.v (P_move rfl rfl)) ?_
        refine L_op rfl (W_lit (z := .nilIface) ([.slice none 0 0]) rfl rfl rfl ty_sl_36 ty_lz_36 rfl rfl rfl (by decide) (by decide) (by simp [Value.cells]) (rfl) fun b71 => ?_)
        refine L_op rfl (W_append (p := [_, _, _, _, _, _, _]) rfl rfl rfl ty_sl_36 ty_ap_36 ty_src_36 rfl rfl rfl (Src.slice (sz := 1) (m := 1) (news := [.slice none 0 0]) (Rds.blk .h0) rfl (by simp [Value.oneCell'])) (by omega) (by simp only [maxLen]; omega) fun v72 => ?_)
        refine St.res (rs' := [fam Tx.H (ts ++ [Tx.mk nb [] (.slice none 0 0)]), fam Tx.X (ts ++ [Tx.mk nb [] (.slice none 0 0)]), Tx.OH (v69) (ts ++ [Tx.mk nb [] (.slice none 0 0)]), Tx.OT (v72) (ts ++ [Tx.mk nb [] (.slice none 0 0)])]) (Weak.trans (Weak.pick (p := [_, _]) (Weak.pick (p := [_, _, _]) (Weak.pick (p := [_, _, _]) (Weak.pick (p := [_, _, _]) (Weak.pick (p := [_, _, _]) (Weak.nil _)))))) (Weak.trans (Weak.famAdd (f := Tx.H) (x := Tx.mk nb [] (.slice none 0 0))) (Weak.keep (Weak.trans Weak.newNil (Weak.trans (Weak.famAdd (f := Tx.X) (x := Tx.mk nb [] (.slice none 0 0))) (by unfold Tx.OH Tx.OT; rw [List.length_append, List.map_append, List.map_append]; exact Weak.refl _)))))) ?_
        refine L_val rfl rfl rfl (OpP.v (P_assign rfl rfl)) ?_
        refine L_nil ?_
        refine Q_block ?_
        refine Q_block ?_
        refine Q_then ?_
        refine R_region ?_
        refine L_val rfl rfl rfl (OpP.v (P_move rfl rfl)) ?_
        first | (refine L_val rfl rfl rfl (OpP.v (P_addN rfl rfl rfl (by simp only [fits]; omega))) ?_) | (refine L_val rfl rfl rfl (OpP.v (P_add rfl rfl rfl)) ?_)
        refine L_val rfl rfl rfl (OpP.v (P_assign rfl rfl)) ?_
        refine L_nil ?_
        exact Q_round (i + 1, ts ++ [Tx.mk nb [] (.slice none 0 0)], v69, v72) (PInv.add hI hs (Nat.zero_le _)) (by show steps.length - (i + 1) < steps.length - i; omega) (by repeat (first | exact .nil | refine .cons rfl ?_ | refine .consE rfl (by first | rfl | (congr 1; omega) | (congr 1; push_cast; omega)) ?_)) (Weak.refl _)
      · skip
        refine R_seq ?_
        refine R_region ?_
        refine L_val rfl rfl rfl (OpP.v (P_eql rfl rfl rfl)) ?_
        refine L_val rfl rfl rfl (OpP.v (P_assign rfl rfl)) ?_
        refine L_nil ?_
        refine Q_then ?_
        refine R_condP rfl (fun h6 => ?_) (fun h6 => ?_)
        · skip
          refine R_seq ?_
          refine R_region ?_
          refine L_val rfl rfl rfl (OpP.v (P_fld0 rfl ty_fl_38_2 rfl)) ?_
          refine L_val rfl rfl rfl (V_load rfl rfl ty_sc_26 (Rd.blk .h0 rfl)) ?_
          refine L_op rfl (W_call rfl rfl rfl rfl fn_ca_14 (roomy_ok s.b s.c s.x (by omega)) (Split.nil _) (fun w a b _ _ _ m => (Sn.row hrs rfl).rw_ w ⟨_, ‹_›, m.le (Heap.le_join_right ‹_›)⟩) fun v77 rs1 (e1 : rs1 = _) => ?_)
          subst e1
          refine St.openOwn (p := []) (by omega) fun fb fcap junk hfc hfl hfv => ?_
          subst hfv
          refine St.res (rs' := [blk fb (ints .u8 (s.x ++ [201, 202]) ++ junk) 5, blk b8 s.cells 38, fam Tx.H ts, fam Tx.X ts, Tx.OH (.slice (some ⟨hb, 0, none⟩) ts.length hc) ts, Tx.OT (.slice (some ⟨tb, 0, none⟩) ts.length tc) ts]) (Weak.refl _) ?_
          refine L_val rfl rfl rfl (OpP.v (P_assign rfl rfl)) ?_
          refine L_nil ?_
          refine Q_then ?_
          refine R_seq ?_
          refine St.res (rs' := [hasher hp x, fam Tx.H (ts.take k), fam Tx.H (ts.drop (k + 1)), blk fb (ints .u8 (s.x ++ [201, 202]) ++ junk) 5, blk b8 s.cells 38, fam Tx.X ts, Tx.OH (.slice (some ⟨hb, 0, none⟩) ts.length hc) ts, Tx.OT (.slice (some ⟨tb, 0, none⟩) ts.length tc) ts]) (Weak.trans (Weak.pick (p := [_, _]) (Weak.refl _)) (Weak.famOpen hk)) ?_
          refine R_open [(0, 0), (1, 0), (2, 0), (3, 1), (4, 0), (5, 0), (6, 1), (7, 0), (8, 0), (9, 3)] mixed (by kernel_rfl) (QOk.then (QOk.block (QOk.block (QOk.then (QOk.then (QOk.block (QOk.then QOk.body))))))) ?_
          refine O_pure rfl rfl rfl rfl (P_move rfl rfl) ?_
          refine O_pure rfl rfl rfl rfl (P_move rfl rfl) ?_
          refine O_pure rfl rfl rfl rfl (P_ixs (k) rfl ty_sl_35 rfl rfl (by first | rfl | omega) (by omega)) ?_
          refine O_val rfl rfl rfl rfl (V_load rfl rfl ty_sc_33 (rd_own1 .h6 hkp)) ?_
          refine O_pure rfl rfl rfl rfl (P_move rfl rfl) ?_
          refine O_pure rfl rfl rfl rfl (P_fld0 rfl ty_fl_38_2 rfl) ?_
          refine O_val rfl rfl rfl rfl (V_load rfl rfl ty_sc_26 (Rd.blk .h4 rfl)) ?_
          refine O_pure rfl rfl rfl rfl (P_len rfl ty_sl_26 rfl) ?_
          refine O_pure rfl rfl rfl rfl (P_slice 0 s.x.length rfl ty_sl_26 rfl rfl ⟨_, rfl⟩ (by omega) (by omega)) ?_
          refine E_as (t := 86) (v' := .slice (some ⟨fb, 0, none⟩) s.x.length fcap) rfl (by unfold sliced; rw [if_neg (by omega)]; simp [add_zero_off]) ?_
          refine O_new rfl rfl (W_callR rfl rfl rfl rfl fn_ca_22 (write_ok hG.toGlobs hp x s.x (some ⟨fb, 0, none⟩) fcap (by omega)) (Split.one (p := [])) (Sn.pre (Sn.ofBlkAt .h2 fun i v h => ints_pre _ _ _ _ i v h)) (K_new ?_))
          refine O_nil ?_
          refine St.env (.cons (t := 0) rfl (.cons (t := 2) rfl (.cons (t := 5) rfl (.cons (t := 6) rfl (.cons (t := 7) rfl (.cons (t := 8) rfl (.cons (t := 9) rfl (.cons (t := 11) rfl (.cons (t := 26) rfl (.cons (t := 27) rfl (.cons (t := 28) rfl (.cons (t := 29) rfl (.cons (t := 32) rfl (.cons (t := 33) rfl (.cons (t := 34) rfl (.cons (t := 35) rfl (.cons (t := 36) rfl (.cons (t := 37) rfl (.cons (t := 38) rfl (.cons (t := 39) rfl (.cons (t := 40) rfl (.cons (t := 47) rfl (.cons (t := 48) rfl (.cons (t := 61) rfl (.cons (t := 62) rfl (.cons (t := 73) rfl (.cons (t := 74) rfl (.cons (t := 75) rfl (.cons (t := 76) rfl (.cons (t := 77) rfl (.cons (t := 78) rfl (.cons (t := 79) rfl (.cons (t := 80) rfl (.cons (t := 81) rfl (.cons (t := 82) rfl (.cons (t := 83) rfl (.cons (t := 84) rfl (.cons (t := 85) rfl (.cons (t := 86) rfl .nil))))))))))))))))))))))))))))))))))))))) ?_
          refine Q_then ?_
          refine R_seq ?_
          refine R_seq ?_
          refine R_region ?_
          refine L_val rfl rfl rfl (OpP.v (P_move rfl rfl)) ?_
          refine L_val rfl rfl rfl (OpP.v (P_fld0 rfl ty_fl_38_2 rfl)) ?_
          refine L_val rfl rfl rfl (V_load rfl rfl ty_sc_26 (Rd.blk .h4 rfl)) ?_
          refine L_op rfl (W_callV rfl rfl rfl rfl fn_ca_19 (kept_ok fb 0 fcap s.b s.c s.x hfc (by omega) hsb) (fun w nw => ⟨(Sn.ofBlk .h3).rowAt 0 (fun i v h => app_at i v h) w nw, (Sn.row hrs rfl).rw_ w nw⟩) ?_)
          refine E_true (t := 91) rfl (rfl) ?_
          refine L_val rfl rfl rfl (OpP.v (P_not rfl rfl)) ?_
          refine L_nil ?_
          refine Q_then ?_
          refine R_condF rfl ?_
          refine R_skip ?_
          refine Q_then ?_
          refine R_seq ?_
          refine R_seq ?_
          refine R_region ?_
          refine L_val rfl rfl rfl (OpP.v (P_assign rfl rfl)) ?_
          refine L_nil ?_
          refine Q_then ?_
          refine R_block ?_
          refine R_loopE (G := Nat × List Value) (.cons (t := 0) rfl (.cons (t := 2) rfl (.cons (t := 5) rfl (.cons (t := 6) rfl (.cons (t := 7) rfl (.cons (t := 8) rfl (.cons (t := 9) rfl (.cons (t := 11) rfl (.cons (t := 26) rfl (.cons (t := 27) rfl (.cons (t := 28) rfl (.cons (t := 29) rfl (.cons (t := 32) rfl (.cons (t := 33) rfl (.cons (t := 34) rfl (.cons (t := 35) rfl (.cons (t := 36) rfl (.cons (t := 37) rfl (.cons (t := 38) rfl (.cons (t := 39) rfl (.cons (t := 40) rfl (.cons (t := 47) rfl (.cons (t := 48) rfl (.cons (t := 61) rfl (.cons (t := 62) rfl (.cons (t := 73) rfl (.cons (t := 74) rfl (.cons (t := 75) rfl (.cons (t := 76) rfl (.cons (t := 77) rfl (.cons (t := 78) rfl (.cons (t := 79) rfl (.cons (t := 80) rfl (.cons (t := 81) rfl (.cons (t := 82) rfl (.cons (t := 83) rfl (.cons (t := 84) rfl (.cons (t := 85) rfl (.cons (t := 86) rfl (.cons (t := 88) rfl (.cons (t := 89) rfl (.cons (t := 90) rfl (.cons (t := 91) rfl (.cons (t := 92) rfl .nil)))))))))))))))))))))))))))))))))))))))))))) (fun g => [(12, .int .i64 (g.1 : Int))]) (fun g => [hasher hp (x ++ s.x), fam Tx.H (ts.take k), fam Tx.H (ts.drop (k + 1)), blk fb g.2 5, blk b8 s.cells 38, fam Tx.X ts, Tx.OH (.slice (some ⟨hb, 0, none⟩) ts.length hc) ts, Tx.OT (.slice (some ⟨tb, 0, none⟩) ts.length tc) ts]) (fun g => g.2.length = fcap * 1 ∧ g.1 ≤ s.x.length + 2) (fun g => s.x.length + 2 - g.1) (0, ints .u8 (s.x ++ [201, 202]) ++ junk) (⟨hfl, Nat.zero_le _⟩) (by repeat (first | exact .nil | refine .cons rfl ?_ | refine .consE rfl (by first | rfl | (congr 1; omega) | (congr 1; push_cast; omega)) ?_)) (Weak.refl _) ?_
          rintro ⟨j, zs⟩ hinv
          replace hinv : zs.length = fcap * 1 ∧ j ≤ s.x.length + 2 := hinv
          show St (cx gl) _ ((12, .int .i64 (j : Int)) :: _) [hasher hp (x ++ s.x), fam Tx.H (ts.take k), fam Tx.H (ts.drop (k + 1)), blk fb zs 5, blk b8 s.cells 38, fam Tx.X ts, Tx.OH (.slice (some ⟨hb, 0, none⟩) ts.length hc) ts, Tx.OT (.slice (some ⟨tb, 0, none⟩) ts.length tc) ts] _
          obtain ⟨hzl, hj⟩ := hinv
          refine R_seq ?_
          refine R_seq ?_
          refine R_region ?_
          refine L_val rfl rfl rfl (OpP.v (P_move rfl rfl)) ?_
          refine L_val rfl rfl rfl (OpP.v (P_move rfl rfl)) ?_
          refine L_val rfl rfl rfl (OpP.v (P_len rfl ty_sl_26 rfl)) ?_
          refine L_val rfl rfl rfl (OpP.v (P_lss rfl rfl rfl)) ?_
          refine L_nil ?_
          refine Q_then ?_
          refine R_condP rfl (fun hj2 => ?_) (fun hj2 => ?_)
          · skip
            refine R_skip ?_
            refine Q_then ?_
            refine R_seq ?_
            refine R_block ?_
            refine R_region ?_
            refine L_val rfl rfl rfl (OpP.v (P_move rfl rfl)) ?_
            refine L_val rfl rfl rfl (OpP.v (P_move rfl rfl)) ?_
            refine L_val rfl rfl rfl (OpP.v (P_ixs (j) rfl ty_sl_26 rfl rfl (by first | rfl | omega) (by omega))) ?_
            refine L_op rfl (W_store rfl rfl rfl rfl ty_sc_5 rfl .h3 (by omega) ?_)
            refine L_nil ?_
            refine Q_block ?_
            refine Q_then ?_
            refine R_region ?_
            refine L_val rfl rfl rfl (OpP.v (P_move rfl rfl)) ?_
            first | (refine L_val rfl rfl rfl (OpP.v (P_addN rfl rfl rfl (by simp only [fits]; omega))) ?_) | (refine L_val rfl rfl rfl (OpP.v (P_add rfl rfl rfl)) ?_)
            refine L_val rfl rfl rfl (OpP.v (P_assign rfl rfl)) ?_
            refine L_nil ?_
            exact Q_round (j + 1, zs.set (0 + j * 1) (.int .u8 119)) (⟨by show (zs.set _ _).length = _; rw [List.length_set]; exact hzl, by omega⟩) (by show s.x.length + 2 - (j + 1) < s.x.length + 2 - j; omega) (by repeat (first | exact .nil | refine .cons rfl ?_ | refine .consE rfl (by first | rfl | (congr 1; omega) | (congr 1; push_cast; omega)) ?_)) (Weak.refl _)
          · skip
            refine R_exit ?_
            refine Q_then_exit ?_
            refine Q_then_exit ?_
            refine Q_block_eq ?_
            refine Q_then ?_
            refine St.res (Weak.newNil (T := 5) (sz := 1)) ?_
            refine R_openQ [(0, 0), (1, 0), (2, 0), (3, 0), (4, 0), (5, 1), (7, 0), (8, 1), (6, 2), (9, 2), (10, 0), (11, 3)] [hasher hp (x ++ s.x), fam Tx.H (ts.take k), fam Tx.H (ts.drop (k + 1)), blk fb zs 5, blk b8 s.cells 38, fam Tx.X ts, Tx.OH (.slice (some ⟨hb, 0, none⟩) ts.length hc) ts, Tx.OT (.slice (some ⟨tb, 0, none⟩) ts.length tc) ts] (Weak.drop (Weak.refl _)) mixed (by kernel_rfl) (QOk.block (QOk.block (QOk.then (QOk.then (QOk.block (QOk.then QOk.body)))))) ?_
            refine O_pureQ rfl rfl rfl rfl (P_move rfl rfl) ?_
            refine O_pureQ rfl rfl rfl rfl (P_move rfl rfl) ?_
            refine O_pureQ rfl rfl rfl rfl (P_move rfl rfl) ?_
            refine O_pureQ rfl rfl rfl rfl (P_move rfl rfl) ?_
            refine O_pureQ rfl rfl rfl rfl (P_ixs (k) rfl ty_sl_36 rfl rfl (by first | rfl | omega) (by omega)) ?_
            refine O_valQ rfl rfl rfl rfl (V_load rfl rfl ty_sc_26 (rd_own1 .h7 hkv)) ?_
            refine O_pureQ rfl rfl rfl rfl (P_fld0 rfl ty_fl_38_2 rfl) ?_
            refine O_valQ rfl rfl rfl rfl (V_load rfl rfl ty_sc_26 (Rd.blk .h4 rfl)) ?_
            refine O_keepQ rfl rfl (W_append (p := []) rfl rfl rfl ty_sl_26 ty_ap_26 ty_src_26 rfl rfl rfl (Src.row (news := ints .u8 x) (Sn.fam .h6 hk fun rs m => Sn.own m rfl).rw_ (by rw [ints_length]; omega) ints_one) (by omega) (by simp only [maxLen]; omega) fun v108 => ?_)
            refine K_keepQ (Weak.drop (Weak.refl _)) ?_
            refine O_keepQ rfl rfl (W_append (p := []) rfl rfl rfl ty_sl_26 ty_ap_26 ty_src_26 rfl rfl rfl (Src.row (Sn.row hrs rfl).rw_ (by rw [ints_length]; omega) ints_one) (by omega) (by simp only [maxLen]; omega) fun v111 => ?_)
            refine St.ownForm (p := []) fun nb nc hnv hnc => ?_
            subst hnv
            refine K_keepQ (Weak.drop (Weak.refl _)) ?_
            refine O_pureQ rfl rfl rfl rfl (P_ixs (k) rfl ty_sl_36 rfl rfl (by first | rfl | omega) (by omega)) ?_
            refine O_newQ rfl rfl (W_storeOwn1 (T := 26) (sz := 1) (n := ts.length) (c := tc) (cs := ts.map Tx.v) rfl rfl rfl rfl ty_sc_26 rfl .h8 (by rw [List.length_map]; omega) (K_newQ _ (Weak.refl _) ?_))
            refine St.res (rs' := [fam Tx.H (ts.set k (Tx.mk hp (x ++ s.x) (.slice nb (0 + x.length + s.x.length) nc))), fam Tx.X (ts.set k (Tx.mk hp (x ++ s.x) (.slice nb (0 + x.length + s.x.length) nc))), Tx.OH (.slice (some ⟨hb, 0, none⟩) ts.length hc) (ts.set k (Tx.mk hp (x ++ s.x) (.slice nb (0 + x.length + s.x.length) nc))), Tx.OT (.slice (some ⟨tb, 0, none⟩) ts.length tc) (ts.set k (Tx.mk hp (x ++ s.x) (.slice nb (0 + x.length + s.x.length) nc)))]) (Weak.trans (Weak.pick (p := [_]) (Weak.pick (p := [_]) (Weak.pick (p := [_]) (Weak.pick (p := [_, _, _]) (Weak.keep (Weak.pick (p := [_, _]) (Weak.pick (p := [_, _]) (Weak.nil _)))))))) (Weak.trans (Weak.famClose (f := Tx.H) (y := Tx.mk hp (x ++ s.x) (.slice nb (0 + x.length + s.x.length) nc)) hinv) (Weak.keep (Weak.trans (Weak.famOpen hk) (Weak.drop (Weak.trans (Weak.pick (p := [_, _]) (Weak.refl _)) (Weak.trans (Weak.turn .h0 (s := Tx.X (Tx.mk hp (x ++ s.x) (.slice nb (0 + x.length + s.x.length) nc))) (fun h hh => own_to (by show _ = (x ++ s.x).length; rw [List.length_append]; omega) (by show [] ++ ints .u8 x ++ ints .u8 s.x = ints .u8 (x ++ s.x); rw [List.nil_append, ints_append]) hh)) (Weak.trans (Weak.famClose (f := Tx.X) (y := Tx.mk hp (x ++ s.x) (.slice nb (0 + x.length + s.x.length) nc)) hinv) (by unfold Tx.OH Tx.OT; rw [List.length_set, map_set_same (y := Tx.mk hp (x ++ s.x) (.slice nb (0 + x.length + s.x.length) nc)) hk (f := Tx.ptr) rfl, List.map_set, show 0 + k * 1 = k by omega]; exact Weak.refl _))))))))) ?_
            refine O_nilQ ?_
            refine Q_block ?_
            refine Q_block ?_
            refine Q_then ?_
            refine R_region ?_
            refine L_val rfl rfl rfl (OpP.v (P_move rfl rfl)) ?_
            first | (refine L_val rfl rfl rfl (OpP.v (P_addN rfl rfl rfl (by simp only [fits]; omega))) ?_) | (refine L_val rfl rfl rfl (OpP.v (P_add rfl rfl rfl)) ?_)
            refine L_val rfl rfl rfl (OpP.v (P_assign rfl rfl)) ?_
            refine L_nil ?_
            exact Q_round (i + 1, ts.set k (Tx.mk hp (x ++ s.x) (.slice nb (0 + x.length + s.x.length) nc)), .slice (some ⟨hb, 0, none⟩) ts.length hc, .slice (some ⟨tb, 0, none⟩) ts.length tc) (PInv.set hI hs (by show (x ++ s.x).length ≤ _; rw [List.length_append]; have := hxs _ (List.mem_of_getElem? hk); simp only at this; omega)) (by show steps.length - (i + 1) < steps.length - i; omega) (by repeat (first | exact .nil | refine .cons rfl ?_ | refine .consE rfl (by first | rfl | (congr 1; omega) | (congr 1; push_cast; omega)) ?_)) (Weak.refl _)
        · skip
          refine R_seq ?_
          refine R_region ?_
          refine L_val rfl rfl rfl (OpP.v (P_eql rfl rfl rfl)) ?_
          refine L_val rfl rfl rfl (OpP.v (P_assign rfl rfl)) ?_
          refine L_nil ?_
          refine Q_then ?_
          refine R_condP rfl (fun h9 => ?_) (fun h9 => ?_)
          · skip
            refine R_seq ?_
            refine St.res (rs' := [hasher hp x, fam Tx.H (ts.take k), fam Tx.H (ts.drop (k + 1)), blk b8 s.cells 38, fam Tx.X ts, Tx.OH (.slice (some ⟨hb, 0, none⟩) ts.length hc) ts, Tx.OT (.slice (some ⟨tb, 0, none⟩) ts.length tc) ts]) (Weak.trans (Weak.pick (p := [_]) (Weak.refl _)) (Weak.famOpen hk)) ?_
            refine R_region ?_
            refine L_val rfl rfl rfl (OpP.v (P_move rfl rfl)) ?_
            refine L_val rfl rfl rfl (OpP.v (P_move rfl rfl)) ?_
            refine L_val rfl rfl rfl (OpP.v (P_ixs (k) rfl ty_sl_35 rfl rfl (by first | rfl | omega) (by omega))) ?_
            refine L_val rfl rfl rfl (V_load rfl rfl ty_sc_33 (rd_own1 .h5 hkp)) ?_
            refine L_op rfl (W_call rfl rfl rfl rfl fn_ca_23 (copy_ok hp x) (Split.one (p := [])) (fun _ _ _ _ _ _ _ => trivial) fun v119 rs1 ⟨nb, e1, e2⟩ => ?_)
            subst e1; subst e2
            refine St.res (rs' := [hasher nb x, fam Tx.H ts, blk b8 s.cells 38, fam Tx.X ts, Tx.OH (.slice (some ⟨hb, 0, none⟩) ts.length hc) ts, Tx.OT (.slice (some ⟨tb, 0, none⟩) ts.length tc) ts]) (Weak.keep (Weak.famShut (f := Tx.H) hk)) ?_
            refine L_val rfl rfl rfl (OpP.v (P_assign rfl rfl)) ?_
            refine L_nil ?_
            refine Q_then ?_
            refine R_seq ?_
            refine R_seq ?_
            refine R_region ?_
            refine L_val rfl rfl rfl (OpP.v (P_move rfl rfl)) ?_
            refine L_val rfl rfl rfl (OpP.v (P_eqNil rfl ty_ptr_33 rfl rfl)) ?_
            refine L_nil ?_
            refine Q_then ?_
            refine R_condF rfl ?_
            refine R_skip ?_
            refine Q_then ?_
            refine R_seq ?_
            refine R_region ?_
            refine L_val rfl rfl rfl (OpP.v (P_move rfl rfl)) ?_
            refine L_val rfl rfl rfl (OpP.v (P_move rfl rfl)) ?_
            refine L_op rfl (W_lit (z := .nilIface) ([.pointer (some ⟨nb, 0, none⟩)]) rfl rfl rfl ty_sl_35 ty_lz_35 rfl rfl rfl (by decide) (by decide) (by simp [Value.cells]) (rfl) fun b124 => ?_)
            refine L_op rfl (W_append (p := [_, _, _, _, _]) rfl rfl rfl ty_sl_35 ty_ap_35 ty_src_35 rfl rfl rfl (Src.slice (sz := 1) (m := 1) (news := [.pointer (some ⟨nb, 0, none⟩)]) (Rds.blk .h0) rfl (by simp [Value.oneCell'])) (by omega) (by simp only [maxLen]; omega) fun v125 => ?_)
            refine L_val rfl rfl rfl (OpP.v (P_assign rfl rfl)) ?_
            refine L_nil ?_
            refine Q_then ?_
            refine St.res (Weak.newNil (T := 5) (sz := 1)) ?_
            refine R_region ?_
            refine L_val rfl rfl rfl (OpP.v (P_move rfl rfl)) ?_
            refine L_val rfl rfl rfl (OpP.v (P_move rfl rfl)) ?_
            refine L_val rfl rfl rfl (OpP.v (P_move rfl rfl)) ?_
            refine L_val rfl rfl rfl (OpP.v (P_ixs (k) rfl ty_sl_36 rfl rfl (by first | rfl | omega) (by omega))) ?_
            refine L_val rfl rfl rfl (V_load rfl rfl ty_sc_26 (rd_own1 .h7 hkv)) ?_
            refine L_op rfl (W_append (p := []) rfl rfl rfl ty_sl_26 ty_ap_26 ty_src_26 rfl rfl rfl (Src.row (news := ints .u8 x) (Sn.fam .h5 hk fun rs m => Sn.own m rfl).rw_ (by rw [ints_length]; omega) ints_one) (by omega) (by simp only [maxLen]; omega) fun v131 => ?_)
            refine St.ownForm (p := []) fun nvb nvc hnv hnc => ?_
            subst hnv
            refine L_op rfl (W_lit (z := .nilIface) ([.slice nvb (0 + x.length) nvc]) rfl rfl rfl ty_sl_36 ty_lz_36 rfl rfl rfl (by decide) (by decide) (by simp [Value.cells]) (rfl) fun b132 => ?_)
            refine L_op rfl (W_append (p := [_, _, _, _, _, _, _, _]) rfl rfl rfl ty_sl_36 ty_ap_36 ty_src_36 rfl rfl rfl (Src.slice (sz := 1) (m := 1) (news := [.slice nvb (0 + x.length) nvc]) (Rds.blk .h0) rfl (by simp [Value.oneCell'])) (by omega) (by simp only [maxLen]; omega) fun v133 => ?_)
            refine St.res (rs' := [fam Tx.H (ts ++ [Tx.mk nb x (.slice nvb (0 + x.length) nvc)]), fam Tx.X (ts ++ [Tx.mk nb x (.slice nvb (0 + x.length) nvc)]), Tx.OH (v125) (ts ++ [Tx.mk nb x (.slice nvb (0 + x.length) nvc)]), Tx.OT (v133) (ts ++ [Tx.mk nb x (.slice nvb (0 + x.length) nvc)])]) (Weak.trans (Weak.pick (p := [_, _, _]) (Weak.pick (p := [_, _, _]) (Weak.pick (p := [_]) (Weak.pick (p := [_, _, _]) (Weak.pick (p := [_, _, _]) (Weak.pick (p := [_, _, _]) (Weak.nil _))))))) (Weak.trans (Weak.famAdd (f := Tx.H) (x := Tx.mk nb x (.slice nvb (0 + x.length) nvc))) (Weak.keep (Weak.trans (Weak.turn .h0 (s := Tx.X (Tx.mk nb x (.slice nvb (0 + x.length) nvc))) (fun h hh => own_to (by show _ = x.length; omega) (List.nil_append _) hh)) (Weak.trans (Weak.famAdd (f := Tx.X) (x := Tx.mk nb x (.slice nvb (0 + x.length) nvc))) (by unfold Tx.OH Tx.OT; rw [List.length_append, List.map_append, List.map_append]; exact Weak.refl _)))))) ?_
            refine L_val rfl rfl rfl (OpP.v (P_assign rfl rfl)) ?_
            refine L_nil ?_
            refine Q_block ?_
            refine Q_block ?_
            refine Q_then ?_
            refine R_region ?_
            refine L_val rfl rfl rfl (OpP.v (P_move rfl rfl)) ?_
            first | (refine L_val rfl rfl rfl (OpP.v (P_addN rfl rfl rfl (by simp only [fits]; omega))) ?_) | (refine L_val rfl rfl rfl (OpP.v (P_add rfl rfl rfl)) ?_)
            refine L_val rfl rfl rfl (OpP.v (P_assign rfl rfl)) ?_
            refine L_nil ?_
            exact Q_round (i + 1, ts ++ [Tx.mk nb x (.slice nvb (0 + x.length) nvc)], v125, v133) (PInv.add hI hs hxl) (by show steps.length - (i + 1) < steps.length - i; omega) (by repeat (first | exact .nil | refine .cons rfl ?_ | refine .consE rfl (by first | rfl | (congr 1; omega) | (congr 1; push_cast; omega)) ?_)) (Weak.refl _)
          · skip
            refine R_seq ?_
            refine St.res (rs' := [hasher hp x, fam Tx.H (ts.take k), fam Tx.H (ts.drop (k + 1)), blk b8 s.cells 38, fam Tx.X ts, Tx.OH (.slice (some ⟨hb, 0, none⟩) ts.length hc) ts, Tx.OT (.slice (some ⟨tb, 0, none⟩) ts.length tc) ts]) (Weak.trans (Weak.pick (p := [_]) (Weak.refl _)) (Weak.famOpen hk)) ?_
            refine R_region ?_
            refine L_val rfl rfl rfl (OpP.v (P_move rfl rfl)) ?_
            refine L_val rfl rfl rfl (OpP.v (P_move rfl rfl)) ?_
            refine L_val rfl rfl rfl (OpP.v (P_ixs (k) rfl ty_sl_35 rfl rfl (by first | rfl | omega) (by omega))) ?_
            refine L_val rfl rfl rfl (V_load rfl rfl ty_sc_33 (rd_own1 .h5 hkp)) ?_
            refine L_op rfl (W_callR rfl rfl rfl rfl fn_ca_24 (hsum_ok hG.toGlobs hp x) (Split.one (p := [])) (fun _ _ _ _ _ _ _ => trivial) ?_)
            refine St.res (rs' := [fam Tx.H ts, blk b8 s.cells 38, fam Tx.X ts, Tx.OH (.slice (some ⟨hb, 0, none⟩) ts.length hc) ts, Tx.OT (.slice (some ⟨tb, 0, none⟩) ts.length tc) ts]) (Weak.famShut (f := Tx.H) hk) ?_
            refine L_op rfl (W_alloc rfl rfl rfl ty_ze_23 fun b14 => ?_)
            refine L_op rfl (W_storeAll rfl rfl rfl rfl ty_ag_23 (by rw [ints_length, sha_length]) (ints_one) .h0 (by rw [ints_length, sha_length]; rfl) ?_)
            refine L_nil ?_
            refine Q_then ?_
            refine R_seq ?_
            refine R_open [(0, 1), (1, 0), (2, 0), (3, 0), (4, 1), (5, 2), (6, 0)] mixed (by kernel_rfl) (QOk.then (QOk.block (QOk.block (QOk.then (QOk.then (QOk.block (QOk.then QOk.body))))))) ?_
            refine O_val rfl rfl rfl rfl (V_loadAgg rfl rfl ty_ag_23 (Rds.blk .h0) (by rw [ints_length, sha_length])) ?_
            refine O_pure rfl rfl rfl rfl (P_move rfl rfl) ?_
            refine O_pure rfl rfl rfl rfl (P_move rfl rfl) ?_
            refine O_pure rfl rfl rfl rfl (P_ixs (k) rfl ty_sl_36 rfl rfl (by first | rfl | omega) (by omega)) ?_
            refine O_val rfl rfl rfl rfl (V_load rfl rfl ty_sc_26 (rd_own1 .h5 hkv)) ?_
            refine O_keep rfl rfl (W_callV rfl rfl rfl rfl fn_ca_17 (rsum_ok hG vb vc x hvc (by omega)) ((Sn.fam .h3 hk fun rs m => Sn.own m rfl).rw_) (K_keep (Weak.refl _) ?_))
            refine O_pure rfl rfl rfl rfl (P_neArr rfl rfl rfl ty_un_23 ty_int_5 ty_sc_5 ty_eg_23 (sha_length _) (sha_length _)) ?_
            refine E_false (t := 60) rfl (decide_eq_false (by simp)) ?_
            refine O_nil ?_
            refine Q_then ?_
            refine R_condF rfl ?_
            refine R_skip ?_
            refine Q_block ?_
            refine Q_block ?_
            refine Q_then ?_
            refine R_region ?_
            refine L_val rfl rfl rfl (OpP.v (P_move rfl rfl)) ?_
            first | (refine L_val rfl rfl rfl (OpP.v (P_addN rfl rfl rfl (by simp only [fits]; omega))) ?_) | (refine L_val rfl rfl rfl (OpP.v (P_add rfl rfl rfl)) ?_)
            refine L_val rfl rfl rfl (OpP.v (P_assign rfl rfl)) ?_
            refine L_nil ?_
            exact Q_round (i + 1, ts, .slice (some ⟨hb, 0, none⟩) ts.length hc, .slice (some ⟨tb, 0, none⟩) ts.length tc) (PInv.same hI hs) (by show steps.length - (i + 1) < steps.length - i; omega) (by repeat (first | exact .nil | refine .cons rfl ?_ | refine .consE rfl (by first | rfl | (congr 1; omega) | (congr 1; push_cast; omega)) ?_)) (Weak.pick (p := [_]) (Weak.pick (p := [_, _]) (Weak.pick (p := [_, _]) (Weak.pick (p := [_, _]) (Weak.nil _)))))
  · skip
    refine R_exit ?_
    refine Q_then_exit ?_
    refine Q_then_exit ?_
    refine Q_block_eq ?_
    refine St.env (.cons (t := 2) rfl (.cons (t := 5) rfl (.cons (t := 6) rfl .nil))) ?_
    refine Q_then ?_
    refine R_seq ?_
    refine R_seq ?_
    refine R_region ?_
    refine L_val rfl rfl rfl (OpP.v (P_assign rfl rfl)) ?_
    refine L_nil ?_
    refine Q_then ?_
    refine R_block ?_
    refine R_loopE (G := Nat) (.cons (t := 2) rfl (.cons (t := 5) rfl (.cons (t := 6) rfl .nil))) (fun g => [(15, .int .i64 (g : Int))]) (fun _ => _) (fun g => g ≤ ts.length) (fun g => ts.length - g) (0) (Nat.zero_le _) (by repeat (first | exact .nil | refine .cons rfl ?_ | refine .consE rfl (by first | rfl | (congr 1; omega) | (congr 1; push_cast; omega)) ?_)) (Weak.refl _) ?_
    intro k hinv
    replace hinv : k ≤ ts.length := hinv
    show St (cx gl) _ ((15, .int .i64 (k : Int)) :: _) _ _
    refine R_seq ?_
    refine R_seq ?_
    refine R_region ?_
    refine L_val rfl rfl rfl (OpP.v (P_move rfl rfl)) ?_
    refine L_val rfl rfl rfl (OpP.v (P_move rfl rfl)) ?_
    refine L_val rfl rfl rfl (OpP.v (P_len rfl ty_sl_35 rfl)) ?_
    refine L_val rfl rfl rfl (OpP.v (P_lss rfl rfl rfl)) ?_
    refine L_nil ?_
    refine Q_then ?_
    refine R_condP rfl (fun hk0 => ?_) (fun hk0 => ?_)
    · skip
      obtain ⟨⟨hp, x, v⟩, hk⟩ : ∃ t, ts[k]? = some t := ⟨_, List.getElem?_eq_getElem (by omega)⟩
      have hkp : (ts.map Tx.ptr)[k]? = some (.pointer (some ⟨hp, 0, none⟩)) := by rw [List.getElem?_map, hk]; rfl
      have hkv : (ts.map Tx.v)[k]? = some v := by rw [List.getElem?_map, hk]; rfl
      have hxl : x.length ≤ given (steps.take i) := hxs _ (List.mem_of_getElem? hk)
      have hgi := given_le (steps := steps) i
      refine St.famFact .h1 hk (p := ∃ b c, v = .slice b x.length c ∧ x.length ≤ c) (fun h hh => own_form hh) ?_
      rintro ⟨vb, vc, rfl, hvc⟩
      refine R_skip ?_
      refine Q_then ?_
      refine R_seq ?_
      refine R_block ?_
      refine R_seq ?_
      refine St.res (rs' := [hasher hp x, fam Tx.H (ts.take k), fam Tx.H (ts.drop (k + 1)), fam Tx.X ts, Tx.OH (.slice (some ⟨hb, 0, none⟩) ts.length hc) ts, Tx.OT (.slice (some ⟨tb, 0, none⟩) ts.length tc) ts]) (Weak.famOpen hk) ?_
      refine R_region ?_
      refine L_val rfl rfl rfl (OpP.v (P_move rfl rfl)) ?_
      refine L_val rfl rfl rfl (OpP.v (P_move rfl rfl)) ?_
      refine L_val rfl rfl rfl (OpP.v (P_ixs (k) rfl ty_sl_35 rfl rfl (by first | rfl | omega) (by omega))) ?_
      refine L_val rfl rfl rfl (V_load rfl rfl ty_sc_33 (rd_own1 .h4 hkp)) ?_
      refine L_op rfl (W_callR rfl rfl rfl rfl fn_ca_24 (hsum_ok hG.toGlobs hp x) (Split.one (p := [])) (fun _ _ _ _ _ _ _ => trivial) ?_)
      refine St.res (rs' := [fam Tx.H ts, fam Tx.X ts, Tx.OH (.slice (some ⟨hb, 0, none⟩) ts.length hc) ts, Tx.OT (.slice (some ⟨tb, 0, none⟩) ts.length tc) ts]) (Weak.famShut (f := Tx.H) hk) ?_
      refine L_op rfl (W_alloc rfl rfl rfl ty_ze_23 fun b16 => ?_)
      refine L_op rfl (W_storeAll rfl rfl rfl rfl ty_ag_23 (by rw [ints_length, sha_length]) (ints_one) .h0 (by rw [ints_length, sha_length]; rfl) ?_)
      refine L_nil ?_
      refine Q_then ?_
      refine R_seq ?_
      refine R_open [(0, 1), (1, 0), (2, 0), (3, 0), (4, 1), (5, 2), (6, 0)] mixed (by kernel_rfl) (QOk.then (QOk.block (QOk.then (QOk.then (QOk.block (QOk.then QOk.body)))))) ?_
      refine O_val rfl rfl rfl rfl (V_loadAgg rfl rfl ty_ag_23 (Rds.blk .h0) (by rw [ints_length, sha_length])) ?_
      refine O_pure rfl rfl rfl rfl (P_move rfl rfl) ?_
      refine O_pure rfl rfl rfl rfl (P_move rfl rfl) ?_
      refine O_pure rfl rfl rfl rfl (P_ixs (k) rfl ty_sl_36 rfl rfl (by first | rfl | omega) (by omega)) ?_
      refine O_val rfl rfl rfl rfl (V_load rfl rfl ty_sc_26 (rd_own1 .h4 hkv)) ?_
      refine O_keep rfl rfl (W_callV rfl rfl rfl rfl fn_ca_17 (rsum_ok hG vb vc x hvc (by omega)) ((Sn.fam .h2 hk fun rs m => Sn.own m rfl).rw_) (K_keep (Weak.refl _) ?_))
      refine O_pure rfl rfl rfl rfl (P_neArr rfl rfl rfl ty_un_23 ty_int_5 ty_sc_5 ty_eg_23 (sha_length _) (sha_length _)) ?_
      refine E_false (t := 151) rfl (decide_eq_false (by simp)) ?_
      refine O_nil ?_
      refine Q_then ?_
      refine R_condF rfl ?_
      refine R_skip ?_
      refine Q_block ?_
      refine Q_then ?_
      refine R_region ?_
      refine L_val rfl rfl rfl (OpP.v (P_move rfl rfl)) ?_
      first | (refine L_val rfl rfl rfl (OpP.v (P_addN rfl rfl rfl (by simp only [fits]; omega))) ?_) | (refine L_val rfl rfl rfl (OpP.v (P_add rfl rfl rfl)) ?_)
      refine L_val rfl rfl rfl (OpP.v (P_assign rfl rfl)) ?_
      refine L_nil ?_
      exact Q_round (k + 1) (by show (k + 1) ≤ ts.length; omega) (by show ts.length - (k + 1) < ts.length - k; omega) (by repeat (first | exact .nil | refine .cons rfl ?_ | refine .consE rfl (by first | rfl | (congr 1; omega) | (congr 1; push_cast; omega)) ?_)) (Weak.pick (p := [_]) (Weak.pick (p := [_]) (Weak.pick (p := [_]) (Weak.pick (p := [_]) (Weak.nil _)))))
    · skip
      refine R_exit ?_
      refine Q_then_exit ?_
      refine Q_then_exit ?_
      refine Q_block_eq ?_
      refine St.env (.cons (t := 2) rfl .nil) ?_
      refine Q_then ?_
      refine R_seq ?_
      refine R_region ?_
      refine L_val rfl rfl rfl (OpP.v (P_assign rfl rfl)) ?_
      refine L_nil ?_
      refine Q_then ?_
      refine R_ret ?_
      exact R_endV rfl rfl (.tmp rfl .nil) (rfl)
end Go.Proofs.YtldndhekjhlbmaaDoor
