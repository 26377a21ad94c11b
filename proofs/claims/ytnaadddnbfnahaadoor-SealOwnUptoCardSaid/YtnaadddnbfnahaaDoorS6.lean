/- A signer: Sign. Printed by gen.py. -/
import Derived.Test.YtnaadddnbfnahaaDoorS5
set_option linter.unusedVariables false
set_option linter.unusedSimpArgs false
set_option maxRecDepth 100000
namespace Go.Proofs.YtnaadddnbfnahaaDoor
open Go Go.RowKit Go.Proofs
theorem sd_at (a : Int) : ∀ (sd : List Sgd) (i j : Nat) (v : Value), findK a (sdM sd) i = some (j, v) → ∃ s, i ≤ j ∧ sd[j - i]? = some s ∧ s.v = v ∧ sd.find? (fun s => decide (s.a = a)) = some s ∧
    ∀ s' : Sgd, s'.a = a → (sd.set (j - i) s').find? (fun s => decide (s.a = a)) = some s' ∧ ∀ b, b ≠ a → (sd.set (j - i) s').find? (fun s => decide (s.a = b)) = sd.find? (fun s => decide (s.a = b))
  | [], _, _, _, h => by cases h
  | x :: sd, i, j, v, h => by
    unfold sdM at h
    rw [List.map_cons, findK] at h
    split at h
    · rename_i e
      simp only [Option.some.injEq, Prod.mk.injEq] at h
      obtain ⟨rfl, rfl⟩ := h
      have e : a = x.a := e
      refine ⟨x, Nat.le_refl _, by simp, rfl, by simp [e], fun s' hs => ?_⟩
      rw [Nat.sub_self, List.set_cons_zero]
      refine ⟨by simp [hs], fun b hb => ?_⟩
      have h1 : decide (s'.a = b) = false := by simp [hs, Ne.symm hb]
      have h2 : decide (x.a = b) = false := by simp [← e, Ne.symm hb]
      rw [List.find?_cons, List.find?_cons, h1, h2]
    · rename_i e
      have e : ¬ a = x.a := e
      obtain ⟨s, h1, h2, h3, h4, h5⟩ := sd_at a sd (i + 1) j v h
      have hj : j - i = (j - (i + 1)) + 1 := by omega
      have hx : decide (x.a = a) = false := by simp [Ne.symm e]
      refine ⟨s, by omega, by rw [hj, List.getElem?_cons_succ]; exact h2, h3, by rw [List.find?_cons, hx]; exact h4, fun s' hs => ?_⟩
      rw [hj, List.set_cons_succ]
      obtain ⟨h6, h7⟩ := h5 s' hs
      refine ⟨by rw [List.find?_cons, hx]; exact h6, fun b hb => ?_⟩
      rw [List.find?_cons, List.find?_cons, h7 b hb]
theorem msgsOf_snoc (rc : List Rcd) (a b : Int) (m : List Int) : msgsOf (rc ++ [(a, m)]) b = msgsOf rc b ++ (if a = b then [m] else []) := by
  unfold msgsOf
  rw [List.filter_append, List.map_append]
  congr 1
  by_cases h : a = b <;> simp [h]
theorem strV_snoc (ms : List (List Int)) (m : List Int) : strV ms ++ [.string (strOfNums m)] = strV (ms ++ [m]) := by simp [strV]
/-- The list of one address is taken out, read, put back as it was, or with one message more. -/
theorem sd_open {rc : List Rcd} {sd : List Sgd} (h : RegOK rc sd) (a : Int) : ∃ (v0 : Value) (REST : HP), lookV false (findK a (sdM sd) 0) (.slice none 0 0) = v0 ∧
    (∀ rs, Weak (fam sdH sd :: rs) (ownS 9 1 v0 (msgsOf rc a).length (strV (msgsOf rc a)) :: REST :: rs)) ∧ (∀ rs, Weak (ownS 9 1 v0 (msgsOf rc a).length (strV (msgsOf rc a)) :: REST :: rs) (fam sdH sd :: rs)) ∧
    (∀ (m : List Int) (v' : Value), IsB m → m.length ≤ 1048576 → ∃ sd', setK a v' (sdM sd) = sdM sd' ∧ RegOK (rc ++ [(a, m)]) sd' ∧ ∀ rs, Weak (ownS 9 1 v' ((msgsOf rc a).length + 1) (strV (msgsOf rc a) ++ [.string (strOfNums m)]) :: REST :: rs) (fam sdH sd' :: rs)) := by
  have hrc : ∀ m : List Int, IsB m → m.length ≤ 1048576 → ∀ x ∈ rc ++ [(a, m)], IsB x.2 ∧ x.2.length ≤ 1048576 := fun m h1 h2 x hx => by
    rcases List.mem_append.1 hx with hx | hx
    · exact h.1 x hx
    · simp only [List.mem_singleton] at hx; subst hx; exact ⟨h1, h2⟩
  cases hk : findK a (sdM sd) 0 with
  | none =>
    have hf := findK_map (fun s : Sgd => s.a) (fun s => s.v) a sd 0
    have hk' : findK a (sd.map fun x => (x.a, x.v)) 0 = none := hk
    rw [hk'] at hf
    have hn : sd.find? (fun s => decide (s.a = a)) = none := by
      cases e : sd.find? (fun s => decide (s.a = a)) with
      | none => rfl
      | some y => rw [e] at hf; cases hf
    have hm : msgsOf rc a = [] := by rw [← h.2 a, hn]; rfl
    rw [hm]
    refine ⟨.slice none 0 0, fam sdH sd, rfl, fun rs => Weak.newNil, fun rs => Weak.drop (Weak.refl _), fun m v' h1 h2 => ⟨sd ++ [⟨a, v', [m]⟩], ?_, ⟨hrc m h1 h2, fun b => ?_⟩, fun rs => ?_⟩⟩
    · unfold setK; rw [hk]; simp [sdM]
    · rw [msgsOf_snoc, List.find?_append]
      by_cases hb : a = b
      · subst hb; rw [hn, hm]; simp
      · have := h.2 b
        have hd : decide (a = b) = false := by simp [hb]
        simp only [List.find?_cons, hd, List.find?_nil, if_neg hb, List.append_nil, Option.or_none]
        exact this
    · exact Weak.famAdd (f := sdH) (x := ⟨a, v', [m]⟩)
  | some p =>
    obtain ⟨j, v⟩ := p
    obtain ⟨s, _, hi, hv, hfd, hset⟩ := sd_at a sd 0 j v hk
    rw [Nat.sub_zero] at hi hset
    have hlt := (List.getElem?_eq_some_iff.1 hi).1
    have hm : s.ms = msgsOf rc a := by rw [← h.2 a, hfd]; rfl
    refine ⟨v, bundle [fam sdH (sd.take j), fam sdH (sd.drop (j + 1))], rfl, fun rs => ?_, fun rs => ?_, fun m v' h1 h2 => ⟨sd.set j ⟨a, v', s.ms ++ [m]⟩, ?_, ⟨hrc m h1 h2, fun b => ?_⟩, fun rs => ?_⟩⟩
    · rw [← hm, ← hv]; exact (Weak.famOpen (f := sdH) hi).trans (Weak.keep (Weak.bundle (L := [_, _])))
    · rw [← hm, ← hv]; exact (Weak.keep (Weak.unbundle (L := [_, _]))).trans (Weak.famShut (f := sdH) hi)
    · unfold setK; rw [hk]
      show (sdM sd).set j (a, v') = _
      simp [sdM, List.map_set]
    · rw [msgsOf_snoc]
      obtain ⟨g1, g2⟩ := hset ⟨a, v', s.ms ++ [m]⟩ rfl
      by_cases hb : a = b
      · subst hb; rw [g1, if_pos rfl, ← hm]; rfl
      · rw [g2 b (Ne.symm hb), if_neg hb, List.append_nil]; exact h.2 b
    · have e : ownS 9 1 v' ((msgsOf rc a).length + 1) (strV (msgsOf rc a) ++ [.string (strOfNums m)]) = sdH ⟨a, v', s.ms ++ [m]⟩ := by
        unfold sdH; rw [hm, strV_snoc, List.length_append]; rfl
      rw [e]
      exact (Weak.keep (Weak.unbundle (L := [_, _]))).trans (Weak.famClose (f := sdH) hlt)
theorem set_rc {rc : List Rcd} {x : Rcd} (h : x ∉ rc) : setK x (.agg #[]) (rcM rc) = rcM (rc ++ [x]) := by
  have hk : findK x (rcM rc) 0 = none := findK_none.2 fun y hy e => by
    obtain ⟨z, hz, rfl⟩ := List.mem_map.1 hy
    exact h (by rw [← e]; exact hz)
  unfold setK; rw [hk]; simp [rcM]
theorem msgsOf_le (rc : List Rcd) (a : Int) : (msgsOf rc a).length ≤ rc.length := by
  unfold msgsOf; rw [List.length_map]; exact List.length_filter_le _ _
theorem msgsOf_mem {rc : List Rcd} {a : Int} {m : List Int} (h : m ∈ msgsOf rc a) : (a, m) ∈ rc := by
  unfold msgsOf at h
  obtain ⟨x, hx, rfl⟩ := List.mem_map.1 h
  obtain ⟨h1, h2⟩ := List.mem_filter.1 hx
  have : x.1 = a := by simpa using h2
  rw [← this]; exact h1
/-- A message in memory of its own. -/
def msgH (x : Value × List Int) : HP := ownS 5 1 x.1 x.2.length (ints .u8 x.2)
theorem sign_big {gl : Nat → Obj} (p : Nat) (sg : List (Int × Nat)) (rc : List Rcd) (i : Nat) (a : Int) (s : Nat) (hi : sg[i]? = some (a, s)) (base : Option Addr) (c : Nat) (xs : List Int) (hbig : 1048576 < xs.length) : SpecR (cx gl) 18 [.pointer (some ⟨s, 0, none⟩), .slice base xs.length c] (fun _ _ => True) [REG p sg rc] (.tuple #[.agg (ints .u8 (List.replicate 16 0)).toArray, .int .i64 4]) [REG p sg rc] := by
  refine Spec.enterX (C := cx gl) Tryd.func18 rfl 86 rfl rfl fun w0 h0 hsep hsub hpre => ?_
  show St (cx gl) _ [(0, .pointer (some ⟨s, 0, none⟩)), (1, .slice base xs.length c)] _ _
  refine St.openP (p := []) (fun ⟨m1, m2, m3, sd⟩ hreg => ?_)
  refine St.unbundle [] ?_
  refine R_seq ?_
  refine R_region ?_
  refine L_op rfl (W_alloc rfl rfl rfl ty_ze_33 fun b4 => ?_)
  refine L_val rfl rfl rfl (OpP.v (P_assign rfl rfl)) ?_
  refine L_nil ?_
  refine Q_then ?_
  refine R_seq ?_
  refine R_seq ?_
  refine St.res (rs' := [blk p [.int .i32 0, .int .u32 0, .map (some m1), .map (some m2), .map (some m3)] 97, mapK kU64 m1 (sgM sg), mapK recK m2 (rcM rc), mapK kU64 m3 (sdM sd), fam (sgH p) sg, fam sdH sd, blk b4 (List.replicate 16 (.int .u8 0)) 33]) (Weak.p1 (Weak.p1 (Weak.p1 (Weak.p1 (Weak.p1 (Weak.p1 (Weak.refl _))))))) ?_
  refine R_region ?_
  refine L_val rfl rfl rfl (OpP.v (P_move rfl rfl)) ?_
  refine L_val rfl rfl rfl (OpP.v (P_eqNil rfl ty_ptr_27 rfl rfl)) ?_
  refine L_val rfl rfl rfl (OpP.v (P_move rfl rfl)) ?_
  refine L_val rfl rfl rfl (OpP.v (P_move rfl rfl)) ?_
  refine L_val rfl rfl rfl (OpP.v (P_nil rfl rfl)) ?_
  refine L_val rfl rfl rfl (OpP.v (P_fld0 rfl ty_fl_100_0 rfl)) ?_
  refine L_val rfl rfl rfl (V_load rfl rfl ty_sc_25 (by first | exact (rd_sg .h4 hi).1 | exact (rd_sg .h5 hi).1 | exact (rd_sg .h6 hi).1 | exact (rd_sg .h7 hi).1)) ?_
  refine L_val rfl rfl rfl (OpP.v (P_eqNil rfl ty_ptr_25 rfl rfl)) ?_
  refine L_val rfl rfl rfl (OpP.v (P_pick rfl rfl rfl)) ?_
  refine L_nil ?_
  refine St.env (.cons (t := 0) rfl (.cons (t := 1) rfl (.cons (t := 4) rfl (.cons (t := 5) rfl (.cons (t := 18) rfl .nil))))) ?_
  refine Q_then ?_
  refine R_condF rfl ?_
  refine R_skip ?_
  refine Q_then ?_
  refine R_seq ?_
  refine R_seq ?_
  refine R_region ?_
  refine L_val rfl rfl rfl (OpP.v (P_move rfl rfl)) ?_
  refine L_val rfl rfl rfl (OpP.v (P_len rfl ty_sl_24 rfl)) ?_
  refine L_val rfl rfl rfl (OpP.v (P_gtr rfl rfl rfl)) ?_
  refine E_true (t := 22) rfl (decide_eq_true (by omega)) ?_
  refine L_nil ?_
  refine St.env (.cons (t := 0) rfl (.cons (t := 1) rfl (.cons (t := 4) rfl (.cons (t := 5) rfl (.cons (t := 22) rfl .nil))))) ?_
  refine Q_then ?_
  refine R_condT rfl ?_
  refine R_seq ?_
  refine R_region ?_
  refine L_val rfl rfl rfl (OpP.v (P_buildArrR rfl ty_ar_33 ty_ze_33 rfl rfl rfl (by first | decide | (simp only [List.length_cons, List.length_nil]; omega)) (by simp [Value.oneCell']))) ?_
  refine E_as (t := 23) (v' := .agg (ints .u8 (List.replicate 16 0)).toArray) rfl (rfl) ?_
  refine L_op rfl (W_storeAll rfl rfl rfl rfl ty_ag_33 (rfl) (ints_one) .h6 (rfl) ?_)
  refine L_val rfl rfl rfl (OpP.v (P_assign rfl rfl)) ?_
  refine L_nil ?_
  refine St.env (.cons (t := 0) rfl (.cons (t := 1) rfl (.cons (t := 4) rfl (.cons (t := 5) rfl .nil)))) ?_
  refine Q_then ?_
  refine R_ret ?_
  refine Q_then_ret ?_
  exact R_endN (rs2 := [REG p sg (rc)]) rfl rfl (.cell rfl (Rds.loadVar ty_ag_33 (Rds.blk .h6) rfl) (.tmp rfl .nil)) (⟨rfl, rfl⟩) ((reg_close (rs := [_]) hreg).trans (Weak.keep (Weak.nil _)))
theorem sign_old {gl : Nat → Obj} (hG : Globs gl) (p : Nat) (sg : List (Int × Nat)) (rc : List Rcd) (i : Nat) (a : Int) (s : Nat) (hi : sg[i]? = some (a, s)) (base : Option Addr) (c : Nat) (xs : List Int) (hb : IsB xs) (hmax : xs.length ≤ 1048576) (hm : (a, xs) ∈ rc) : SpecR (cx gl) 18 [.pointer (some ⟨s, 0, none⟩), .slice base xs.length c] (fun w h => Seen w h base (ints .u8 xs)) [REG p sg rc] (.tuple #[.agg (ints .u8 (sealH a xs)).toArray, .int .i64 0]) [REG p sg rc] := by
  refine Spec.enterX (C := cx gl) Tryd.func18 rfl 86 rfl rfl fun w0 h0 hsep hsub hpre => ?_
  show St (cx gl) _ [(0, .pointer (some ⟨s, 0, none⟩)), (1, .slice base xs.length c)] _ _
  refine St.openP (p := []) (fun ⟨m1, m2, m3, sd⟩ hreg => ?_)
  refine St.unbundle [] ?_
  refine R_seq ?_
  refine R_region ?_
  refine L_op rfl (W_alloc rfl rfl rfl ty_ze_33 fun b4 => ?_)
  refine L_val rfl rfl rfl (OpP.v (P_assign rfl rfl)) ?_
  refine L_nil ?_
  refine Q_then ?_
  refine R_seq ?_
  refine R_seq ?_
  refine St.res (rs' := [blk p [.int .i32 0, .int .u32 0, .map (some m1), .map (some m2), .map (some m3)] 97, mapK kU64 m1 (sgM sg), mapK recK m2 (rcM rc), mapK kU64 m3 (sdM sd), fam (sgH p) sg, fam sdH sd, blk b4 (List.replicate 16 (.int .u8 0)) 33]) (Weak.p1 (Weak.p1 (Weak.p1 (Weak.p1 (Weak.p1 (Weak.p1 (Weak.refl _))))))) ?_
  refine R_region ?_
  refine L_val rfl rfl rfl (OpP.v (P_move rfl rfl)) ?_
  refine L_val rfl rfl rfl (OpP.v (P_eqNil rfl ty_ptr_27 rfl rfl)) ?_
  refine L_val rfl rfl rfl (OpP.v (P_move rfl rfl)) ?_
  refine L_val rfl rfl rfl (OpP.v (P_move rfl rfl)) ?_
  refine L_val rfl rfl rfl (OpP.v (P_nil rfl rfl)) ?_
  refine L_val rfl rfl rfl (OpP.v (P_fld0 rfl ty_fl_100_0 rfl)) ?_
  refine L_val rfl rfl rfl (V_load rfl rfl ty_sc_25 (by first | exact (rd_sg .h4 hi).1 | exact (rd_sg .h5 hi).1 | exact (rd_sg .h6 hi).1 | exact (rd_sg .h7 hi).1)) ?_
  refine L_val rfl rfl rfl (OpP.v (P_eqNil rfl ty_ptr_25 rfl rfl)) ?_
  refine L_val rfl rfl rfl (OpP.v (P_pick rfl rfl rfl)) ?_
  refine L_nil ?_
  refine St.env (.cons (t := 0) rfl (.cons (t := 1) rfl (.cons (t := 4) rfl (.cons (t := 5) rfl (.cons (t := 18) rfl .nil))))) ?_
  refine Q_then ?_
  refine R_condF rfl ?_
  refine R_skip ?_
  refine Q_then ?_
  refine R_seq ?_
  refine R_seq ?_
  refine R_region ?_
  refine L_val rfl rfl rfl (OpP.v (P_move rfl rfl)) ?_
  refine L_val rfl rfl rfl (OpP.v (P_len rfl ty_sl_24 rfl)) ?_
  refine L_val rfl rfl rfl (OpP.v (P_gtr rfl rfl rfl)) ?_
  refine E_false (t := 22) rfl (decide_eq_false (by omega)) ?_
  refine L_nil ?_
  refine St.env (.cons (t := 0) rfl (.cons (t := 1) rfl (.cons (t := 4) rfl (.cons (t := 5) rfl (.cons (t := 22) rfl .nil))))) ?_
  refine Q_then ?_
  refine R_condF rfl ?_
  refine R_skip ?_
  refine Q_then ?_
  refine R_seq ?_
  refine R_region ?_
  refine L_val rfl rfl rfl (OpP.v (P_move rfl rfl)) ?_
  refine L_val rfl rfl rfl (OpP.v (P_nil rfl rfl)) ?_
  refine L_val rfl rfl rfl (OpP.v (P_fld0 rfl ty_fl_100_0 rfl)) ?_
  refine L_val rfl rfl rfl (V_load rfl rfl ty_sc_25 (by first | exact (rd_sg .h4 hi).1 | exact (rd_sg .h5 hi).1 | exact (rd_sg .h6 hi).1 | exact (rd_sg .h7 hi).1)) ?_
  refine L_val rfl rfl rfl (OpP.v (P_assign rfl rfl)) ?_
  refine L_nil ?_
  refine St.env (.cons (t := 0) rfl (.cons (t := 1) rfl (.cons (t := 4) rfl (.cons (t := 5) rfl (.cons (t := 6) rfl .nil))))) ?_
  refine Q_then ?_
  refine R_seq ?_
  refine R_region ?_
  refine L_val rfl rfl rfl (OpP.v (P_move rfl rfl)) ?_
  refine L_val rfl rfl rfl (OpP.v (P_nil rfl rfl)) ?_
  refine L_val rfl rfl rfl (OpP.v (P_fld0 rfl ty_fl_97_0 rfl)) ?_
  refine L_op rfl (W_callR rfl rfl rfl rfl fn_ca_40 (lock_ok p 97 [.int .u32 0, .map (some m1), .map (some m2), .map (some m3)]) (Split.one (p := [])) (fun _ _ _ _ _ _ _ => trivial) ?_)
  refine St.res (rs' := [blk p [.int .i32 1, .int .u32 0, .map (some m1), .map (some m2), .map (some m3)] 97, mapK kU64 m1 (sgM sg), mapK recK m2 (rcM rc), mapK kU64 m3 (sdM sd), fam (sgH p) sg, fam sdH sd, blk b4 (List.replicate 16 (.int .u8 0)) 33]) (Weak.refl _) ?_
  refine L_nil ?_
  refine St.env (.cons (t := 0) rfl (.cons (t := 1) rfl (.cons (t := 4) rfl (.cons (t := 5) rfl (.cons (t := 6) rfl .nil))))) ?_
  refine Q_then ?_
  refine R_seq ?_
  refine R_region ?_
  refine L_val rfl rfl rfl (OpP.v (P_move rfl rfl)) ?_
  refine L_val rfl rfl rfl (OpP.v (P_nil rfl rfl)) ?_
  refine L_val rfl rfl rfl (OpP.v (P_fld0 rfl ty_fl_97_0 rfl)) ?_
  refine L_op rfl (W_defer rfl rfl rfl ?_)
  refine L_nil ?_
  refine St.env (.cons (t := 0) rfl (.cons (t := 1) rfl (.cons (t := 4) rfl (.cons (t := 5) rfl (.cons (t := 6) rfl .nil))))) ?_
  refine Q_then ?_
  refine R_seq ?_
  refine R_open [(0, 0), (1, 0), (2, 0), (3, 1), (4, 0), (5, 1), (6, 0), (7, 2), (8, 3)] mixed (by kernel_rfl) (QOk.then QOk.bodyX) ?_
  refine O_pure rfl rfl rfl rfl (P_move rfl rfl) ?_
  refine O_pure rfl rfl rfl rfl (P_nil rfl rfl) ?_
  refine O_pure rfl rfl rfl rfl (P_fld0 rfl ty_fl_100_1 rfl) ?_
  refine O_val rfl rfl rfl rfl (V_load rfl rfl ty_sc_23 (by first | exact (rd_sg .h4 hi).2 | exact (rd_sg .h5 hi).2 | exact (rd_sg .h6 hi).2 | exact (rd_sg .h7 hi).2)) ?_
  refine O_pure rfl rfl rfl rfl (P_move rfl rfl) ?_
  refine O_val rfl rfl rfl rfl (V_str rfl (slB_spec ty_sl_24).1 ty_int_5 ty_str_9 rfl ((Sn.old hpre).rw_)) ?_
  refine O_pure rfl rfl rfl rfl (P_buildStruct rfl ty_pl_102 ty_ze_102 rfl rfl (rfl)) ?_
  refine E_as (t := 41) (v' := .agg [.int .u64 a, .string (strOfNums xs)].toArray) rfl (rfl) ?_
  refine O_keep rfl rfl (W_alloc rfl rfl rfl ty_ze_102 fun b7 => (K_keep (Weak.drop (Weak.refl _)) ?_))
  refine O_new rfl rfl (W_storeAll rfl rfl rfl rfl ty_ag_102 (rfl) (by intro v hv; simp only [List.mem_cons, List.not_mem_nil, or_false] at hv; rcases hv with rfl | rfl <;> rfl) .h0 (rfl) (K_new ?_))
  refine O_nil ?_
  refine St.env (.cons (t := 0) rfl (.cons (t := 1) rfl (.cons (t := 4) rfl (.cons (t := 5) rfl (.cons (t := 6) rfl (.cons (t := 7) rfl .nil)))))) ?_
  refine Q_then ?_
  refine R_seq ?_
  refine R_seq ?_
  refine St.res (rs' := [blk p [.int .i32 1, .int .u32 0, .map (some m1), .map (some m2), .map (some m3)] 97, mapK kU64 m1 (sgM sg), mapK recK m2 (rcM rc), mapK kU64 m3 (sdM sd), fam (sgH p) sg, fam sdH sd, blk b4 (List.replicate 16 (.int .u8 0)) 33, blk b7 [.int .u64 a, .string (strOfNums xs)] 102]) (Weak.p1 (Weak.p1 (Weak.p1 (Weak.p1 (Weak.p1 (Weak.p1 (Weak.p1 (Weak.refl _)))))))) ?_
  refine R_open [(0, 0), (1, 0), (2, 0), (3, 1), (4, 1), (5, 1), (6, 0), (7, 0), (8, 0), (9, 2), (10, 3), (11, 0)] mixed (by kernel_rfl) (QOk.then (QOk.then QOk.bodyX)) ?_
  refine O_pure rfl rfl rfl rfl (P_move rfl rfl) ?_
  refine O_pure rfl rfl rfl rfl (P_nil rfl rfl) ?_
  refine O_pure rfl rfl rfl rfl (P_fld0 rfl ty_fl_97_2 rfl) ?_
  refine O_val rfl rfl rfl rfl (V_load rfl rfl ty_sc_94 (by first | exact Rd.blk .h0 rfl | exact Rd.blk .h1 rfl | exact Rd.blk .h2 rfl | exact Rd.blk .h3 rfl | exact Rd.blk .h4 rfl | exact Rd.blk .h5 rfl | exact Rd.blk .h6 rfl | exact Rd.blk .h7 rfl)) ?_
  refine O_val rfl rfl rfl rfl (V_loadAgg rfl rfl ty_ag_102 (Rds.blk .h7) (rfl)) ?_
  refine O_val rfl rfl rfl rfl (V_lookupK (k := (a, xs)) rfl ty_map_94 (keyRec rec_102) rfl rfl (hb) (rcM_ok hreg.1) .h2 (run_zeroValue_of ty_zv_86)) ?_
  refine E_as (t := 48) (v' := .tuple #[.agg #[], .bool (decide ((a, xs) ∈ rc))]) rfl (look_rc rc (a, xs)) ?_
  refine O_pure rfl rfl rfl rfl (P_move rfl rfl) ?_
  refine O_pure rfl rfl rfl rfl (P_extract rfl rfl rfl) ?_
  refine O_pure rfl rfl rfl rfl (P_extract rfl rfl rfl) ?_
  refine O_keep rfl rfl (W_alloc rfl rfl rfl ty_ze_86 fun b8 => (K_keep (Weak.drop (Weak.refl _)) ?_))
  refine O_new rfl rfl (W_storeAll rfl rfl rfl rfl ty_ag_86 (rfl) (fun _ h => by cases h) .h0 (rfl) (K_new ?_))
  refine O_pure rfl rfl rfl rfl (P_assign rfl rfl) ?_
  refine O_nil ?_
  refine St.env (.cons (t := 0) rfl (.cons (t := 1) rfl (.cons (t := 4) rfl (.cons (t := 5) rfl (.cons (t := 6) rfl (.cons (t := 7) rfl (.cons (t := 9) rfl .nil))))))) ?_
  refine Q_then ?_
  refine R_seq ?_
  refine St.res (rs' := [blk p [.int .i32 1, .int .u32 0, .map (some m1), .map (some m2), .map (some m3)] 97, mapK kU64 m1 (sgM sg), mapK recK m2 (rcM rc), mapK kU64 m3 (sdM sd), fam (sgH p) sg, fam sdH sd, blk b4 (List.replicate 16 (.int .u8 0)) 33, blk b7 [.int .u64 a, .string (strOfNums xs)] 102]) (Weak.drop (Weak.refl _)) ?_
  refine R_region ?_
  refine L_val rfl rfl rfl (OpP.v (P_move rfl rfl)) ?_
  refine L_val rfl rfl rfl (OpP.v (P_not rfl rfl)) ?_
  refine E_false (t := 52) rfl (by simp [hm]) ?_
  refine L_nil ?_
  refine St.env (.cons (t := 0) rfl (.cons (t := 1) rfl (.cons (t := 4) rfl (.cons (t := 5) rfl (.cons (t := 6) rfl (.cons (t := 7) rfl (.cons (t := 52) rfl .nil))))))) ?_
  refine Q_then ?_
  refine R_condF rfl ?_
  refine R_skip ?_
  refine Q_then ?_
  refine R_seq ?_
  refine R_region ?_
  refine L_val rfl rfl rfl (OpP.v (P_move rfl rfl)) ?_
  refine L_val rfl rfl rfl (OpP.v (P_nil rfl rfl)) ?_
  refine L_val rfl rfl rfl (OpP.v (P_fld0 rfl ty_fl_100_1 rfl)) ?_
  refine L_val rfl rfl rfl (V_load rfl rfl ty_sc_23 (by first | exact (rd_sg .h4 hi).2 | exact (rd_sg .h5 hi).2 | exact (rd_sg .h6 hi).2 | exact (rd_sg .h7 hi).2)) ?_
  refine L_val rfl rfl rfl (OpP.v (P_move rfl rfl)) ?_
  refine L_op rfl (W_callV rfl rfl rfl rfl fn_ca_42 (seal_ok hG a base c xs (by omega)) ((Sn.old hpre).rw_) ?_)
  refine L_op rfl (W_storeAll rfl rfl rfl rfl ty_ag_33 (by rw [ints_length, sealH_length]) (ints_one) .h6 (by rw [ints_length, sealH_length]; rfl) ?_)
  refine L_val rfl rfl rfl (OpP.v (P_assign rfl rfl)) ?_
  refine L_nil ?_
  refine St.env (.cons (t := 4) rfl (.cons (t := 5) rfl .nil)) ?_
  refine Q_then ?_
  refine R_ret ?_
  exact R_endX (rs2 := [REG p sg (rc)]) rfl fn_ca_41 (unlockD_ok p 97 [.int .u32 0, .map (some m1), .map (some m2), .map (some m3)]) (Split.one (p := [])) (fun _ _ _ _ _ _ _ => trivial) rfl (.cell rfl (Rds.loadVar ty_ag_33 (Rds.blk .h6) (by rw [ints_length, sealH_length])) (.tmp rfl .nil)) (⟨rfl, rfl⟩) ((reg_close (rs := [_, _]) hreg).trans (Weak.keep (Weak.nil _)))
theorem sign_new {gl : Nat → Obj} (hG : Globs gl) (p : Nat) (sg : List (Int × Nat)) (rc : List Rcd) (i : Nat) (a : Int) (s : Nat) (hi : sg[i]? = some (a, s)) (base : Option Addr) (c : Nat) (xs : List Int) (hb : IsB xs) (hmax : xs.length ≤ 1048576) (hrc : rc.length ≤ 4398046511104) (hm : (a, xs) ∉ rc) : SpecR (cx gl) 18 [.pointer (some ⟨s, 0, none⟩), .slice base xs.length c] (fun w h => Seen w h base (ints .u8 xs)) [REG p sg rc] (.tuple #[.agg (ints .u8 (sealH a xs)).toArray, .int .i64 0]) [REG p sg (rc ++ [(a, xs)])] := by
  refine Spec.enterX (C := cx gl) Tryd.func18 rfl 86 rfl rfl fun w0 h0 hsep hsub hpre => ?_
  show St (cx gl) _ [(0, .pointer (some ⟨s, 0, none⟩)), (1, .slice base xs.length c)] _ _
  refine St.openP (p := []) (fun ⟨m1, m2, m3, sd⟩ hreg => ?_)
  refine St.unbundle [] ?_
  refine R_seq ?_
  refine R_region ?_
  refine L_op rfl (W_alloc rfl rfl rfl ty_ze_33 fun b4 => ?_)
  refine L_val rfl rfl rfl (OpP.v (P_assign rfl rfl)) ?_
  refine L_nil ?_
  refine Q_then ?_
  refine R_seq ?_
  refine R_seq ?_
  refine St.res (rs' := [blk p [.int .i32 0, .int .u32 0, .map (some m1), .map (some m2), .map (some m3)] 97, mapK kU64 m1 (sgM sg), mapK recK m2 (rcM rc), mapK kU64 m3 (sdM sd), fam (sgH p) sg, fam sdH sd, blk b4 (List.replicate 16 (.int .u8 0)) 33]) (Weak.p1 (Weak.p1 (Weak.p1 (Weak.p1 (Weak.p1 (Weak.p1 (Weak.refl _))))))) ?_
  refine R_region ?_
  refine L_val rfl rfl rfl (OpP.v (P_move rfl rfl)) ?_
  refine L_val rfl rfl rfl (OpP.v (P_eqNil rfl ty_ptr_27 rfl rfl)) ?_
  refine L_val rfl rfl rfl (OpP.v (P_move rfl rfl)) ?_
  refine L_val rfl rfl rfl (OpP.v (P_move rfl rfl)) ?_
  refine L_val rfl rfl rfl (OpP.v (P_nil rfl rfl)) ?_
  refine L_val rfl rfl rfl (OpP.v (P_fld0 rfl ty_fl_100_0 rfl)) ?_
  refine L_val rfl rfl rfl (V_load rfl rfl ty_sc_25 (by first | exact (rd_sg .h4 hi).1 | exact (rd_sg .h5 hi).1 | exact (rd_sg .h6 hi).1 | exact (rd_sg .h7 hi).1)) ?_
  refine L_val rfl rfl rfl (OpP.v (P_eqNil rfl ty_ptr_25 rfl rfl)) ?_
  refine L_val rfl rfl rfl (OpP.v (P_pick rfl rfl rfl)) ?_
  refine L_nil ?_
  refine St.env (.cons (t := 0) rfl (.cons (t := 1) rfl (.cons (t := 4) rfl (.cons (t := 5) rfl (.cons (t := 18) rfl .nil))))) ?_
  refine Q_then ?_
  refine R_condF rfl ?_
  refine R_skip ?_
  refine Q_then ?_
  refine R_seq ?_
  refine R_seq ?_
  refine R_region ?_
  refine L_val rfl rfl rfl (OpP.v (P_move rfl rfl)) ?_
  refine L_val rfl rfl rfl (OpP.v (P_len rfl ty_sl_24 rfl)) ?_
  refine L_val rfl rfl rfl (OpP.v (P_gtr rfl rfl rfl)) ?_
  refine E_false (t := 22) rfl (decide_eq_false (by omega)) ?_
  refine L_nil ?_
  refine St.env (.cons (t := 0) rfl (.cons (t := 1) rfl (.cons (t := 4) rfl (.cons (t := 5) rfl (.cons (t := 22) rfl .nil))))) ?_
  refine Q_then ?_
  refine R_condF rfl ?_
  refine R_skip ?_
  refine Q_then ?_
  refine R_seq ?_
  refine R_region ?_
  refine L_val rfl rfl rfl (OpP.v (P_move rfl rfl)) ?_
  refine L_val rfl rfl rfl (OpP.v (P_nil rfl rfl)) ?_
  refine L_val rfl rfl rfl (OpP.v (P_fld0 rfl ty_fl_100_0 rfl)) ?_
  refine L_val rfl rfl rfl (V_load rfl rfl ty_sc_25 (by first | exact (rd_sg .h4 hi).1 | exact (rd_sg .h5 hi).1 | exact (rd_sg .h6 hi).1 | exact (rd_sg .h7 hi).1)) ?_
  refine L_val rfl rfl rfl (OpP.v (P_assign rfl rfl)) ?_
  refine L_nil ?_
  refine St.env (.cons (t := 0) rfl (.cons (t := 1) rfl (.cons (t := 4) rfl (.cons (t := 5) rfl (.cons (t := 6) rfl .nil))))) ?_
  refine Q_then ?_
  refine R_seq ?_
  refine R_region ?_
  refine L_val rfl rfl rfl (OpP.v (P_move rfl rfl)) ?_
  refine L_val rfl rfl rfl (OpP.v (P_nil rfl rfl)) ?_
  refine L_val rfl rfl rfl (OpP.v (P_fld0 rfl ty_fl_97_0 rfl)) ?_
  refine L_op rfl (W_callR rfl rfl rfl rfl fn_ca_40 (lock_ok p 97 [.int .u32 0, .map (some m1), .map (some m2), .map (some m3)]) (Split.one (p := [])) (fun _ _ _ _ _ _ _ => trivial) ?_)
  refine St.res (rs' := [blk p [.int .i32 1, .int .u32 0, .map (some m1), .map (some m2), .map (some m3)] 97, mapK kU64 m1 (sgM sg), mapK recK m2 (rcM rc), mapK kU64 m3 (sdM sd), fam (sgH p) sg, fam sdH sd, blk b4 (List.replicate 16 (.int .u8 0)) 33]) (Weak.refl _) ?_
  refine L_nil ?_
  refine St.env (.cons (t := 0) rfl (.cons (t := 1) rfl (.cons (t := 4) rfl (.cons (t := 5) rfl (.cons (t := 6) rfl .nil))))) ?_
  refine Q_then ?_
  refine R_seq ?_
  refine R_region ?_
  refine L_val rfl rfl rfl (OpP.v (P_move rfl rfl)) ?_
  refine L_val rfl rfl rfl (OpP.v (P_nil rfl rfl)) ?_
  refine L_val rfl rfl rfl (OpP.v (P_fld0 rfl ty_fl_97_0 rfl)) ?_
  refine L_op rfl (W_defer rfl rfl rfl ?_)
  refine L_nil ?_
  refine St.env (.cons (t := 0) rfl (.cons (t := 1) rfl (.cons (t := 4) rfl (.cons (t := 5) rfl (.cons (t := 6) rfl .nil))))) ?_
  refine Q_then ?_
  refine R_seq ?_
  refine R_open [(0, 0), (1, 0), (2, 0), (3, 1), (4, 0), (5, 1), (6, 0), (7, 2), (8, 3)] mixed (by kernel_rfl) (QOk.then QOk.bodyX) ?_
  refine O_pure rfl rfl rfl rfl (P_move rfl rfl) ?_
  refine O_pure rfl rfl rfl rfl (P_nil rfl rfl) ?_
  refine O_pure rfl rfl rfl rfl (P_fld0 rfl ty_fl_100_1 rfl) ?_
  refine O_val rfl rfl rfl rfl (V_load rfl rfl ty_sc_23 (by first | exact (rd_sg .h4 hi).2 | exact (rd_sg .h5 hi).2 | exact (rd_sg .h6 hi).2 | exact (rd_sg .h7 hi).2)) ?_
  refine O_pure rfl rfl rfl rfl (P_move rfl rfl) ?_
  refine O_val rfl rfl rfl rfl (V_str rfl (slB_spec ty_sl_24).1 ty_int_5 ty_str_9 rfl ((Sn.old hpre).rw_)) ?_
  refine O_pure rfl rfl rfl rfl (P_buildStruct rfl ty_pl_102 ty_ze_102 rfl rfl (rfl)) ?_
  refine E_as (t := 41) (v' := .agg [.int .u64 a, .string (strOfNums xs)].toArray) rfl (rfl) ?_
  refine O_keep rfl rfl (W_alloc rfl rfl rfl ty_ze_102 fun b7 => (K_keep (Weak.drop (Weak.refl _)) ?_))
  refine O_new rfl rfl (W_storeAll rfl rfl rfl rfl ty_ag_102 (rfl) (by intro v hv; simp only [List.mem_cons, List.not_mem_nil, or_false] at hv; rcases hv with rfl | rfl <;> rfl) .h0 (rfl) (K_new ?_))
  refine O_nil ?_
  refine St.env (.cons (t := 0) rfl (.cons (t := 1) rfl (.cons (t := 4) rfl (.cons (t := 5) rfl (.cons (t := 6) rfl (.cons (t := 7) rfl .nil)))))) ?_
  refine Q_then ?_
  refine R_seq ?_
  refine R_seq ?_
  refine St.res (rs' := [blk p [.int .i32 1, .int .u32 0, .map (some m1), .map (some m2), .map (some m3)] 97, mapK kU64 m1 (sgM sg), mapK recK m2 (rcM rc), mapK kU64 m3 (sdM sd), fam (sgH p) sg, fam sdH sd, blk b4 (List.replicate 16 (.int .u8 0)) 33, blk b7 [.int .u64 a, .string (strOfNums xs)] 102]) (Weak.p1 (Weak.p1 (Weak.p1 (Weak.p1 (Weak.p1 (Weak.p1 (Weak.p1 (Weak.refl _)))))))) ?_
  refine R_open [(0, 0), (1, 0), (2, 0), (3, 1), (4, 1), (5, 1), (6, 0), (7, 0), (8, 0), (9, 2), (10, 3), (11, 0)] mixed (by kernel_rfl) (QOk.then (QOk.then QOk.bodyX)) ?_
  refine O_pure rfl rfl rfl rfl (P_move rfl rfl) ?_
  refine O_pure rfl rfl rfl rfl (P_nil rfl rfl) ?_
  refine O_pure rfl rfl rfl rfl (P_fld0 rfl ty_fl_97_2 rfl) ?_
  refine O_val rfl rfl rfl rfl (V_load rfl rfl ty_sc_94 (by first | exact Rd.blk .h0 rfl | exact Rd.blk .h1 rfl | exact Rd.blk .h2 rfl | exact Rd.blk .h3 rfl | exact Rd.blk .h4 rfl | exact Rd.blk .h5 rfl | exact Rd.blk .h6 rfl | exact Rd.blk .h7 rfl)) ?_
  refine O_val rfl rfl rfl rfl (V_loadAgg rfl rfl ty_ag_102 (Rds.blk .h7) (rfl)) ?_
  refine O_val rfl rfl rfl rfl (V_lookupK (k := (a, xs)) rfl ty_map_94 (keyRec rec_102) rfl rfl (hb) (rcM_ok hreg.1) .h2 (run_zeroValue_of ty_zv_86)) ?_
  refine E_as (t := 48) (v' := .tuple #[.agg #[], .bool (decide ((a, xs) ∈ rc))]) rfl (look_rc rc (a, xs)) ?_
  refine O_pure rfl rfl rfl rfl (P_move rfl rfl) ?_
  refine O_pure rfl rfl rfl rfl (P_extract rfl rfl rfl) ?_
  refine O_pure rfl rfl rfl rfl (P_extract rfl rfl rfl) ?_
  refine O_keep rfl rfl (W_alloc rfl rfl rfl ty_ze_86 fun b8 => (K_keep (Weak.drop (Weak.refl _)) ?_))
  refine O_new rfl rfl (W_storeAll rfl rfl rfl rfl ty_ag_86 (rfl) (fun _ h => by cases h) .h0 (rfl) (K_new ?_))
  refine O_pure rfl rfl rfl rfl (P_assign rfl rfl) ?_
  refine O_nil ?_
  refine St.env (.cons (t := 0) rfl (.cons (t := 1) rfl (.cons (t := 4) rfl (.cons (t := 5) rfl (.cons (t := 6) rfl (.cons (t := 7) rfl (.cons (t := 9) rfl .nil))))))) ?_
  refine Q_then ?_
  refine R_seq ?_
  refine St.res (rs' := [blk p [.int .i32 1, .int .u32 0, .map (some m1), .map (some m2), .map (some m3)] 97, mapK kU64 m1 (sgM sg), mapK recK m2 (rcM rc), mapK kU64 m3 (sdM sd), fam (sgH p) sg, fam sdH sd, blk b4 (List.replicate 16 (.int .u8 0)) 33, blk b7 [.int .u64 a, .string (strOfNums xs)] 102]) (Weak.drop (Weak.refl _)) ?_
  refine R_region ?_
  refine L_val rfl rfl rfl (OpP.v (P_move rfl rfl)) ?_
  refine L_val rfl rfl rfl (OpP.v (P_not rfl rfl)) ?_
  refine E_true (t := 52) rfl (by simp [hm]) ?_
  refine L_nil ?_
  refine St.env (.cons (t := 0) rfl (.cons (t := 1) rfl (.cons (t := 4) rfl (.cons (t := 5) rfl (.cons (t := 6) rfl (.cons (t := 7) rfl (.cons (t := 52) rfl .nil))))))) ?_
  refine Q_then ?_
  refine R_condT rfl ?_
  refine R_seq ?_
  refine R_open [(0, 0), (1, 0), (2, 0), (3, 1), (4, 1), (5, 0), (6, 3)] mixed (by kernel_rfl) (QOk.then (QOk.then QOk.bodyX)) ?_
  refine O_pure rfl rfl rfl rfl (P_move rfl rfl) ?_
  refine O_pure rfl rfl rfl rfl (P_nil rfl rfl) ?_
  refine O_pure rfl rfl rfl rfl (P_fld0 rfl ty_fl_97_2 rfl) ?_
  refine O_val rfl rfl rfl rfl (V_load rfl rfl ty_sc_94 (by first | exact Rd.blk .h0 rfl | exact Rd.blk .h1 rfl | exact Rd.blk .h2 rfl | exact Rd.blk .h3 rfl | exact Rd.blk .h4 rfl | exact Rd.blk .h5 rfl | exact Rd.blk .h6 rfl | exact Rd.blk .h7 rfl)) ?_
  refine O_val rfl rfl rfl rfl (V_loadAgg rfl rfl ty_ag_102 (Rds.blk .h7) (rfl)) ?_
  refine O_pure rfl rfl rfl rfl (P_buildStruct rfl ty_pl_86 ty_ze_86 rfl rfl (rfl)) ?_
  refine O_new rfl rfl (W_mapSet (k := (a, xs)) rfl rfl ty_map_94 (keyRec rec_102) rfl rfl rfl (hb) (rcM_ok hreg.1) .h2 .h2 (K_new ?_))
  rw [set_rc hm]
  refine O_nil ?_
  refine St.env (.cons (t := 0) rfl (.cons (t := 1) rfl (.cons (t := 4) rfl (.cons (t := 5) rfl (.cons (t := 6) rfl (.cons (t := 7) rfl .nil)))))) ?_
  refine Q_then ?_
  obtain ⟨v0, REST, hlk, hw1, hw2, hw3⟩ := sd_open hreg a
  have hml := msgsOf_le rc a
  refine St.res (rs' := [ownS 9 1 v0 (msgsOf rc a).length (strV (msgsOf rc a)), REST, blk p [.int .i32 1, .int .u32 0, .map (some m1), .map (some m2), .map (some m3)] 97, mapK kU64 m1 (sgM sg), mapK recK m2 (rcM (rc ++ [(a, xs)])), mapK kU64 m3 (sdM sd), fam (sgH p) sg, blk b4 (List.replicate 16 (.int .u8 0)) 33, blk b7 [.int .u64 a, .string (strOfNums xs)] 102]) ((Weak.p5 (Weak.refl _)).trans (hw1 _)) ?_
  refine R_openQ [(0, 0), (1, 0), (2, 0), (3, 1), (4, 0), (5, 0), (6, 0), (7, 1), (8, 0), (9, 0), (10, 0), (11, 1), (12, 0), (13, 0), (14, 0), (15, 1), (16, 1), (17, 0), (18, 1), (19, 2), (20, 2), (21, 3)] [REST, blk p [.int .i32 1, .int .u32 0, .map (some m1), .map (some m2), .map (some m3)] 97, mapK kU64 m1 (sgM sg), mapK recK m2 (rcM (rc ++ [(a, xs)])), mapK kU64 m3 (sdM sd), fam (sgH p) sg, blk b4 (List.replicate 16 (.int .u8 0)) 33, blk b7 [.int .u64 a, .string (strOfNums xs)] 102] (Weak.drop (Weak.refl _)) mixed (by kernel_rfl) (QOk.then QOk.bodyX) ?_
  refine O_pureQ rfl rfl rfl rfl (P_move rfl rfl) ?_
  refine O_pureQ rfl rfl rfl rfl (P_nil rfl rfl) ?_
  refine O_pureQ rfl rfl rfl rfl (P_fld0 rfl ty_fl_97_3 rfl) ?_
  refine O_valQ rfl rfl rfl rfl (V_load rfl rfl ty_sc_95 (by first | exact Rd.blk .h0 rfl | exact Rd.blk .h1 rfl | exact Rd.blk .h2 rfl | exact Rd.blk .h3 rfl | exact Rd.blk .h4 rfl | exact Rd.blk .h5 rfl | exact Rd.blk .h6 rfl | exact Rd.blk .h7 rfl)) ?_
  refine O_pureQ rfl rfl rfl rfl (P_move rfl rfl) ?_
  refine O_pureQ rfl rfl rfl rfl (P_nil rfl rfl) ?_
  refine O_pureQ rfl rfl rfl rfl (P_fld0 rfl ty_fl_100_1 rfl) ?_
  refine O_valQ rfl rfl rfl rfl (V_load rfl rfl ty_sc_23 (by first | exact (rd_sg .h4 hi).2 | exact (rd_sg .h5 hi).2 | exact (rd_sg .h6 hi).2 | exact (rd_sg .h7 hi).2)) ?_
  refine O_pureQ rfl rfl rfl rfl (P_move rfl rfl) ?_
  refine O_pureQ rfl rfl rfl rfl (P_nil rfl rfl) ?_
  refine O_pureQ rfl rfl rfl rfl (P_fld0 rfl ty_fl_97_3 rfl) ?_
  refine O_valQ rfl rfl rfl rfl (V_load rfl rfl ty_sc_95 (by first | exact Rd.blk .h0 rfl | exact Rd.blk .h1 rfl | exact Rd.blk .h2 rfl | exact Rd.blk .h3 rfl | exact Rd.blk .h4 rfl | exact Rd.blk .h5 rfl | exact Rd.blk .h6 rfl | exact Rd.blk .h7 rfl)) ?_
  refine O_pureQ rfl rfl rfl rfl (P_move rfl rfl) ?_
  refine O_pureQ rfl rfl rfl rfl (P_nil rfl rfl) ?_
  refine O_pureQ rfl rfl rfl rfl (P_fld0 rfl ty_fl_100_1 rfl) ?_
  refine O_valQ rfl rfl rfl rfl (V_load rfl rfl ty_sc_23 (by first | exact (rd_sg .h4 hi).2 | exact (rd_sg .h5 hi).2 | exact (rd_sg .h6 hi).2 | exact (rd_sg .h7 hi).2)) ?_
  refine O_valQ rfl rfl rfl rfl (V_lookupK rfl ty_map_95 (keyU64 ty_int_23) rfl rfl (trivial) (fun _ _ => trivial) .h4 (run_zeroValue_of ty_zv_104)) ?_
  refine E_as (t := 75) (v' := v0) rfl (hlk) ?_
  refine O_pureQ rfl rfl rfl rfl (P_fld0 rfl ty_fl_102_1 rfl) ?_
  refine O_valQ rfl rfl rfl rfl (V_load rfl rfl ty_sc_9 (Rd.blk .h7 rfl)) ?_
  refine O_keepQ rfl rfl (W_lit (z := .nilIface) ([.string (strOfNums xs)]) rfl rfl rfl ty_sl_104 ty_lz_104 rfl rfl rfl (by decide) (by decide) (by simp [Value.cells]) (rfl) fun b78 => (K_keepQ (Weak.drop (Weak.drop (Weak.refl _))) ?_))
  refine O_keepQ rfl rfl (W_append (p := [_]) rfl rfl rfl ty_sl_104 ty_ap_104 ty_src_104 rfl rfl rfl (Src.slice (sz := 1) (news := [.string (strOfNums xs)]) (Rds.blk .h0) rfl (by intro v hv; simp only [List.mem_singleton] at hv; subst hv; rfl)) (by omega) (by simp only [maxLen]; omega) fun v79 => (K_keepQ (Weak.drop (Weak.drop (Weak.refl _))) ?_))
  refine O_newQ rfl rfl (W_mapSet rfl rfl ty_map_95 (keyU64 ty_int_23) rfl rfl rfl (trivial) (fun _ _ => trivial) .h6 .h6 (K_newQ _ (Weak.refl _) ?_))
  obtain ⟨sd', he, hreg', hw⟩ := hw3 xs v79 hb hmax
  rw [he]
  refine O_nilQ ?_
  refine St.env (.cons (t := 0) rfl (.cons (t := 1) rfl (.cons (t := 4) rfl (.cons (t := 5) rfl .nil)))) ?_
  refine Q_then ?_
  refine R_seq ?_
  refine St.res (rs' := [blk p [.int .i32 1, .int .u32 0, .map (some m1), .map (some m2), .map (some m3)] 97, mapK kU64 m1 (sgM sg), mapK recK m2 (rcM (rc ++ [(a, xs)])), mapK kU64 m3 (sdM sd'), fam (sgH p) sg, fam sdH sd', blk b4 (List.replicate 16 (.int .u8 0)) 33, blk b7 [.int .u64 a, .string (strOfNums xs)] 102]) ((Weak.drop (hw _)).trans (Weak.p1 (Weak.p1 (Weak.p1 (Weak.p1 (Weak.p1 (Weak.refl _))))))) ?_
  refine R_region ?_
  refine L_val rfl rfl rfl (OpP.v (P_move rfl rfl)) ?_
  refine L_val rfl rfl rfl (OpP.v (P_nil rfl rfl)) ?_
  refine L_val rfl rfl rfl (OpP.v (P_fld0 rfl ty_fl_100_1 rfl)) ?_
  refine L_val rfl rfl rfl (V_load rfl rfl ty_sc_23 (by first | exact (rd_sg .h4 hi).2 | exact (rd_sg .h5 hi).2 | exact (rd_sg .h6 hi).2 | exact (rd_sg .h7 hi).2)) ?_
  refine L_val rfl rfl rfl (OpP.v (P_move rfl rfl)) ?_
  refine L_op rfl (W_callV rfl rfl rfl rfl fn_ca_42 (seal_ok hG a base c xs (by omega)) ((Sn.old hpre).rw_) ?_)
  refine L_op rfl (W_storeAll rfl rfl rfl rfl ty_ag_33 (by rw [ints_length, sealH_length]) (ints_one) .h6 (by rw [ints_length, sealH_length]; rfl) ?_)
  refine L_val rfl rfl rfl (OpP.v (P_assign rfl rfl)) ?_
  refine L_nil ?_
  refine St.env (.cons (t := 4) rfl (.cons (t := 5) rfl .nil)) ?_
  refine Q_then ?_
  refine R_ret ?_
  exact R_endX (rs2 := [REG p sg (rc ++ [(a, xs)])]) rfl fn_ca_41 (unlockD_ok p 97 [.int .u32 0, .map (some m1), .map (some m2), .map (some m3)]) (Split.one (p := [])) (fun _ _ _ _ _ _ _ => trivial) rfl (.cell rfl (Rds.loadVar ty_ag_33 (Rds.blk .h6) (by rw [ints_length, sealH_length])) (.tmp rfl .nil)) (⟨rfl, rfl⟩) ((reg_close (rs := [_, _]) hreg').trans (Weak.keep (Weak.nil _)))
end Go.Proofs.YtnaadddnbfnahaaDoor
