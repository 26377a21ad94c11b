/- SealOnce: the walk. Printed by gen.py. -/
import Derived.Test.YtnaadddnbfnahaaDoorO1
set_option linter.unusedVariables false
set_option linter.unusedSimpArgs false
set_option maxRecDepth 100000
namespace Go.Proofs.YtnaadddnbfnahaaDoor
open Go Go.RowKit Go.Proofs
section
variable {C : Cx} {F : Fx} {rs : List HP}
theorem now_script {base : Option Addr} {l : List Opr} (h : ScriptOK F.w base l) (hF : F.h = Heap.none) : ∀ w, Now C F rs w → ScriptOK w base l := fun w nw => ⟨(Sn.row h.1 hF).rw_ w nw, fun o ho => ⟨(Sn.row (h.2 o ho).1 hF).rw_ w nw, (h.2 o ho).2⟩⟩
end
attribute [local irreducible] atN sumM
theorem sealOnce_walk {gl : Nat → Obj} (hG : Globs gl) (base : Option Addr) (c : Nat) (ops : List Opr) (hc : ops.length ≤ c) (hmax : ops.length ≤ 1599289640354) (hm : ∀ o ∈ ops, o.m.xs.length ≤ 140737488351232) (cut : Int) : SpecV (cx gl) 7 [.slice base ops.length c, .int .i64 cut] (fun w => ScriptOK w base ops) (.bool true) := by
  refine Spec.enter (C := cx gl) Tryd.func7 rfl 175 rfl rfl fun w0 h0 hsep hsub hpre => ?_
  obtain rfl : h0 = Heap.none := hsep
  show St (cx gl) _ [(0, .slice base ops.length c), (1, .int .i64 cut)] _ _
  have hbd := aroundI_bound (x := cut) (n := (ops.length : Int) + 1) (by omega)
  obtain ⟨kk, hkk⟩ : ∃ kk : Nat, aroundI cut ((ops.length : Int) + 1) = kk := ⟨(aroundI cut ((ops.length : Int) + 1)).toNat, by omega⟩
  have hkl : kk ≤ ops.length := by omega
  have hkt : (ops.take kk).length = kk := by rw [List.length_take]; omega
  have hwk := watch_ok (gl := gl) hG base c (ops.take kk) (by omega) (fun o ho => hm o (List.mem_of_mem_take ho))
  rw [hkt] at hwk
  refine R_seq ?_
  refine R_region ?_
  refine L_val rfl rfl rfl (OpP.v (P_assign rfl rfl)) ?_
  refine L_nil ?_
  refine Q_then ?_
  refine R_seq ?_
  refine R_region ?_
  refine L_val rfl rfl rfl (OpP.v (P_move rfl rfl)) ?_
  refine L_val rfl rfl rfl (OpP.v (P_move rfl rfl)) ?_
  refine L_val rfl rfl rfl (OpP.v (P_len rfl ty_sl_39 rfl)) ?_
  first | (refine L_val rfl rfl rfl (OpP.v (P_addN rfl rfl rfl (by simp only [fits]; omega))) ?_) | (refine L_val rfl rfl rfl (OpP.v (P_add rfl rfl rfl)) ?_)
  refine L_op rfl (W_callV rfl rfl rfl rfl fn_ca_26 (around_ok cut ((ops.length : Int) + 1) (by omega) (by omega)) (fun _ _ => trivial) ?_)
  refine E_as (t := 22) (v' := .int .i64 (kk : Int)) rfl (by rw [hkk]) ?_
  refine L_val rfl rfl rfl (OpP.v (P_assign rfl rfl)) ?_
  refine L_nil ?_
  refine St.env (.cons (t := 0) rfl (.cons (t := 4) rfl (.cons (t := 5) rfl .nil))) ?_
  refine Q_then ?_
  refine R_seq ?_
  refine R_region ?_
  refine L_val rfl rfl rfl (OpP.v (P_move rfl rfl)) ?_
  refine L_val rfl rfl rfl (OpP.v (P_move rfl rfl)) ?_
  refine L_val rfl rfl rfl (OpP.v (P_slice 0 kk rfl ty_sl_39 rfl rfl ⟨_, rfl⟩ (by omega) (by omega))) ?_
  refine E_as (t := 26) (v' := .slice base kk c) rfl (by unfold sliced; split <;> (cases base <;> simp [Addr.add])) ?_
  refine L_op rfl (W_call rfl rfl rfl rfl fn_ca_21 (hwk) (Split.nil _) (fun w a b _ hb dj m => ScriptOK.take (now_script hpre rfl w ⟨_, hb, m.le (Heap.le_join_right dj)⟩) kk) fun v27 rs1 ⟨vv, e1, e2⟩ => ?_)
  subst e1; subst e2
  refine St.res (rs' := [SIG vv (psRun (ops.take kk))]) (Weak.refl _) ?_
  refine L_val rfl rfl rfl (OpP.v (P_move rfl rfl)) ?_
  refine L_val rfl rfl rfl (OpP.v (P_extract rfl rfl rfl)) ?_
  refine L_val rfl rfl rfl (OpP.v (P_extract rfl rfl rfl)) ?_
  refine L_val rfl rfl rfl (OpP.v (P_assign rfl rfl)) ?_
  refine L_val rfl rfl rfl (OpP.v (P_assign rfl rfl)) ?_
  refine L_nil ?_
  refine St.env (.cons (t := 0) rfl (.cons (t := 4) rfl (.cons (t := 6) rfl (.cons (t := 7) rfl .nil)))) ?_
  refine Q_then ?_
  refine R_seq ?_
  refine R_region ?_
  refine L_val rfl rfl rfl (OpP.v (P_move rfl rfl)) ?_
  refine L_op rfl (W_call rfl rfl rfl rfl fn_ca_21 (watch_ok hG base c ops hmax hm) (Split.nil _) (fun w a b _ hb dj m => now_script hpre rfl w ⟨_, hb, m.le (Heap.le_join_right dj)⟩) fun v32 rs2 ⟨w, e3, e4⟩ => ?_)
  subst e3; subst e4
  refine St.res (rs' := [SIG w (psRun ops), SIG vv (psRun (ops.take kk))]) (Weak.refl _) ?_
  refine L_val rfl rfl rfl (OpP.v (P_move rfl rfl)) ?_
  refine L_val rfl rfl rfl (OpP.v (P_extract rfl rfl rfl)) ?_
  refine L_val rfl rfl rfl (OpP.v (P_extract rfl rfl rfl)) ?_
  refine L_val rfl rfl rfl (OpP.v (P_assign rfl rfl)) ?_
  refine L_val rfl rfl rfl (OpP.v (P_assign rfl rfl)) ?_
  refine L_nil ?_
  refine St.env (.cons (t := 4) rfl (.cons (t := 6) rfl (.cons (t := 7) rfl (.cons (t := 8) rfl (.cons (t := 9) rfl .nil))))) ?_
  refine Q_then ?_
  refine R_seq ?_
  refine R_seq ?_
  refine R_region ?_
  refine L_val rfl rfl rfl (OpP.v (P_move rfl rfl)) ?_
  refine E_true (t := 35) rfl (rfl) ?_
  refine L_val rfl rfl rfl (OpP.v (P_not rfl rfl)) ?_
  refine L_val rfl rfl rfl (OpP.v (P_move rfl rfl)) ?_
  refine L_val rfl rfl rfl (OpP.v (P_move rfl rfl)) ?_
  refine E_true (t := 38) rfl (rfl) ?_
  refine L_val rfl rfl rfl (OpP.v (P_not rfl rfl)) ?_
  refine L_val rfl rfl rfl (OpP.v (P_pick rfl rfl rfl)) ?_
  refine L_nil ?_
  refine St.env (.cons (t := 4) rfl (.cons (t := 6) rfl (.cons (t := 8) rfl (.cons (t := 40) rfl .nil)))) ?_
  refine Q_then ?_
  refine R_condF rfl ?_
  refine R_skip ?_
  refine Q_then ?_
  refine R_seq ?_
  refine R_seq ?_
  refine St.openP (p := []) (fun ⟨p0, p1, sg0, sg1, S0, S1, A0, A1, B⟩ hxok => ?_)
  refine St.unbundle [] ?_
  refine St.res (rs' := [blk w [.pointer (some ⟨p0, 0, none⟩), .pointer (some ⟨p1, 0, none⟩), S0, S1, A0, A1, B, .bool false] 59, REG p0 (sg0) (rcOf 0 (psRun ops).bk), ownS 27 1 (S0) (sg0).length (ptrs (sg0)), ownS 23 1 (A0) (sg0).length (ints .u64 (enOf (sg0))), REG p1 (sg1) (rcOf 1 (psRun ops).bk), ownS 27 1 (S1) (sg1).length (ptrs (sg1)), ownS 23 1 (A1) (sg1).length (ints .u64 (enOf (sg1))), ownS 64 19 (B) ((psRun ops).bk).length (bkC ((psRun ops).bk)), SIG vv (psRun (ops.take kk))]) (Weak.refl _) ?_
  refine St.openP (p := [_, _, _, _, _, _, _, _]) (fun ⟨q0, q1, tg0, tg1, S2, S3, A2, A3, B2⟩ hyok => ?_)
  refine St.unbundle [_, _, _, _, _, _, _, _] ?_
  refine St.res (rs' := [blk w [.pointer (some ⟨p0, 0, none⟩), .pointer (some ⟨p1, 0, none⟩), S0, S1, A0, A1, B, .bool false] 59, REG p0 (sg0) (rcOf 0 (psRun ops).bk), ownS 27 1 (S0) (sg0).length (ptrs (sg0)), ownS 23 1 (A0) (sg0).length (ints .u64 (enOf (sg0))), REG p1 (sg1) (rcOf 1 (psRun ops).bk), ownS 27 1 (S1) (sg1).length (ptrs (sg1)), ownS 23 1 (A1) (sg1).length (ints .u64 (enOf (sg1))), ownS 64 19 (B) ((psRun ops).bk).length (bkC ((psRun ops).bk)), blk vv [.pointer (some ⟨q0, 0, none⟩), .pointer (some ⟨q1, 0, none⟩), S2, S3, A2, A3, B2, .bool false] 59, REG q0 (tg0) (rcOf 0 (psRun (ops.take kk)).bk), ownS 27 1 (S2) (tg0).length (ptrs (tg0)), ownS 23 1 (A2) (tg0).length (ints .u64 (enOf (tg0))), REG q1 (tg1) (rcOf 1 (psRun (ops.take kk)).bk), ownS 27 1 (S3) (tg1).length (ptrs (tg1)), ownS 23 1 (A3) (tg1).length (ints .u64 (enOf (tg1))), ownS 64 19 (B2) ((psRun (ops.take kk)).bk).length (bkC ((psRun (ops.take kk)).bk))]) (Weak.refl _) ?_
  refine St.res (rs' := [blk w [.pointer (some ⟨p0, 0, none⟩), .pointer (some ⟨p1, 0, none⟩), S0, S1, A0, A1, B, .bool false] 59, blk vv [.pointer (some ⟨q0, 0, none⟩), .pointer (some ⟨q1, 0, none⟩), S2, S3, A2, A3, B2, .bool false] 59, ownS 64 19 (B) (psRun ops).bk.length (bkC (psRun ops).bk), fam (onF p0 p1 sg0 sg1 A0 A1 (psRun ops).bk q0 q1 tg0 tg1 (psRun (ops.take kk)).bk) [0, 1]]) ((Weak.keep (Weak.pick (p := [_, _, _, _, _, _, _]) (Weak.pick (p := [_, _, _, _, _, _]) (Weak.keep (Weak.pick (p := [_]) (Weak.pick (p := [_, _, _, _]) (Weak.pick (p := [_]) (Weak.pick (p := [_, _]) (Weak.pick (p := [_, _, _, _]) (Weak.nil _)))))))))).trans (Weak.keep (Weak.keep (Weak.keep ((Weak.bundle (L := [REG p0 (sg0) (rcOf 0 (psRun ops).bk), ownS 23 1 (A0) (sg0).length (ints .u64 (enOf (sg0))), REG q0 (tg0) (rcOf 0 (psRun (ops.take kk)).bk)]) (rs := [REG p1 (sg1) (rcOf 1 (psRun ops).bk), ownS 23 1 (A1) (sg1).length (ints .u64 (enOf (sg1))), REG q1 (tg1) (rcOf 1 (psRun (ops.take kk)).bk)])).trans ((Weak.keep (Weak.bundle (L := [REG p1 (sg1) (rcOf 1 (psRun ops).bk), ownS 23 1 (A1) (sg1).length (ints .u64 (enOf (sg1))), REG q1 (tg1) (rcOf 1 (psRun (ops.take kk)).bk)]) (rs := []))).trans (Weak.bundle (L := [onF p0 p1 sg0 sg1 A0 A1 (psRun ops).bk q0 q1 tg0 tg1 (psRun (ops.take kk)).bk 0, onF p0 p1 sg0 sg1 A0 A1 (psRun ops).bk q0 q1 tg0 tg1 (psRun (ops.take kk)).bk 1]) (rs := [])))))))) ?_
  refine St.ownForm (p := [_, _]) fun bb bc hbb_ hbc => ?_
  subst hbb_
  refine St.res (rs' := [blk w [.pointer (some ⟨p0, 0, none⟩), .pointer (some ⟨p1, 0, none⟩), S0, S1, A0, A1, .slice bb (psRun ops).bk.length bc, .bool false] 59, blk vv [.pointer (some ⟨q0, 0, none⟩), .pointer (some ⟨q1, 0, none⟩), S2, S3, A2, A3, B2, .bool false] 59, ownS 64 19 (.slice bb (psRun ops).bk.length bc) (psRun ops).bk.length (bkC (psRun ops).bk), fam (onF p0 p1 sg0 sg1 A0 A1 (psRun ops).bk q0 q1 tg0 tg1 (psRun (ops.take kk)).bk) [0, 1]]) (Weak.refl _) ?_
  have hgood := psRun_good ops
  have hpok := psRun_ok (fun o ho => (hpre.2 o ho).2.1) ops.length (Nat.le_refl _)
  rw [List.take_length] at hpok
  obtain ⟨hbk, hl0, hl1, hbl⟩ := hpok
  obtain ⟨tm, htm⟩ := psRun_more ops kk
  refine R_region ?_
  refine L_val rfl rfl rfl (OpP.v (P_assign rfl rfl)) ?_
  refine L_nil ?_
  refine St.env (.cons (t := 4) rfl (.cons (t := 6) rfl (.cons (t := 8) rfl (.cons (t := 10) rfl .nil)))) ?_
  refine Q_then ?_
  refine R_block ?_
  refine R_loopE (G := Nat) (.cons (t := 4) rfl (.cons (t := 6) rfl (.cons (t := 8) rfl .nil))) (fun g => [(10, .int .i64 (g : Int))]) (fun g => [blk w [.pointer (some ⟨p0, 0, none⟩), .pointer (some ⟨p1, 0, none⟩), S0, S1, A0, A1, .slice bb (psRun ops).bk.length bc, .bool false] 59, blk vv [.pointer (some ⟨q0, 0, none⟩), .pointer (some ⟨q1, 0, none⟩), S2, S3, A2, A3, B2, .bool false] 59, ownS 64 19 (.slice bb (psRun ops).bk.length bc) (psRun ops).bk.length (bkC (psRun ops).bk), fam (onF p0 p1 sg0 sg1 A0 A1 (psRun ops).bk q0 q1 tg0 tg1 (psRun (ops.take kk)).bk) [0, 1]]) (fun g => g ≤ 2) (fun g => 2 - g) (0) (by decide) (by repeat (first | exact .nil | refine .cons rfl ?_ | refine .consE rfl (by first | rfl | (congr 1; omega) | (congr 1; push_cast; omega)) ?_)) (Weak.refl _) ?_
  intro who hinv
  replace hinv : who ≤ 2 := hinv
  show St (cx gl) _ ((10, .int .i64 (who : Int)) :: _) [blk w [.pointer (some ⟨p0, 0, none⟩), .pointer (some ⟨p1, 0, none⟩), S0, S1, A0, A1, .slice bb (psRun ops).bk.length bc, .bool false] 59, blk vv [.pointer (some ⟨q0, 0, none⟩), .pointer (some ⟨q1, 0, none⟩), S2, S3, A2, A3, B2, .bool false] 59, ownS 64 19 (.slice bb (psRun ops).bk.length bc) (psRun ops).bk.length (bkC (psRun ops).bk), fam (onF p0 p1 sg0 sg1 A0 A1 (psRun ops).bk q0 q1 tg0 tg1 (psRun (ops.take kk)).bk) [0, 1]] _
  have hwho := hinv
  refine R_seq ?_
  refine R_seq ?_
  refine R_region ?_
  refine L_val rfl rfl rfl (OpP.v (P_move rfl rfl)) ?_
  refine L_val rfl rfl rfl (OpP.v (P_lss rfl rfl rfl)) ?_
  refine L_nil ?_
  refine Q_then ?_
  refine R_condP rfl (fun hw20 => ?_) (fun hw20 => ?_)
  · skip
    have hw2 : who < 2 := by omega
    obtain ⟨P, hP⟩ : ∃ P, P = sel2 p0 p1 who := ⟨_, rfl⟩
    obtain ⟨SG, hSG⟩ : ∃ SG, SG = sel2 sg0 sg1 who := ⟨_, rfl⟩
    obtain ⟨Q, hQ⟩ : ∃ Q, Q = sel2 q0 q1 who := ⟨_, rfl⟩
    obtain ⟨TG, hTG⟩ : ∃ TG, TG = sel2 tg0 tg1 who := ⟨_, rfl⟩
    obtain ⟨AV, hAV⟩ : ∃ AV, AV = sel2 A0 A1 who := ⟨_, rfl⟩
    refine St.res (rs' := [onF p0 p1 sg0 sg1 A0 A1 (psRun ops).bk q0 q1 tg0 tg1 (psRun (ops.take kk)).bk who, fam (onF p0 p1 sg0 sg1 A0 A1 (psRun ops).bk q0 q1 tg0 tg1 (psRun (ops.take kk)).bk) (([0, 1] : List Nat).take who), fam (onF p0 p1 sg0 sg1 A0 A1 (psRun ops).bk q0 q1 tg0 tg1 (psRun (ops.take kk)).bk) (([0, 1] : List Nat).drop (who + 1)), blk w [.pointer (some ⟨p0, 0, none⟩), .pointer (some ⟨p1, 0, none⟩), S0, S1, A0, A1, .slice bb (psRun ops).bk.length bc, .bool false] 59, blk vv [.pointer (some ⟨q0, 0, none⟩), .pointer (some ⟨q1, 0, none⟩), S2, S3, A2, A3, B2, .bool false] 59, ownS 64 19 (.slice bb (psRun ops).bk.length bc) (psRun ops).bk.length (bkC (psRun ops).bk)]) ((Weak.pick (p := [_, _, _]) (Weak.keep (Weak.keep (Weak.keep (Weak.nil _))))).trans (Weak.famOpen (f := onF p0 p1 sg0 sg1 A0 A1 (psRun ops).bk q0 q1 tg0 tg1 (psRun (ops.take kk)).bk) (two_at who hw2))) ?_
    refine St.unbundle [] ?_
    refine St.res (rs' := [REG P SG (rcOf (who : Int) (psRun ops).bk), ownS 23 1 (AV) SG.length (ints .u64 (enOf SG)), REG Q TG (rcOf (who : Int) (psRun (ops.take kk)).bk), fam (onF p0 p1 sg0 sg1 A0 A1 (psRun ops).bk q0 q1 tg0 tg1 (psRun (ops.take kk)).bk) (([0, 1] : List Nat).take who), fam (onF p0 p1 sg0 sg1 A0 A1 (psRun ops).bk q0 q1 tg0 tg1 (psRun (ops.take kk)).bk) (([0, 1] : List Nat).drop (who + 1)), blk w [.pointer (some ⟨p0, 0, none⟩), .pointer (some ⟨p1, 0, none⟩), S0, S1, A0, A1, .slice bb (psRun ops).bk.length bc, .bool false] 59, blk vv [.pointer (some ⟨q0, 0, none⟩), .pointer (some ⟨q1, 0, none⟩), S2, S3, A2, A3, B2, .bool false] 59, ownS 64 19 (.slice bb (psRun ops).bk.length bc) (psRun ops).bk.length (bkC (psRun ops).bk)]) (by rw [hP, hSG, hQ, hTG, hAV]; exact Weak.refl _) ?_
    refine St.ownForm (p := [_]) fun ab ac hab_ hac => ?_
    subst hab_
    refine St.res (rs' := [REG P SG (rcOf (who : Int) (psRun ops).bk), ownS 23 1 (.slice ab SG.length ac) SG.length (ints .u64 (enOf SG)), REG Q TG (rcOf (who : Int) (psRun (ops.take kk)).bk), fam (onF p0 p1 sg0 sg1 A0 A1 (psRun ops).bk q0 q1 tg0 tg1 (psRun (ops.take kk)).bk) (([0, 1] : List Nat).take who), fam (onF p0 p1 sg0 sg1 A0 A1 (psRun ops).bk q0 q1 tg0 tg1 (psRun (ops.take kk)).bk) (([0, 1] : List Nat).drop (who + 1)), blk w [.pointer (some ⟨p0, 0, none⟩), .pointer (some ⟨p1, 0, none⟩), S0, S1, A0, A1, .slice bb (psRun ops).bk.length bc, .bool false] 59, blk vv [.pointer (some ⟨q0, 0, none⟩), .pointer (some ⟨q1, 0, none⟩), S2, S3, A2, A3, B2, .bool false] 59, ownS 64 19 (.slice bb (psRun ops).bk.length bc) (psRun ops).bk.length (bkC (psRun ops).bk)]) (Weak.refl _) ?_
    have hnd : ND (enOf SG) := by rw [hSG]; unfold sel2; split; rw [show enOf sg0 = (psRun ops).e0 from hxok.1]; exact hgood.1; rw [show enOf sg1 = (psRun ops).e1 from hxok.2]; exact hgood.2.1
    have hmem : ∀ x ∈ rcOf (who : Int) (psRun ops).bk, x.1 ∈ enOf SG := fun x hx => by
      have hx := mem_rcOf.1 hx
      rw [hSG]; unfold sel2; split
      · rename_i q; subst q; rw [show enOf sg0 = (psRun ops).e0 from hxok.1]; exact (hgood.2.2 _ hx).1 rfl
      · rename_i q; rw [show enOf sg1 = (psRun ops).e1 from hxok.2]; exact (hgood.2.2 _ hx).2 (by show ((who : Nat) : Int) = 1; omega)
    have hsl : SG.length ≤ 1599289640354 := by rw [← enOf_length, hSG]; unfold sel2; split; rw [show enOf sg0 = (psRun ops).e0 from hxok.1]; omega; rw [show enOf sg1 = (psRun ops).e1 from hxok.2]; omega
    have hrcl : (rcOf (who : Int) (psRun ops).bk).length ≤ 1599289640354 := Nat.le_trans (rcOf_le _ _) (Nat.le_trans hbl hmax)
    have hrvl : (rcOf (who : Int) (psRun (ops.take kk)).bk).length ≤ 1599289640354 := by have h := rcOf_append (who : Int) (psRun (ops.take kk)).bk tm; rw [← htm] at h; have h2 := congrArg List.length h; rw [List.length_append] at h2; omega
    refine R_skip ?_
    refine Q_then ?_
    refine R_seq ?_
    refine R_block ?_
    refine R_seq ?_
    refine R_region ?_
    refine L_val rfl rfl rfl (OpP.v (P_assign rfl rfl)) ?_
    refine L_nil ?_
    refine Q_then ?_
    refine R_seq ?_
    refine R_seq ?_
    refine R_region ?_
    refine L_val rfl rfl rfl (OpP.v (P_assign rfl rfl)) ?_
    refine L_nil ?_
    refine Q_then ?_
    refine R_block ?_
    have hs0z : sumM (rcOf (who : Int) (psRun ops).bk) ((enOf SG).take 0) = 0 := by rw [List.take_zero]; exact sumM_nil _
    refine R_loopE (G := Nat) (.cons (t := 4) rfl (.cons (t := 6) rfl (.cons (t := 8) rfl (.cons (t := 10) rfl (.cons (t := 41) rfl (.cons (t := 42) rfl .nil)))))) (fun g => [(11, .int .i64 ((sumM (rcOf (who : Int) (psRun ops).bk) ((enOf SG).take g) : Nat) : Int)), (12, .int .i64 (g : Int))]) (fun g => [REG P SG (rcOf (who : Int) (psRun ops).bk), ownS 23 1 (.slice ab SG.length ac) SG.length (ints .u64 (enOf SG)), REG Q TG (rcOf (who : Int) (psRun (ops.take kk)).bk), fam (onF p0 p1 sg0 sg1 A0 A1 (psRun ops).bk q0 q1 tg0 tg1 (psRun (ops.take kk)).bk) (([0, 1] : List Nat).take who), fam (onF p0 p1 sg0 sg1 A0 A1 (psRun ops).bk q0 q1 tg0 tg1 (psRun (ops.take kk)).bk) (([0, 1] : List Nat).drop (who + 1)), blk w [.pointer (some ⟨p0, 0, none⟩), .pointer (some ⟨p1, 0, none⟩), S0, S1, A0, A1, .slice bb (psRun ops).bk.length bc, .bool false] 59, blk vv [.pointer (some ⟨q0, 0, none⟩), .pointer (some ⟨q1, 0, none⟩), S2, S3, A2, A3, B2, .bool false] 59, ownS 64 19 (.slice bb (psRun ops).bk.length bc) (psRun ops).bk.length (bkC (psRun ops).bk)]) (fun g => g ≤ SG.length) (fun g => SG.length - g) (0) (Nat.zero_le _) (by repeat (first | exact .nil | refine .cons rfl ?_ | refine .consE rfl (by first | rfl | (congr 1; omega) | (congr 1; push_cast; omega)) ?_)) (Weak.refl _) ?_
    intro i hinv
    replace hinv : i ≤ SG.length := hinv
    show St (cx gl) _ ((11, .int .i64 ((sumM (rcOf (who : Int) (psRun ops).bk) ((enOf SG).take i) : Nat) : Int)) :: (12, .int .i64 (i : Int)) :: _) [REG P SG (rcOf (who : Int) (psRun ops).bk), ownS 23 1 (.slice ab SG.length ac) SG.length (ints .u64 (enOf SG)), REG Q TG (rcOf (who : Int) (psRun (ops.take kk)).bk), fam (onF p0 p1 sg0 sg1 A0 A1 (psRun ops).bk q0 q1 tg0 tg1 (psRun (ops.take kk)).bk) (([0, 1] : List Nat).take who), fam (onF p0 p1 sg0 sg1 A0 A1 (psRun ops).bk q0 q1 tg0 tg1 (psRun (ops.take kk)).bk) (([0, 1] : List Nat).drop (who + 1)), blk w [.pointer (some ⟨p0, 0, none⟩), .pointer (some ⟨p1, 0, none⟩), S0, S1, A0, A1, .slice bb (psRun ops).bk.length bc, .bool false] 59, blk vv [.pointer (some ⟨q0, 0, none⟩), .pointer (some ⟨q1, 0, none⟩), S2, S3, A2, A3, B2, .bool false] 59, ownS 64 19 (.slice bb (psRun ops).bk.length bc) (psRun ops).bk.length (bkC (psRun ops).bk)] _
    have hi := hinv
    refine R_seq ?_
    refine R_seq ?_
    refine R_region ?_
    refine L_val rfl rfl rfl (OpP.v (P_move rfl rfl)) ?_
    refine L_val rfl rfl rfl (OpP.v (P_move rfl rfl)) ?_
    refine L_val rfl rfl rfl (OpP.v (P_move rfl rfl)) ?_
    refine L_val rfl rfl rfl (OpP.v (P_nil rfl rfl)) ?_
    refine L_val rfl rfl rfl (OpP.v (P_fld0 rfl ty_fl_59_2 rfl)) ?_
    first | (refine L_val rfl rfl rfl (OpP.v (P_ixa0 (who) rfl ty_ar_56 rfl rfl (by first | rfl | omega) (by omega))) ?_) | (refine L_val rfl rfl rfl (OpP.v (P_ixa (who) rfl ty_ar_56 rfl rfl (by first | rfl | omega) (by omega))) ?_)
    refine L_val rfl rfl rfl (V_load rfl rfl ty_sc_52 (Rd.blk .h5 (onC4 who hw2))) ?_
    refine E_as (t := 51) (v' := .slice ab SG.length ac) rfl (hAV.symm) ?_
    refine L_val rfl rfl rfl (OpP.v (P_len rfl ty_sl_52 rfl)) ?_
    refine L_val rfl rfl rfl (OpP.v (P_lss rfl rfl rfl)) ?_
    refine L_nil ?_
    refine Q_then ?_
    refine R_condP rfl (fun hi0 => ?_) (fun hi0 => ?_)
    · skip
      have hlt : i < SG.length := by omega
      have hlt2 : i < (enOf SG).length := by rw [enOf_length]; exact hlt
      refine St.ownSome (p := [_]) (by omega) fun abb abc_ hq _ => ?_
      simp only [Value.slice.injEq] at hq
      obtain ⟨rfl, _, rfl⟩ := hq
      refine R_skip ?_
      refine Q_then ?_
      refine R_seq ?_
      refine R_block ?_
      refine R_seq ?_
      refine R_region ?_
      refine L_val rfl rfl rfl (OpP.v (P_move rfl rfl)) ?_
      refine L_val rfl rfl rfl (OpP.v (P_move rfl rfl)) ?_
      refine L_val rfl rfl rfl (OpP.v (P_nil rfl rfl)) ?_
      refine L_val rfl rfl rfl (OpP.v (P_fld0 rfl ty_fl_59_2 rfl)) ?_
      first | (refine L_val rfl rfl rfl (OpP.v (P_ixa0 (who) rfl ty_ar_56 rfl rfl (by first | rfl | omega) (by omega))) ?_) | (refine L_val rfl rfl rfl (OpP.v (P_ixa (who) rfl ty_ar_56 rfl rfl (by first | rfl | omega) (by omega))) ?_)
      refine L_val rfl rfl rfl (V_load rfl rfl ty_sc_52 (Rd.blk .h5 (onC4 who hw2))) ?_
      refine E_as (t := 61) (v' := .slice (some ⟨abb, 0, none⟩) SG.length ac) rfl (hAV.symm) ?_
      refine L_val rfl rfl rfl (OpP.v (P_move rfl rfl)) ?_
      refine L_val rfl rfl rfl (OpP.v (P_ixs (i) rfl ty_sl_52 rfl rfl (by first | rfl | omega) (by omega))) ?_
      refine L_val rfl rfl rfl (V_load rfl rfl ty_sc_23 (rd_own1 .h1 (by unfold ints; rw [List.getElem?_map, List.getElem?_eq_getElem hlt2]; rfl))) ?_
      refine L_val rfl rfl rfl (OpP.v (P_assign rfl rfl)) ?_
      refine L_nil ?_
      refine Q_then ?_
      refine R_seq ?_
      refine R_region ?_
      refine L_val rfl rfl rfl (OpP.v (P_move rfl rfl)) ?_
      refine L_val rfl rfl rfl (OpP.v (P_move rfl rfl)) ?_
      refine L_val rfl rfl rfl (OpP.v (P_nil rfl rfl)) ?_
      refine L_val rfl rfl rfl (OpP.v (P_fld0 rfl ty_fl_59_0 rfl)) ?_
      first | (refine L_val rfl rfl rfl (OpP.v (P_ixa0 (who) rfl ty_ar_53 rfl rfl (by first | rfl | omega) (by omega))) ?_) | (refine L_val rfl rfl rfl (OpP.v (P_ixa (who) rfl ty_ar_53 rfl rfl (by first | rfl | omega) (by omega))) ?_)
      refine L_val rfl rfl rfl (V_load rfl rfl ty_sc_25 (by first | exact Rd.blk .h5 (onC0' who hw2) | exact Rd.blk .h5 (onC0 who hw2))) ?_
      refine E_as (t := 70) (v' := .pointer (some ⟨P, 0, none⟩)) rfl (by rw [sel2_ptr, hP]) ?_
      refine L_val rfl rfl rfl (OpP.v (P_move rfl rfl)) ?_
      refine L_op rfl (W_call rfl rfl rfl rfl fn_ca_27 (signed_ok P SG (rcOf (who : Int) (psRun ops).bk) ((enOf SG)[i]) (by omega)) (Split.one (p := [])) (fun _ _ _ _ _ _ _ => trivial) fun v72 rs3 ⟨wl, hwl, e5⟩ => ?_)
      subst e5
      refine St.ownForm (p := []) fun lb lc hlb_ hlc => ?_
      subst hlb_
      refine St.res (rs' := [REG P SG (rcOf (who : Int) (psRun ops).bk), ownS 23 1 (.slice (some ⟨abb, 0, none⟩) SG.length ac) SG.length (ints .u64 (enOf SG)), REG Q TG (rcOf (who : Int) (psRun (ops.take kk)).bk), fam (onF p0 p1 sg0 sg1 A0 A1 (psRun ops).bk q0 q1 tg0 tg1 (psRun (ops.take kk)).bk) (([0, 1] : List Nat).take who), fam (onF p0 p1 sg0 sg1 A0 A1 (psRun ops).bk q0 q1 tg0 tg1 (psRun (ops.take kk)).bk) (([0, 1] : List Nat).drop (who + 1)), blk w [.pointer (some ⟨p0, 0, none⟩), .pointer (some ⟨p1, 0, none⟩), S0, S1, A0, A1, .slice bb (psRun ops).bk.length bc, .bool false] 59, blk vv [.pointer (some ⟨q0, 0, none⟩), .pointer (some ⟨q1, 0, none⟩), S2, S3, A2, A3, B2, .bool false] 59, ownS 64 19 (.slice bb (psRun ops).bk.length bc) (psRun ops).bk.length (bkC (psRun ops).bk), ownS 24 1 (.slice lb wl.length lc) wl.length (wl.map (fun x : Value × List Int => x.1)), fam msgH wl]) (Weak.pick (p := [_, _]) (Weak.pick (p := [_, _]) (Weak.pick (p := [_, _]) (Weak.pick (p := [_, _]) (Weak.pick (p := [_, _]) (Weak.pick (p := [_, _]) (Weak.pick (p := [_, _]) (Weak.pick (p := [_, _]) (Weak.keep (Weak.keep (Weak.nil _))))))))))) ?_
      refine L_val rfl rfl rfl (OpP.v (P_assign rfl rfl)) ?_
      refine L_nil ?_
      refine Q_then ?_
      refine R_seq ?_
      refine R_region ?_
      refine L_val rfl rfl rfl (OpP.v (P_move rfl rfl)) ?_
      refine L_val rfl rfl rfl (OpP.v (P_move rfl rfl)) ?_
      refine L_val rfl rfl rfl (OpP.v (P_nil rfl rfl)) ?_
      refine L_val rfl rfl rfl (OpP.v (P_fld0 rfl ty_fl_59_0 rfl)) ?_
      first | (refine L_val rfl rfl rfl (OpP.v (P_ixa0 (who) rfl ty_ar_53 rfl rfl (by first | rfl | omega) (by omega))) ?_) | (refine L_val rfl rfl rfl (OpP.v (P_ixa (who) rfl ty_ar_53 rfl rfl (by first | rfl | omega) (by omega))) ?_)
      refine L_val rfl rfl rfl (V_load rfl rfl ty_sc_25 (by first | exact Rd.blk .h6 (onC0' who hw2) | exact Rd.blk .h6 (onC0 who hw2))) ?_
      refine E_as (t := 78) (v' := .pointer (some ⟨Q, 0, none⟩)) rfl (by rw [sel2_ptr, hQ]) ?_
      refine L_val rfl rfl rfl (OpP.v (P_move rfl rfl)) ?_
      refine L_op rfl (W_call rfl rfl rfl rfl fn_ca_27 (signed_ok Q TG (rcOf (who : Int) (psRun (ops.take kk)).bk) ((enOf SG)[i]) (by omega)) (Split.one (p := [_, _])) (fun _ _ _ _ _ _ _ => trivial) fun v80 rs4 ⟨wo, hwo, e6⟩ => ?_)
      subst e6
      refine St.ownForm (p := []) fun ob oc hob_ hoc => ?_
      subst hob_
      refine St.res (rs' := [REG P SG (rcOf (who : Int) (psRun ops).bk), ownS 23 1 (.slice (some ⟨abb, 0, none⟩) SG.length ac) SG.length (ints .u64 (enOf SG)), REG Q TG (rcOf (who : Int) (psRun (ops.take kk)).bk), fam (onF p0 p1 sg0 sg1 A0 A1 (psRun ops).bk q0 q1 tg0 tg1 (psRun (ops.take kk)).bk) (([0, 1] : List Nat).take who), fam (onF p0 p1 sg0 sg1 A0 A1 (psRun ops).bk q0 q1 tg0 tg1 (psRun (ops.take kk)).bk) (([0, 1] : List Nat).drop (who + 1)), blk w [.pointer (some ⟨p0, 0, none⟩), .pointer (some ⟨p1, 0, none⟩), S0, S1, A0, A1, .slice bb (psRun ops).bk.length bc, .bool false] 59, blk vv [.pointer (some ⟨q0, 0, none⟩), .pointer (some ⟨q1, 0, none⟩), S2, S3, A2, A3, B2, .bool false] 59, ownS 64 19 (.slice bb (psRun ops).bk.length bc) (psRun ops).bk.length (bkC (psRun ops).bk), ownS 24 1 (.slice lb wl.length lc) wl.length (wl.map (fun x : Value × List Int => x.1)), fam msgH wl, ownS 24 1 (.slice ob wo.length oc) wo.length (wo.map (fun x : Value × List Int => x.1)), fam msgH wo]) (Weak.pick (p := [_, _, _]) (Weak.pick (p := [_, _, _]) (Weak.pick (p := [_, _]) (Weak.pick (p := [_, _]) (Weak.pick (p := [_, _]) (Weak.pick (p := [_, _]) (Weak.pick (p := [_, _]) (Weak.pick (p := [_, _]) (Weak.pick (p := [_, _]) (Weak.pick (p := [_, _]) (Weak.keep (Weak.keep (Weak.nil _))))))))))))) ?_
      have hpre1 : msgsOf (rcOf (who : Int) (psRun ops).bk) ((enOf SG)[i]) = msgsOf (rcOf (who : Int) (psRun (ops.take kk)).bk) ((enOf SG)[i]) ++ msgsOf (rcOf (who : Int) tm) ((enOf SG)[i]) := by rw [← msgsOf_append, ← rcOf_append, ← htm]
      have hwll : wl.length = (msgsOf (rcOf (who : Int) (psRun ops).bk) ((enOf SG)[i])).length := by rw [← hwl, List.length_map]
      have hwol : wo.length = (msgsOf (rcOf (who : Int) (psRun (ops.take kk)).bk) ((enOf SG)[i])).length := by rw [← hwo, List.length_map]
      have hole : wo.length ≤ wl.length := by rw [hwll, hwol, hpre1, List.length_append]; omega
      have hwlb : wl.length ≤ 1599289640354 := by rw [hwll]; exact Nat.le_trans (msgsOf_le _ _) hrcl
      have hib : ∀ x ∈ msgsOf (rcOf (who : Int) (psRun ops).bk) ((enOf SG)[i]), IsB x := fun x hx => (hbk _ (mem_rcOf.1 (msgsOf_mem hx))).2.1
      have hsame := same_ok (gl := gl) lb lc ((wl.map (·.1)).take wo.length) ((wl.map (·.2)).take wo.length) (by simp) (by rw [List.length_take, List.length_map]; omega) (fun x hx => by rw [hwl] at hx; exact hib x (List.mem_of_mem_take hx)) ob oc (wo.map (·.1)) (wo.map (·.2)) (by simp) (by rw [List.length_map]; omega) (fun x hx => by rw [hwo] at hx; exact hib x (by rw [hpre1]; exact List.mem_append_left _ hx))
      rw [List.length_take, List.length_map, List.length_map, Nat.min_eq_left hole] at hsame
      refine L_val rfl rfl rfl (OpP.v (P_assign rfl rfl)) ?_
      refine L_nil ?_
      refine Q_then ?_
      refine R_seq ?_
      refine R_seq ?_
      refine R_region ?_
      refine L_val rfl rfl rfl (OpP.v (P_move rfl rfl)) ?_
      refine L_val rfl rfl rfl (OpP.v (P_move rfl rfl)) ?_
      refine L_val rfl rfl rfl (OpP.v (P_nil rfl rfl)) ?_
      refine L_val rfl rfl rfl (OpP.v (P_fld0 rfl ty_fl_59_0 rfl)) ?_
      first | (refine L_val rfl rfl rfl (OpP.v (P_ixa0 (who) rfl ty_ar_53 rfl rfl (by first | rfl | omega) (by omega))) ?_) | (refine L_val rfl rfl rfl (OpP.v (P_ixa (who) rfl ty_ar_53 rfl rfl (by first | rfl | omega) (by omega))) ?_)
      refine L_val rfl rfl rfl (V_load rfl rfl ty_sc_25 (by first | exact Rd.blk .h5 (onC0' who hw2) | exact Rd.blk .h5 (onC0 who hw2))) ?_
      refine E_as (t := 86) (v' := .pointer (some ⟨P, 0, none⟩)) rfl (by rw [sel2_ptr, hP]) ?_
      refine L_val rfl rfl rfl (OpP.v (P_move rfl rfl)) ?_
      refine L_op rfl (W_callR rfl rfl rfl rfl fn_ca_24 (known_ok P SG (rcOf (who : Int) (psRun ops).bk) ((enOf SG)[i])) (Split.one (p := [])) (fun _ _ _ _ _ _ _ => trivial) ?_)
      refine St.res (rs' := [REG P SG (rcOf (who : Int) (psRun ops).bk), ownS 23 1 (.slice (some ⟨abb, 0, none⟩) SG.length ac) SG.length (ints .u64 (enOf SG)), REG Q TG (rcOf (who : Int) (psRun (ops.take kk)).bk), fam (onF p0 p1 sg0 sg1 A0 A1 (psRun ops).bk q0 q1 tg0 tg1 (psRun (ops.take kk)).bk) (([0, 1] : List Nat).take who), fam (onF p0 p1 sg0 sg1 A0 A1 (psRun ops).bk q0 q1 tg0 tg1 (psRun (ops.take kk)).bk) (([0, 1] : List Nat).drop (who + 1)), blk w [.pointer (some ⟨p0, 0, none⟩), .pointer (some ⟨p1, 0, none⟩), S0, S1, A0, A1, .slice bb (psRun ops).bk.length bc, .bool false] 59, blk vv [.pointer (some ⟨q0, 0, none⟩), .pointer (some ⟨q1, 0, none⟩), S2, S3, A2, A3, B2, .bool false] 59, ownS 64 19 (.slice bb (psRun ops).bk.length bc) (psRun ops).bk.length (bkC (psRun ops).bk), ownS 24 1 (.slice lb wl.length lc) wl.length (wl.map (fun x : Value × List Int => x.1)), fam msgH wl, ownS 24 1 (.slice ob wo.length oc) wo.length (wo.map (fun x : Value × List Int => x.1)), fam msgH wo]) (Weak.refl _) ?_
      refine E_true (t := 88) rfl ((isIn_iff _ _).2 (List.getElem_mem hlt2)) ?_
      refine L_val rfl rfl rfl (OpP.v (P_not rfl rfl)) ?_
      refine L_val rfl rfl rfl (OpP.v (P_move rfl rfl)) ?_
      refine L_val rfl rfl rfl (OpP.v (P_move rfl rfl)) ?_
      refine L_val rfl rfl rfl (OpP.v (P_len rfl ty_sl_60 rfl)) ?_
      refine L_val rfl rfl rfl (OpP.v (P_move rfl rfl)) ?_
      refine L_val rfl rfl rfl (OpP.v (P_len rfl ty_sl_60 rfl)) ?_
      refine L_val rfl rfl rfl (OpP.v (P_gtr rfl rfl rfl)) ?_
      refine E_false (t := 95) rfl (decide_eq_false (by omega)) ?_
      refine L_val rfl rfl rfl (OpP.v (P_pick rfl rfl rfl)) ?_
      refine L_val rfl rfl rfl (OpP.v (P_move rfl rfl)) ?_
      refine L_val rfl rfl rfl (OpP.v (P_move rfl rfl)) ?_
      refine L_val rfl rfl rfl (OpP.v (P_move rfl rfl)) ?_
      refine L_val rfl rfl rfl (OpP.v (P_len rfl ty_sl_60 rfl)) ?_
      refine L_val rfl rfl rfl (OpP.v (P_slice 0 wo.length rfl ty_sl_60 rfl rfl ⟨_, rfl⟩ (by omega) (by omega))) ?_
      refine E_as (t := 101) (v' := .slice lb wo.length lc) rfl (by unfold sliced; split <;> (cases lb <;> simp [Addr.add])) ?_
      refine L_val rfl rfl rfl (OpP.v (P_move rfl rfl)) ?_
      refine L_op rfl (W_callV rfl rfl rfl rfl fn_ca_28 (hsame) (fun w nw => ⟨(ItemsM.own .h8 .h9 w nw).take _, ItemsM.own (Has.cons .h9) (Has.cons (Has.cons .h9)) w nw⟩) ?_)
      refine E_true (t := 103) rfl (decide_eq_true (by rw [hwl, hwo, hwol, hpre1]; exact List.take_left)) ?_
      refine L_val rfl rfl rfl (OpP.v (P_not rfl rfl)) ?_
      refine L_val rfl rfl rfl (OpP.v (P_pick rfl rfl rfl)) ?_
      refine L_nil ?_
      refine Q_then ?_
      refine R_condF rfl ?_
      refine R_skip ?_
      refine Q_then ?_
      refine R_seq ?_
      refine R_region ?_
      refine L_val rfl rfl rfl (OpP.v (P_assign rfl rfl)) ?_
      refine L_nil ?_
      refine Q_then ?_
      refine R_seq ?_
      refine R_seq ?_
      refine R_region ?_
      refine L_val rfl rfl rfl (OpP.v (P_assign rfl rfl)) ?_
      refine L_nil ?_
      refine Q_then ?_
      refine R_block ?_
      have hatz : (atN (who : Int) ((enOf SG)[i]) (psRun ops).bk 0).length = 0 := atN_zero _ _ _
      refine R_loopE (G := Nat) (.cons (t := 4) rfl (.cons (t := 6) rfl (.cons (t := 8) rfl (.cons (t := 10) rfl (.cons (t := 11) rfl (.cons (t := 12) rfl (.cons (t := 13) rfl (.cons (t := 14) rfl (.cons (t := 15) rfl (.cons (t := 41) rfl (.cons (t := 42) rfl (.cons (t := 45) rfl (.cons (t := 46) rfl (.cons (t := 47) rfl (.cons (t := 48) rfl (.cons (t := 49) rfl (.cons (t := 50) rfl (.cons (t := 51) rfl (.cons (t := 52) rfl (.cons (t := 53) rfl (.cons (t := 56) rfl (.cons (t := 57) rfl (.cons (t := 58) rfl (.cons (t := 59) rfl (.cons (t := 60) rfl (.cons (t := 61) rfl (.cons (t := 62) rfl (.cons (t := 63) rfl (.cons (t := 64) rfl (.cons (t := 65) rfl (.cons (t := 66) rfl (.cons (t := 67) rfl (.cons (t := 68) rfl (.cons (t := 69) rfl (.cons (t := 70) rfl (.cons (t := 71) rfl (.cons (t := 72) rfl (.cons (t := 73) rfl (.cons (t := 74) rfl (.cons (t := 75) rfl (.cons (t := 76) rfl (.cons (t := 77) rfl (.cons (t := 78) rfl (.cons (t := 79) rfl (.cons (t := 80) rfl (.cons (t := 81) rfl (.cons (t := 82) rfl (.cons (t := 83) rfl (.cons (t := 84) rfl (.cons (t := 85) rfl (.cons (t := 86) rfl (.cons (t := 87) rfl (.cons (t := 88) rfl (.cons (t := 89) rfl (.cons (t := 90) rfl (.cons (t := 91) rfl (.cons (t := 92) rfl (.cons (t := 93) rfl (.cons (t := 94) rfl (.cons (t := 95) rfl (.cons (t := 96) rfl (.cons (t := 97) rfl (.cons (t := 98) rfl (.cons (t := 99) rfl (.cons (t := 100) rfl (.cons (t := 101) rfl (.cons (t := 102) rfl (.cons (t := 103) rfl (.cons (t := 104) rfl (.cons (t := 105) rfl .nil)))))))))))))))))))))))))))))))))))))))))))))))))))))))))))))))))))))) (fun g => [(16, .int .i64 ((((atN (who : Int) ((enOf SG)[i]) (psRun ops).bk g).length) : Nat) : Int)), (17, .int .i64 (g : Int))]) (fun _ => _) (fun g => g ≤ (psRun ops).bk.length) (fun g => (psRun ops).bk.length - g) (0) (Nat.zero_le _) (by repeat (first | exact .nil | refine .cons rfl ?_ | refine .consE rfl (by first | rfl | (congr 1; omega) | (congr 1; push_cast; omega)) ?_)) (Weak.refl _) ?_
      intro j hinv
      replace hinv : j ≤ (psRun ops).bk.length := hinv
      show St (cx gl) _ ((16, .int .i64 ((((atN (who : Int) ((enOf SG)[i]) (psRun ops).bk j).length) : Nat) : Int)) :: (17, .int .i64 (j : Int)) :: _) _ _
      have hj := hinv
      refine R_seq ?_
      refine R_seq ?_
      refine R_region ?_
      refine L_val rfl rfl rfl (OpP.v (P_move rfl rfl)) ?_
      refine L_val rfl rfl rfl (OpP.v (P_move rfl rfl)) ?_
      refine L_val rfl rfl rfl (OpP.v (P_nil rfl rfl)) ?_
      refine L_val rfl rfl rfl (OpP.v (P_fld0 rfl ty_fl_59_3 rfl)) ?_
      refine L_val rfl rfl rfl (V_load rfl rfl ty_sc_57 (Rd.blk .h5 rfl)) ?_
      refine L_val rfl rfl rfl (OpP.v (P_len rfl ty_sl_57 rfl)) ?_
      refine L_val rfl rfl rfl (OpP.v (P_lss rfl rfl rfl)) ?_
      refine L_nil ?_
      refine Q_then ?_
      refine R_condP rfl (fun hj0 => ?_) (fun hj0 => ?_)
      · skip
        have hltj : j < (psRun ops).bk.length := by omega
        refine St.ownSome (p := [_, _, _, _, _, _, _]) (by omega) fun bbb bbc_ hq _ => ?_
        simp only [Value.slice.injEq] at hq
        obtain ⟨rfl, _, rfl⟩ := hq
        obtain ⟨x, hx⟩ : ∃ x, (psRun ops).bk[j]? = some x := ⟨_, List.getElem?_eq_getElem hltj⟩
        have hatl := atN_le (who : Int) ((enOf SG)[i]) (psRun ops).bk j
        refine R_skip ?_
        refine Q_then ?_
        refine R_seq ?_
        refine R_block ?_
        refine R_seq ?_
        refine R_region ?_
        refine L_val rfl rfl rfl (OpP.v (P_move rfl rfl)) ?_
        refine L_val rfl rfl rfl (OpP.v (P_nil rfl rfl)) ?_
        refine L_val rfl rfl rfl (OpP.v (P_fld0 rfl ty_fl_59_3 rfl)) ?_
        refine L_val rfl rfl rfl (V_load rfl rfl ty_sc_57 (Rd.blk .h5 rfl)) ?_
        refine L_val rfl rfl rfl (OpP.v (P_move rfl rfl)) ?_
        refine L_val rfl rfl rfl (OpP.v (P_ixs (j) rfl ty_sl_57 rfl rfl (by first | rfl | omega) (by omega))) ?_
        refine L_val rfl rfl rfl (OpP.v (P_fld rfl ty_fl_64_0 rfl)) ?_
        refine L_val rfl rfl rfl (V_load rfl rfl ty_sc_3 ((rd_wr .h7 hx).1)) ?_
        refine L_val rfl rfl rfl (OpP.v (P_move rfl rfl)) ?_
        refine L_val rfl rfl rfl (OpP.v (P_eql rfl rfl rfl)) ?_
        refine E_bool (t := 124) rfl (fun hk1b => ?_) (fun hk1b => ?_)
        · skip
          have hk1 := of_decide_eq_true hk1b
          refine L_val rfl rfl rfl (OpP.v (P_move rfl rfl)) ?_
          refine L_val rfl rfl rfl (OpP.v (P_move rfl rfl)) ?_
          refine L_val rfl rfl rfl (OpP.v (P_nil rfl rfl)) ?_
          refine L_val rfl rfl rfl (OpP.v (P_fld0 rfl ty_fl_59_3 rfl)) ?_
          refine L_val rfl rfl rfl (V_load rfl rfl ty_sc_57 (Rd.blk .h5 rfl)) ?_
          refine L_val rfl rfl rfl (OpP.v (P_move rfl rfl)) ?_
          refine L_val rfl rfl rfl (OpP.v (P_ixs (j) rfl ty_sl_57 rfl rfl (by first | rfl | omega) (by omega))) ?_
          refine L_val rfl rfl rfl (OpP.v (P_fld rfl ty_fl_64_1 rfl)) ?_
          refine L_val rfl rfl rfl (V_load rfl rfl ty_sc_23 ((rd_wr .h7 hx).2.1)) ?_
          refine L_val rfl rfl rfl (OpP.v (P_move rfl rfl)) ?_
          refine L_val rfl rfl rfl (OpP.v (P_eql rfl rfl rfl)) ?_
          refine L_val rfl rfl rfl (OpP.v (P_pick rfl rfl rfl)) ?_
          refine L_nil ?_
          refine Q_then ?_
          refine R_condP rfl (fun hk2 => ?_) (fun hk2 => ?_)
          · skip
            have hay := atN_yes hx hk1 hk2
            have hatlt : (atN (who : Int) ((enOf SG)[i]) (psRun ops).bk j).length < wl.length := by rw [hwll]; exact (List.getElem?_eq_some_iff.1 hay.2).1
            obtain ⟨y, hy⟩ : ∃ y, wl[(atN (who : Int) ((enOf SG)[i]) (psRun ops).bk j).length]? = some y := ⟨_, List.getElem?_eq_getElem hatlt⟩
            have hy2 : y.2 = x.2.2 := by have h := hay.2; rw [← hwl, List.getElem?_map, hy] at h; exact Option.some.inj h
            refine St.famFact .h9 hy (p := ∃ b c, y.1 = .slice b y.2.length c) (fun h hh => (ownS.form hh).imp fun _ => .imp fun _ => And.left) fun ⟨mb, mc, hy1⟩ => ?_
            refine St.ownSome (p := [_, _, _, _, _, _, _, _]) (by omega) fun lbb lbc_ hq _ => ?_
            simp only [Value.slice.injEq] at hq
            obtain ⟨rfl, _, rfl⟩ := hq
            have hxb := (hbk x (List.mem_of_getElem? hx)).2.1
            refine R_seq ?_
            refine R_seq ?_
            refine R_open [(0, 0), (1, 0), (2, 0), (3, 0), (4, 0), (5, 0), (6, 0), (7, 0), (8, 1), (9, 1), (10, 0), (11, 0), (12, 0), (13, 1), (14, 0), (15, 0), (16, 0), (17, 1), (18, 0), (19, 0)] mixed (by kernel_rfl) (QOk.then (QOk.then (QOk.block (QOk.then (QOk.then (QOk.block (QOk.then (QOk.block (QOk.then (QOk.then (QOk.block (QOk.then (QOk.block (QOk.then (QOk.then (QOk.block (QOk.then QOk.body))))))))))))))))) ?_
            refine O_pure rfl rfl rfl rfl (P_move rfl rfl) ?_
            refine O_pure rfl rfl rfl rfl (P_move rfl rfl) ?_
            refine O_pure rfl rfl rfl rfl (P_len rfl ty_sl_60 rfl) ?_
            refine O_pure rfl rfl rfl rfl (P_geq rfl rfl rfl) ?_
            refine E_false (t := 140) rfl (decide_eq_false (by omega)) ?_
            refine O_pure rfl rfl rfl rfl (P_move rfl rfl) ?_
            refine O_pure rfl rfl rfl rfl (P_move rfl rfl) ?_
            refine O_pure rfl rfl rfl rfl (P_move rfl rfl) ?_
            refine O_pure rfl rfl rfl rfl (P_ixs ((atN (who : Int) ((enOf SG)[i]) (psRun ops).bk j).length) rfl ty_sl_60 rfl rfl (by first | rfl | omega) (by omega)) ?_
            refine O_val rfl rfl rfl rfl (V_load rfl rfl ty_sc_24 (rd_own1 .h8 (show (wl.map (·.1))[(atN (who : Int) ((enOf SG)[i]) (psRun ops).bk j).length]? = some (.slice mb y.2.length mc) by rw [List.getElem?_map, hy, Option.map_some, hy1]))) ?_
            refine O_val rfl rfl rfl rfl (V_str rfl (slB_spec ty_sl_24).1 ty_int_5 ty_str_9 rfl ((Sn.fam .h9 hy fun rs m => Sn.own m hy1).rw_)) ?_
            refine O_pure rfl rfl rfl rfl (P_move rfl rfl) ?_
            refine O_pure rfl rfl rfl rfl (P_nil rfl rfl) ?_
            refine O_pure rfl rfl rfl rfl (P_fld0 rfl ty_fl_59_3 rfl) ?_
            refine O_val rfl rfl rfl rfl (V_load rfl rfl ty_sc_57 (Rd.blk .h5 rfl)) ?_
            refine O_pure rfl rfl rfl rfl (P_move rfl rfl) ?_
            refine O_pure rfl rfl rfl rfl (P_ixs (j) rfl ty_sl_57 rfl rfl (by first | rfl | omega) (by omega)) ?_
            refine O_pure rfl rfl rfl rfl (P_fld rfl ty_fl_64_2 rfl) ?_
            refine O_val rfl rfl rfl rfl (V_load rfl rfl ty_sc_9 ((rd_wr .h7 hx).2.2)) ?_
            refine O_pure rfl rfl rfl rfl (P_neStr rfl rfl rfl (by rw [hy2]; exact hxb) hxb) ?_
            refine E_false (t := 155) rfl (decide_eq_false (fun h => h hy2)) ?_
            refine O_pure rfl rfl rfl rfl (P_pick rfl rfl rfl) ?_
            refine O_nil ?_
            refine Q_then ?_
            refine R_condF rfl ?_
            refine R_skip ?_
            refine Q_then ?_
            refine R_region ?_
            refine L_val rfl rfl rfl (OpP.v (P_move rfl rfl)) ?_
            first | (refine L_val rfl rfl rfl (OpP.v (P_addN rfl rfl rfl (by simp only [fits]; omega))) ?_) | (refine L_val rfl rfl rfl (OpP.v (P_add rfl rfl rfl)) ?_)
            refine L_val rfl rfl rfl (OpP.v (P_assign rfl rfl)) ?_
            refine L_nil ?_
            refine Q_block ?_
            refine Q_then ?_
            refine R_region ?_
            refine L_val rfl rfl rfl (OpP.v (P_move rfl rfl)) ?_
            first | (refine L_val rfl rfl rfl (OpP.v (P_addN rfl rfl rfl (by simp only [fits]; omega))) ?_) | (refine L_val rfl rfl rfl (OpP.v (P_add rfl rfl rfl)) ?_)
            refine L_val rfl rfl rfl (OpP.v (P_assign rfl rfl)) ?_
            refine L_nil ?_
            have hat1 : (atN (who : Int) ((enOf SG)[i]) (psRun ops).bk (j + 1)).length = (atN (who : Int) ((enOf SG)[i]) (psRun ops).bk j).length + 1 := by rw [hay.1, List.length_append]; rfl
            exact Q_round (j + 1) (by show (j + 1) ≤ (psRun ops).bk.length; omega) (by show (psRun ops).bk.length - (j + 1) < (psRun ops).bk.length - j; omega) (by repeat (first | exact .nil | refine .cons rfl ?_ | refine .consE rfl (by first | rfl | (congr 1; omega) | (congr 1; push_cast; omega)) ?_)) (Weak.refl _)
          · skip
            refine R_skip ?_
            refine Q_block ?_
            refine Q_then ?_
            refine R_region ?_
            refine L_val rfl rfl rfl (OpP.v (P_move rfl rfl)) ?_
            first | (refine L_val rfl rfl rfl (OpP.v (P_addN rfl rfl rfl (by simp only [fits]; omega))) ?_) | (refine L_val rfl rfl rfl (OpP.v (P_add rfl rfl rfl)) ?_)
            refine L_val rfl rfl rfl (OpP.v (P_assign rfl rfl)) ?_
            refine L_nil ?_
            have hat0 : (atN (who : Int) ((enOf SG)[i]) (psRun ops).bk (j + 1)).length = (atN (who : Int) ((enOf SG)[i]) (psRun ops).bk j).length := by rw [atN_no hx (fun h => hk2 h.2)]
            exact Q_round (j + 1) (by show (j + 1) ≤ (psRun ops).bk.length; omega) (by show (psRun ops).bk.length - (j + 1) < (psRun ops).bk.length - j; omega) (by repeat (first | exact .nil | refine .cons rfl ?_ | refine .consE rfl (by first | rfl | (congr 1; omega) | (congr 1; push_cast; omega)) ?_)) (Weak.refl _)
        · skip
          have hk1 := of_decide_eq_false hk1b
          refine L_val rfl rfl rfl (OpP.v (P_move rfl rfl)) ?_
          refine L_no rfl rfl rfl ?_
          refine L_no rfl rfl rfl ?_
          refine L_no rfl rfl rfl ?_
          refine L_no rfl rfl rfl ?_
          refine L_no rfl rfl rfl ?_
          refine L_no rfl rfl rfl ?_
          refine L_no rfl rfl rfl ?_
          refine L_no rfl rfl rfl ?_
          refine L_no rfl rfl rfl ?_
          refine L_no rfl rfl rfl ?_
          refine L_val rfl rfl rfl (OpP.v (P_pick rfl rfl rfl)) ?_
          refine L_nil ?_
          refine Q_then ?_
          refine R_condF rfl ?_
          refine R_skip ?_
          refine Q_block ?_
          refine Q_then ?_
          refine R_region ?_
          refine L_val rfl rfl rfl (OpP.v (P_move rfl rfl)) ?_
          first | (refine L_val rfl rfl rfl (OpP.v (P_addN rfl rfl rfl (by simp only [fits]; omega))) ?_) | (refine L_val rfl rfl rfl (OpP.v (P_add rfl rfl rfl)) ?_)
          refine L_val rfl rfl rfl (OpP.v (P_assign rfl rfl)) ?_
          refine L_nil ?_
          have hat0 : (atN (who : Int) ((enOf SG)[i]) (psRun ops).bk (j + 1)).length = (atN (who : Int) ((enOf SG)[i]) (psRun ops).bk j).length := by rw [atN_no hx (fun h => hk1 h.1)]
          exact Q_round (j + 1) (by show (j + 1) ≤ (psRun ops).bk.length; omega) (by show (psRun ops).bk.length - (j + 1) < (psRun ops).bk.length - j; omega) (by repeat (first | exact .nil | refine .cons rfl ?_ | refine .consE rfl (by first | rfl | (congr 1; omega) | (congr 1; push_cast; omega)) ?_)) (Weak.refl _)
      · skip
        obtain rfl : j = (psRun ops).bk.length := by omega
        have hfull : (atN (who : Int) ((enOf SG)[i]) (psRun ops).bk (psRun ops).bk.length).length = (msgsOf (rcOf (who : Int) (psRun ops).bk) ((enOf SG)[i])).length := by rw [atN_full]
        have hsN := sumM_next (rc := rcOf (who : Int) (psRun ops).bk) hlt2
        have hsL := sumM_le (ND_take (i + 1) hnd) (rcOf (who : Int) (psRun ops).bk)
        refine R_exit ?_
        refine Q_then_exit ?_
        refine Q_then_exit ?_
        refine Q_block_eq ?_
        refine Q_then ?_
        refine R_seq ?_
        refine R_seq ?_
        refine R_region ?_
        refine L_val rfl rfl rfl (OpP.v (P_move rfl rfl)) ?_
        refine L_val rfl rfl rfl (OpP.v (P_move rfl rfl)) ?_
        refine L_val rfl rfl rfl (OpP.v (P_len rfl ty_sl_60 rfl)) ?_
        refine L_val rfl rfl rfl (OpP.v (P_neq rfl rfl rfl)) ?_
        refine E_false (t := 162) rfl (decide_eq_false (fun h => h (by omega))) ?_
        refine L_nil ?_
        refine Q_then ?_
        refine R_condF rfl ?_
        refine R_skip ?_
        refine Q_then ?_
        refine R_region ?_
        refine L_val rfl rfl rfl (OpP.v (P_move rfl rfl)) ?_
        refine L_val rfl rfl rfl (OpP.v (P_move rfl rfl)) ?_
        first | (refine L_val rfl rfl rfl (OpP.v (P_addN rfl rfl rfl (by simp only [fits]; omega))) ?_) | (refine L_val rfl rfl rfl (OpP.v (P_add rfl rfl rfl)) ?_)
        refine L_val rfl rfl rfl (OpP.v (P_assign rfl rfl)) ?_
        refine L_nil ?_
        refine Q_block ?_
        refine Q_then ?_
        refine R_region ?_
        refine L_val rfl rfl rfl (OpP.v (P_move rfl rfl)) ?_
        first | (refine L_val rfl rfl rfl (OpP.v (P_addN rfl rfl rfl (by simp only [fits]; omega))) ?_) | (refine L_val rfl rfl rfl (OpP.v (P_add rfl rfl rfl)) ?_)
        refine L_val rfl rfl rfl (OpP.v (P_assign rfl rfl)) ?_
        refine L_nil ?_
        exact Q_round (i + 1) (by show (i + 1) ≤ SG.length; omega) (by show SG.length - (i + 1) < SG.length - i; omega) (by repeat (first | exact .nil | refine .cons rfl ?_ | refine .consE rfl (by first | rfl | (congr 1; omega) | (congr 1; push_cast; omega)) ?_)) (Weak.keep (Weak.keep (Weak.keep (Weak.keep (Weak.keep (Weak.keep (Weak.keep (Weak.keep (Weak.nil _)))))))))
    · skip
      obtain rfl : i = SG.length := by omega
      have hfin : sumM (rcOf (who : Int) (psRun ops).bk) ((enOf SG).take SG.length) = (rcOf (who : Int) (psRun ops).bk).length := by rw [List.take_of_length_le (by rw [enOf_length]; exact Nat.le_refl _)]; exact sumM_eq hnd _ hmem
      refine R_exit ?_
      refine Q_then_exit ?_
      refine Q_then_exit ?_
      refine Q_block_eq ?_
      refine Q_then ?_
      refine R_seq ?_
      refine R_region ?_
      refine L_val rfl rfl rfl (OpP.v (P_move rfl rfl)) ?_
      refine L_val rfl rfl rfl (OpP.v (P_move rfl rfl)) ?_
      refine L_val rfl rfl rfl (OpP.v (P_nil rfl rfl)) ?_
      refine L_val rfl rfl rfl (OpP.v (P_fld0 rfl ty_fl_59_0 rfl)) ?_
      first | (refine L_val rfl rfl rfl (OpP.v (P_ixa0 (who) rfl ty_ar_53 rfl rfl (by first | rfl | omega) (by omega))) ?_) | (refine L_val rfl rfl rfl (OpP.v (P_ixa (who) rfl ty_ar_53 rfl rfl (by first | rfl | omega) (by omega))) ?_)
      refine L_val rfl rfl rfl (V_load rfl rfl ty_sc_25 (by first | exact Rd.blk .h5 (onC0' who hw2) | exact Rd.blk .h5 (onC0 who hw2))) ?_
      refine E_as (t := 171) (v' := .pointer (some ⟨P, 0, none⟩)) rfl (by rw [sel2_ptr, hP]) ?_
      refine L_op rfl (W_callR rfl rfl rfl rfl fn_ca_23 (count_ok P SG (rcOf (who : Int) (psRun ops).bk)) (Split.one (p := [])) (fun _ _ _ _ _ _ _ => trivial) ?_)
      refine St.res (rs' := [REG P SG (rcOf (who : Int) (psRun ops).bk), ownS 23 1 (.slice ab SG.length ac) SG.length (ints .u64 (enOf SG)), REG Q TG (rcOf (who : Int) (psRun (ops.take kk)).bk), fam (onF p0 p1 sg0 sg1 A0 A1 (psRun ops).bk q0 q1 tg0 tg1 (psRun (ops.take kk)).bk) (([0, 1] : List Nat).take who), fam (onF p0 p1 sg0 sg1 A0 A1 (psRun ops).bk q0 q1 tg0 tg1 (psRun (ops.take kk)).bk) (([0, 1] : List Nat).drop (who + 1)), blk w [.pointer (some ⟨p0, 0, none⟩), .pointer (some ⟨p1, 0, none⟩), S0, S1, A0, A1, .slice bb (psRun ops).bk.length bc, .bool false] 59, blk vv [.pointer (some ⟨q0, 0, none⟩), .pointer (some ⟨q1, 0, none⟩), S2, S3, A2, A3, B2, .bool false] 59, ownS 64 19 (.slice bb (psRun ops).bk.length bc) (psRun ops).bk.length (bkC (psRun ops).bk)]) (Weak.refl _) ?_
      refine L_val rfl rfl rfl (OpP.v (P_move rfl rfl)) ?_
      refine L_val rfl rfl rfl (OpP.v (P_neq rfl rfl rfl)) ?_
      refine E_false (t := 174) rfl (decide_eq_false (fun h => h (by rw [hfin]))) ?_
      refine L_nil ?_
      refine Q_then ?_
      refine R_condF rfl ?_
      refine R_skip ?_
      refine Q_block ?_
      refine Q_then ?_
      refine R_region ?_
      refine L_val rfl rfl rfl (OpP.v (P_move rfl rfl)) ?_
      first | (refine L_val rfl rfl rfl (OpP.v (P_addN rfl rfl rfl (by simp only [fits]; omega))) ?_) | (refine L_val rfl rfl rfl (OpP.v (P_add rfl rfl rfl)) ?_)
      refine L_val rfl rfl rfl (OpP.v (P_assign rfl rfl)) ?_
      refine L_nil ?_
      exact Q_round (who + 1) (by show (who + 1) ≤ 2; omega) (by show 2 - (who + 1) < 2 - who; omega) (by repeat (first | exact .nil | refine .cons rfl ?_ | refine .consE rfl (by first | rfl | (congr 1; omega) | (congr 1; push_cast; omega)) ?_)) (by have hb : onF p0 p1 sg0 sg1 A0 A1 (psRun ops).bk q0 q1 tg0 tg1 (psRun (ops.take kk)).bk who = bundle [REG P SG (rcOf (who : Int) (psRun ops).bk), ownS 23 1 (.slice ab SG.length ac) SG.length (ints .u64 (enOf SG)), REG Q TG (rcOf (who : Int) (psRun (ops.take kk)).bk)] := (by unfold onF; rw [← hP, ← hSG, ← hQ, ← hTG, ← hAV]); exact (Weak.bundle (L := [REG P SG (rcOf (who : Int) (psRun ops).bk), ownS 23 1 (.slice ab SG.length ac) SG.length (ints .u64 (enOf SG)), REG Q TG (rcOf (who : Int) (psRun (ops.take kk)).bk)]) (rs := [fam (onF p0 p1 sg0 sg1 A0 A1 (psRun ops).bk q0 q1 tg0 tg1 (psRun (ops.take kk)).bk) (([0, 1] : List Nat).take who), fam (onF p0 p1 sg0 sg1 A0 A1 (psRun ops).bk q0 q1 tg0 tg1 (psRun (ops.take kk)).bk) (([0, 1] : List Nat).drop (who + 1)), blk w [.pointer (some ⟨p0, 0, none⟩), .pointer (some ⟨p1, 0, none⟩), S0, S1, A0, A1, .slice bb (psRun ops).bk.length bc, .bool false] 59, blk vv [.pointer (some ⟨q0, 0, none⟩), .pointer (some ⟨q1, 0, none⟩), S2, S3, A2, A3, B2, .bool false] 59, ownS 64 19 (.slice bb (psRun ops).bk.length bc) (psRun ops).bk.length (bkC (psRun ops).bk)])).trans ((by rw [← hb]; exact Weak.famShut (f := onF p0 p1 sg0 sg1 A0 A1 (psRun ops).bk q0 q1 tg0 tg1 (psRun (ops.take kk)).bk) (two_at who hw2) : Weak _ (fam (onF p0 p1 sg0 sg1 A0 A1 (psRun ops).bk q0 q1 tg0 tg1 (psRun (ops.take kk)).bk) [0, 1] :: [blk w [.pointer (some ⟨p0, 0, none⟩), .pointer (some ⟨p1, 0, none⟩), S0, S1, A0, A1, .slice bb (psRun ops).bk.length bc, .bool false] 59, blk vv [.pointer (some ⟨q0, 0, none⟩), .pointer (some ⟨q1, 0, none⟩), S2, S3, A2, A3, B2, .bool false] 59, ownS 64 19 (.slice bb (psRun ops).bk.length bc) (psRun ops).bk.length (bkC (psRun ops).bk)])).trans (Weak.pick (p := [_]) (Weak.pick (p := [_]) (Weak.pick (p := [_]) (Weak.keep (Weak.nil _)))))))
  · skip
    refine R_exit ?_
    refine Q_then_exit ?_
    refine Q_then_exit ?_
    refine Q_block_eq ?_
    refine St.env (.cons (t := 4) rfl .nil) ?_
    refine Q_then ?_
    refine R_seq ?_
    refine R_region ?_
    refine L_val rfl rfl rfl (OpP.v (P_assign rfl rfl)) ?_
    refine L_nil ?_
    refine Q_then ?_
    refine R_ret ?_
    exact R_endV rfl rfl (.tmp rfl .nil) (rfl)
end Go.Proofs.YtnaadddnbfnahaaDoor
