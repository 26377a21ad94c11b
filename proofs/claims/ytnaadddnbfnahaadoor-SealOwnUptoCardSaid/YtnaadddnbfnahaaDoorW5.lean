/- The book: kept. Printed by gen.py. -/
import Derived.Test.YtnaadddnbfnahaaDoorW3
set_option linter.unusedVariables false
set_option linter.unusedSimpArgs false
set_option maxRecDepth 100000
namespace Go.Proofs.YtnaadddnbfnahaaDoor
open Go Go.RowKit Go.Proofs
theorem kept_ok {gl : Nat → Obj} (b l : Nat) (hl_ : l ≤ 4000000) : SpecR (cx gl) 36 [.pointer (some ⟨b, 0, none⟩)] (fun _ _ => True) [BOOK b l l] (.bool true) [BOOK b l l] := by
  refine Spec.enter (C := cx gl) Tryd.func36 rfl 59 rfl rfl fun w0 h0 hsep hsub hpre => ?_
  show St (cx gl) _ [(0, .pointer (some ⟨b, 0, none⟩))] _ _
  refine St.openP (p := []) (fun ⟨L, W, T, V, vL, vW, vT, vV⟩ hok => ?_)
  refine St.unbundle [] ?_
  refine St.res (rs' := [blk b [vL, vW, vT, vV, .int .i64 (l : Int), .int .i64 (T.length : Int)] 83, ownS 60 1 (vL) L.length (fsts L), ownS 60 1 (vW) W.length (fsts W), ownS 24 1 (vT) T.length (fsts T), ownS 24 1 (vV) V.length (fsts V), fam listH L, fam listH W, fam msgH T, fam msgH V]) (Weak.refl _) ?_
  have hok_ := hok
  obtain ⟨hL, hW, hol, hmk, hun, hle, hTV, hTok, hTle⟩ := hok
  dsimp only at hL hW hmk hun hle hTV hTok hTle
  have hVl : V.length = T.length := by have h := congrArg List.length hTV; rw [List.length_map, List.length_map] at h; exact h.symm
  refine St.ownForm (p := [_]) fun lb lc hlb_ hlc => ?_
  subst hlb_
  refine St.ownForm (p := [_, _, _]) fun tb tc htb_ htc => ?_
  subst htb_
  refine St.ownForm (p := [_, _, _, _]) fun vb vc hvb_ hvc => ?_
  subst hvb_
  have hsame := same_ok (gl := gl) tb tc (fsts T) (T.map fun t : Txt => t.2) (by rw [fsts_length, List.length_map]) (by rw [fsts_length]; omega) (fun x hx => by obtain ⟨t, ht, rfl⟩ := List.mem_map.1 hx; exact (hTok t ht).1) vb vc (fsts V) (V.map fun t : Txt => t.2) (by rw [fsts_length, List.length_map]) (by rw [fsts_length]; omega) (fun x hx => by rw [← hTV] at hx; obtain ⟨t, ht, rfl⟩ := List.mem_map.1 hx; exact (hTok t ht).1)
  rw [fsts_length, fsts_length] at hsame
  refine R_seq ?_
  refine R_region ?_
  refine L_val rfl rfl rfl (OpP.v (P_assign rfl rfl)) ?_
  refine L_nil ?_
  refine Q_then ?_
  refine R_seq ?_
  refine R_seq ?_
  refine R_open [(0, 0), (1, 0), (2, 0), (3, 1), (4, 0), (5, 0), (6, 0), (7, 1), (8, 0), (9, 0), (10, 0), (11, 0), (12, 1), (13, 2), (14, 0)] mixed (by kernel_rfl) (QOk.then (QOk.then QOk.body)) ?_
  refine O_pure rfl rfl rfl rfl (P_move rfl rfl) ?_
  refine O_pure rfl rfl rfl rfl (P_nil rfl rfl) ?_
  refine O_pure rfl rfl rfl rfl (P_fld0 rfl ty_fl_83_2 rfl) ?_
  refine O_val rfl rfl rfl rfl (V_load rfl rfl ty_sc_60 (Rd.blk .h0 rfl)) ?_
  refine O_pure rfl rfl rfl rfl (P_move rfl rfl) ?_
  refine O_pure rfl rfl rfl rfl (P_nil rfl rfl) ?_
  refine O_pure rfl rfl rfl rfl (P_fld0 rfl ty_fl_83_5 rfl) ?_
  refine O_val rfl rfl rfl rfl (V_load rfl rfl ty_sc_3 (Rd.blk .h0 rfl)) ?_
  refine O_pure rfl rfl rfl rfl (P_slice 0 T.length rfl ty_sl_60 rfl rfl ⟨_, rfl⟩ (by omega) (by omega)) ?_
  refine E_as (t := 13) (v' := .slice tb T.length tc) rfl (by unfold sliced; split <;> (cases tb <;> simp [Addr.add])) ?_
  refine O_pure rfl rfl rfl rfl (P_move rfl rfl) ?_
  refine O_pure rfl rfl rfl rfl (P_nil rfl rfl) ?_
  refine O_pure rfl rfl rfl rfl (P_fld0 rfl ty_fl_83_3 rfl) ?_
  refine O_val rfl rfl rfl rfl (V_load rfl rfl ty_sc_60 (Rd.blk .h0 rfl)) ?_
  refine O_keep rfl rfl (W_callV rfl rfl rfl rfl fn_ca_28 (hsame) (fun w nw => ⟨ItemsM.own .h3 .h7 w nw, ItemsM.own .h4 .h8 w nw⟩) (K_keep (Weak.refl _) ?_))
  refine E_true (t := 18) rfl (decide_eq_true hTV) ?_
  refine O_pure rfl rfl rfl rfl (P_not rfl rfl) ?_
  refine O_nil ?_
  refine St.env (.cons (t := 0) rfl (.cons (t := 2) rfl (.cons (t := 19) rfl .nil))) ?_
  refine Q_then ?_
  refine R_condF rfl ?_
  refine R_skip ?_
  refine Q_then ?_
  refine R_seq ?_
  refine R_seq ?_
  refine R_region ?_
  refine L_val rfl rfl rfl (OpP.v (P_assign rfl rfl)) ?_
  refine L_nil ?_
  refine St.env (.cons (t := 0) rfl (.cons (t := 2) rfl (.cons (t := 3) rfl .nil))) ?_
  refine Q_then ?_
  refine R_block ?_
  refine R_loopE (G := Nat) (.cons (t := 0) rfl (.cons (t := 2) rfl .nil)) (fun g => [(3, .int .i64 (g : Int))]) (fun g => [blk b [.slice lb L.length lc, vW, .slice tb T.length tc, .slice vb V.length vc, .int .i64 (l : Int), .int .i64 (T.length : Int)] 83, ownS 60 1 (.slice lb L.length lc) L.length (fsts L), ownS 60 1 (vW) W.length (fsts W), ownS 24 1 (.slice tb T.length tc) T.length (fsts T), ownS 24 1 (.slice vb V.length vc) V.length (fsts V), fam listH L, fam listH W, fam msgH T, fam msgH V]) (fun g => g ≤ l) (fun g => l - g) (0) (Nat.zero_le _) (by repeat (first | exact .nil | refine .cons rfl ?_ | refine .consE rfl (by first | rfl | (congr 1; omega) | (congr 1; push_cast; omega)) ?_)) (Weak.refl _) ?_
  intro i hinv
  replace hinv : i ≤ l := hinv
  show St (cx gl) _ ((3, .int .i64 (i : Int)) :: _) [blk b [.slice lb L.length lc, vW, .slice tb T.length tc, .slice vb V.length vc, .int .i64 (l : Int), .int .i64 (T.length : Int)] 83, ownS 60 1 (.slice lb L.length lc) L.length (fsts L), ownS 60 1 (vW) W.length (fsts W), ownS 24 1 (.slice tb T.length tc) T.length (fsts T), ownS 24 1 (.slice vb V.length vc) V.length (fsts V), fam listH L, fam listH W, fam msgH T, fam msgH V] _
  have hi := hinv
  refine R_seq ?_
  refine R_seq ?_
  refine R_region ?_
  refine L_val rfl rfl rfl (OpP.v (P_move rfl rfl)) ?_
  refine L_val rfl rfl rfl (OpP.v (P_move rfl rfl)) ?_
  refine L_val rfl rfl rfl (OpP.v (P_nil rfl rfl)) ?_
  refine L_val rfl rfl rfl (OpP.v (P_fld0 rfl ty_fl_83_4 rfl)) ?_
  refine L_val rfl rfl rfl (V_load rfl rfl ty_sc_3 (Rd.blk .h0 rfl)) ?_
  refine L_val rfl rfl rfl (OpP.v (P_lss rfl rfl rfl)) ?_
  refine L_nil ?_
  refine Q_then ?_
  refine R_condP rfl (fun hi0 => ?_) (fun hi0 => ?_)
  · skip
    have hlt : i < l := by omega
    refine St.ownSome (p := [_]) (by omega) fun lbb lbb_ hq _ => ?_
    simp only [Value.slice.injEq] at hq
    obtain ⟨rfl, _, rfl⟩ := hq
    obtain ⟨⟨xv, ws⟩, hx⟩ : ∃ y, L[i]? = some y := ⟨_, List.getElem?_eq_getElem (by omega)⟩
    have hmi := hmk i _ hlt hx
    have hwl := hle _ (List.mem_of_getElem? hx)
    dsimp only at hmi hwl
    refine St.res (rs' := [ownS 24 1 xv ws.length (fsts ws), fam msgH ws, fam listH (L.take i), fam listH (L.drop (i + 1)), blk b [.slice (some ⟨lbb, 0, none⟩) L.length lc, vW, .slice tb T.length tc, .slice vb V.length vc, .int .i64 (l : Int), .int .i64 (T.length : Int)] 83, ownS 60 1 (.slice (some ⟨lbb, 0, none⟩) L.length lc) L.length (fsts L), ownS 60 1 (vW) W.length (fsts W), ownS 24 1 (.slice tb T.length tc) T.length (fsts T), ownS 24 1 (.slice vb V.length vc) V.length (fsts V), fam listH W, fam msgH T, fam msgH V]) ((Weak.pick (p := [_, _, _, _, _]) (Weak.keep (Weak.keep (Weak.keep (Weak.keep (Weak.keep (Weak.keep (Weak.keep (Weak.keep (Weak.nil _)))))))))).trans ((Weak.famOpen (f := listH) hx).trans (Weak.unbundle (L := [ownS 24 1 xv ws.length (fsts ws), fam msgH ws]) (rs := [fam listH (L.take i), fam listH (L.drop (i + 1)), blk b [.slice (some ⟨lbb, 0, none⟩) L.length lc, vW, .slice tb T.length tc, .slice vb V.length vc, .int .i64 (l : Int), .int .i64 (T.length : Int)] 83, ownS 60 1 (.slice (some ⟨lbb, 0, none⟩) L.length lc) L.length (fsts L), ownS 60 1 (vW) W.length (fsts W), ownS 24 1 (.slice tb T.length tc) T.length (fsts T), ownS 24 1 (.slice vb V.length vc) V.length (fsts V), fam listH W, fam msgH T, fam msgH V])))) ?_
    refine St.ownForm (p := []) fun xb xc hxb_ hxc => ?_
    subst hxb_
    refine St.res (rs' := [ownS 24 1 (.slice xb ws.length xc) ws.length (fsts ws), fam msgH ws, fam listH (L.take i), fam listH (L.drop (i + 1)), blk b [.slice (some ⟨lbb, 0, none⟩) L.length lc, vW, .slice tb T.length tc, .slice vb V.length vc, .int .i64 (l : Int), .int .i64 (T.length : Int)] 83, ownS 60 1 (.slice (some ⟨lbb, 0, none⟩) L.length lc) L.length (fsts L), ownS 60 1 (vW) W.length (fsts W), ownS 24 1 (.slice tb T.length tc) T.length (fsts T), ownS 24 1 (.slice vb V.length vc) V.length (fsts V), fam listH W, fam msgH T, fam msgH V]) (Weak.refl _) ?_
    refine R_skip ?_
    refine Q_then ?_
    refine R_seq ?_
    refine R_block ?_
    refine R_seq ?_
    refine R_region ?_
    refine L_val rfl rfl rfl (OpP.v (P_assign rfl rfl)) ?_
    refine L_nil ?_
    refine Q_then ?_
    refine R_block ?_
    refine R_loopE (G := Nat) (.cons (t := 0) rfl (.cons (t := 2) rfl (.cons (t := 3) rfl (.cons (t := 20) rfl (.cons (t := 21) rfl (.cons (t := 22) rfl (.cons (t := 23) rfl (.cons (t := 24) rfl (.cons (t := 25) rfl .nil))))))))) (fun g => [(4, .int .i64 (g : Int))]) (fun g => [ownS 24 1 (.slice xb ws.length xc) ws.length (fsts ws), fam msgH ws, fam listH (L.take i), fam listH (L.drop (i + 1)), blk b [.slice (some ⟨lbb, 0, none⟩) L.length lc, vW, .slice tb T.length tc, .slice vb V.length vc, .int .i64 (l : Int), .int .i64 (T.length : Int)] 83, ownS 60 1 (.slice (some ⟨lbb, 0, none⟩) L.length lc) L.length (fsts L), ownS 60 1 (vW) W.length (fsts W), ownS 24 1 (.slice tb T.length tc) T.length (fsts T), ownS 24 1 (.slice vb V.length vc) V.length (fsts V), fam listH W, fam msgH T, fam msgH V]) (fun g => g ≤ ws.length) (fun g => ws.length - g) (0) (Nat.zero_le _) (by repeat (first | exact .nil | refine .cons rfl ?_ | refine .consE rfl (by first | rfl | (congr 1; omega) | (congr 1; push_cast; omega)) ?_)) (Weak.refl _) ?_
    intro j hinv
    replace hinv : j ≤ ws.length := hinv
    show St (cx gl) _ ((4, .int .i64 (j : Int)) :: _) [ownS 24 1 (.slice xb ws.length xc) ws.length (fsts ws), fam msgH ws, fam listH (L.take i), fam listH (L.drop (i + 1)), blk b [.slice (some ⟨lbb, 0, none⟩) L.length lc, vW, .slice tb T.length tc, .slice vb V.length vc, .int .i64 (l : Int), .int .i64 (T.length : Int)] 83, ownS 60 1 (.slice (some ⟨lbb, 0, none⟩) L.length lc) L.length (fsts L), ownS 60 1 (vW) W.length (fsts W), ownS 24 1 (.slice tb T.length tc) T.length (fsts T), ownS 24 1 (.slice vb V.length vc) V.length (fsts V), fam listH W, fam msgH T, fam msgH V] _
    have hj := hinv
    refine R_seq ?_
    refine R_seq ?_
    refine R_region ?_
    refine L_val rfl rfl rfl (OpP.v (P_move rfl rfl)) ?_
    refine L_val rfl rfl rfl (OpP.v (P_move rfl rfl)) ?_
    refine L_val rfl rfl rfl (OpP.v (P_nil rfl rfl)) ?_
    refine L_val rfl rfl rfl (OpP.v (P_fld0 rfl ty_fl_83_0 rfl)) ?_
    refine L_val rfl rfl rfl (V_load rfl rfl ty_sc_81 (Rd.blk .h4 rfl)) ?_
    refine L_val rfl rfl rfl (OpP.v (P_move rfl rfl)) ?_
    refine L_val rfl rfl rfl (OpP.v (P_ixs (i) rfl ty_sl_81 rfl rfl (by first | rfl | omega) (by omega))) ?_
    refine L_val rfl rfl rfl (V_load rfl rfl ty_sc_60 (rd_own1 .h5 (fsts_at hx))) ?_
    refine L_val rfl rfl rfl (OpP.v (P_len rfl ty_sl_60 rfl)) ?_
    refine L_val rfl rfl rfl (OpP.v (P_lss rfl rfl rfl)) ?_
    refine L_nil ?_
    refine Q_then ?_
    refine R_condP rfl (fun hj0 => ?_) (fun hj0 => ?_)
    · skip
      have hjl : j < ws.length := by omega
      obtain ⟨⟨zv, zx⟩, hz⟩ : ∃ y, ws[j]? = some y := ⟨_, List.getElem?_eq_getElem hjl⟩
      have hzm : zx = mkB i := hmi _ (List.mem_of_getElem? hz)
      refine St.famFact .h1 hz (p := ∃ b c, zv = .slice b zx.length c) (fun h hh => ownS.formB hh) fun ⟨zb, zc, hq⟩ => ?_
      subst hq
      refine St.ownSome (p := []) (by omega) fun xbb xbb_ hq _ => ?_
      simp only [Value.slice.injEq] at hq
      obtain ⟨rfl, _, rfl⟩ := hq
      refine R_skip ?_
      refine Q_then ?_
      refine R_seq ?_
      refine R_block ?_
      refine R_seq ?_
      refine R_open [(0, 0), (1, 0), (2, 0), (3, 1), (4, 0), (5, 0), (6, 1), (7, 0), (8, 0), (9, 1), (10, 1), (11, 0), (12, 0), (13, 0), (14, 0), (15, 0), (16, 2), (17, 1), (18, 0)] mixed (by kernel_rfl) (QOk.then (QOk.block (QOk.then (QOk.then (QOk.block (QOk.block (QOk.then (QOk.then (QOk.block (QOk.then QOk.body)))))))))) ?_
      refine O_pure rfl rfl rfl rfl (P_move rfl rfl) ?_
      refine O_pure rfl rfl rfl rfl (P_nil rfl rfl) ?_
      refine O_pure rfl rfl rfl rfl (P_fld0 rfl ty_fl_83_0 rfl) ?_
      refine O_val rfl rfl rfl rfl (V_load rfl rfl ty_sc_81 (by first | exact Rd.blk .h4 rfl | exact Rd.blk .h5 rfl)) ?_
      refine O_pure rfl rfl rfl rfl (P_move rfl rfl) ?_
      refine O_pure rfl rfl rfl rfl (P_ixs (i) rfl ty_sl_81 rfl rfl (by first | rfl | omega) (by omega)) ?_
      refine O_val rfl rfl rfl rfl (V_load rfl rfl ty_sc_60 (by first | exact rd_own1 .h5 (fsts_at hx) | exact rd_own1 .h6 (fsts_at hx))) ?_
      refine O_pure rfl rfl rfl rfl (P_move rfl rfl) ?_
      refine O_pure rfl rfl rfl rfl (P_ixs (j) rfl ty_sl_60 rfl rfl (by first | rfl | omega) (by omega)) ?_
      refine O_val rfl rfl rfl rfl (V_load rfl rfl ty_sc_24 (by first | exact rd_own1 .h0 (fsts_at hz) | exact rd_own1 .h1 (fsts_at hz))) ?_
      refine O_val rfl rfl rfl rfl (V_str rfl (slB_spec ty_sl_24).1 ty_int_5 ty_str_9 rfl (by first | exact (Sn.fam .h1 hz fun rs m => Sn.own m rfl).rw_ | exact (Sn.fam .h2 hz fun rs m => Sn.own m rfl).rw_)) ?_
      refine O_pure rfl rfl rfl rfl (P_move rfl rfl) ?_
      refine O_pure rfl rfl rfl rfl (P_conv rfl ty_int_3 ty_int_5 rfl) ?_
      refine O_pure rfl rfl rfl rfl (P_move rfl rfl) ?_
      refine O_pure rfl rfl rfl rfl (P_shr rfl rfl rfl (by omega)) ?_
      refine O_pure rfl rfl rfl rfl (P_conv rfl ty_int_3 ty_int_5 rfl) ?_
      refine O_keep rfl rfl (W_lit (z := .nilIface) (ints .u8 (mkB i)) rfl rfl rfl ty_sl_24 ty_lz_24 rfl rfl rfl (by decide) (by decide) (by simp [Value.cells]) (rfl) fun b56 => (K_keep (Weak.drop (Weak.refl _)) ?_))
      refine O_val rfl rfl rfl rfl (V_str rfl (slB_spec ty_sl_24).1 ty_int_5 ty_str_9 rfl ((Sn.ofBlk .h0).rw_)) ?_
      refine O_pure rfl rfl rfl rfl (P_neStr rfl rfl rfl (by rw [hzm]; exact isB_mkB _) (isB_mkB _)) ?_
      refine E_false (t := 58) rfl (decide_eq_false (fun h => h hzm)) ?_
      refine O_nil ?_
      refine Q_then ?_
      refine R_condF rfl ?_
      refine R_skip ?_
      refine Q_block ?_
      refine Q_then ?_
      refine R_region ?_
      refine L_val rfl rfl rfl (OpP.v (P_move rfl rfl)) ?_
      first | (refine L_val rfl rfl rfl (OpP.v (P_addN rfl rfl rfl (by simp only [fits]; omega))) ?_) | (refine L_val rfl rfl rfl (OpP.v (P_add rfl rfl rfl)) ?_)
      refine L_val rfl rfl rfl (OpP.v (P_assign rfl rfl)) ?_
      refine L_nil ?_
      exact Q_round (j + 1) (by show (j + 1) ≤ ws.length; omega) (by show ws.length - (j + 1) < ws.length - j; omega) (by repeat (first | exact .nil | refine .cons rfl ?_ | refine .consE rfl (by first | rfl | (congr 1; omega) | (congr 1; push_cast; omega)) ?_)) (Weak.drop (Weak.refl _))
    · skip
      obtain rfl : j = ws.length := by omega
      refine R_exit ?_
      refine Q_then_exit ?_
      refine Q_then_exit ?_
      refine Q_block_eq ?_
      refine Q_block ?_
      refine Q_then ?_
      refine R_region ?_
      refine L_val rfl rfl rfl (OpP.v (P_move rfl rfl)) ?_
      first | (refine L_val rfl rfl rfl (OpP.v (P_addN rfl rfl rfl (by simp only [fits]; omega))) ?_) | (refine L_val rfl rfl rfl (OpP.v (P_add rfl rfl rfl)) ?_)
      refine L_val rfl rfl rfl (OpP.v (P_assign rfl rfl)) ?_
      refine L_nil ?_
      exact Q_round (i + 1) (by show (i + 1) ≤ l; omega) (by show l - (i + 1) < l - i; omega) (by repeat (first | exact .nil | refine .cons rfl ?_ | refine .consE rfl (by first | rfl | (congr 1; omega) | (congr 1; push_cast; omega)) ?_)) ((Weak.bundle (L := [ownS 24 1 (.slice xb ws.length xc) ws.length (fsts ws), fam msgH ws]) (rs := [fam listH (L.take i), fam listH (L.drop (i + 1)), blk b [.slice (some ⟨lbb, 0, none⟩) L.length lc, vW, .slice tb T.length tc, .slice vb V.length vc, .int .i64 (l : Int), .int .i64 (T.length : Int)] 83, ownS 60 1 (.slice (some ⟨lbb, 0, none⟩) L.length lc) L.length (fsts L), ownS 60 1 (vW) W.length (fsts W), ownS 24 1 (.slice tb T.length tc) T.length (fsts T), ownS 24 1 (.slice vb V.length vc) V.length (fsts V), fam listH W, fam msgH T, fam msgH V])).trans ((Weak.famShut (f := listH) hx).trans (Weak.pick (p := [_]) (Weak.pick (p := [_]) (Weak.pick (p := [_]) (Weak.pick (p := [_]) (Weak.pick (p := [_]) (Weak.keep (Weak.keep (Weak.keep (Weak.keep (Weak.nil _))))))))))))
  · skip
    obtain rfl : i = l := by omega
    refine R_exit ?_
    refine Q_then_exit ?_
    refine Q_then_exit ?_
    refine Q_block_eq ?_
    refine St.env (.cons (t := 2) rfl .nil) ?_
    refine Q_then ?_
    refine R_seq ?_
    refine R_region ?_
    refine L_val rfl rfl rfl (OpP.v (P_assign rfl rfl)) ?_
    refine L_nil ?_
    refine Q_then ?_
    refine R_ret ?_
    exact R_end (rs2 := [BOOK b i i]) rfl rfl (.tmp rfl .nil) (⟨rfl, rfl⟩) (book_close (rs := []) ⟨L, W, T, V, .slice lb L.length lc, vW, .slice tb T.length tc, .slice vb V.length vc⟩ hok_)
theorem Bk.ok.fresh {o l : Nat} {A U W : List Lst} {T V : List Txt} {vL vW vT vV : Value} (h : Bk.ok o l ⟨A ++ U, W, T, V, vL, vW, vT, vV⟩) (hA : A.length = o) : ∀ y ∈ U, ∀ t ∈ y.2, TxOK t.2 := fun y hy t ht => by
  obtain ⟨k1, k2, k3, k4, k5, k6, k7, k8, k9⟩ := h
  dsimp only at k1 k2 k5
  obtain ⟨j, hj⟩ := List.mem_iff_getElem?.1 hy
  have hjl := (List.getElem?_eq_some_iff.1 hj).1
  rw [List.length_append] at k1
  have h1 : (A ++ U)[o + j]? = some y := by rw [List.getElem?_append_right (by omega), hA, Nat.add_sub_cancel_left]; exact hj
  obtain ⟨z, hz⟩ : ∃ z, W[o + j]? = some z := ⟨_, List.getElem?_eq_getElem (by omega)⟩
  exact (k5 _ y z (by omega) h1 hz).2 t ht
theorem book_empty : Bk.ok 0 0 ⟨[], [], [], [], .slice none 0 0, .slice none 0 0, .slice none 0 0, .slice none 0 0⟩ := by
  refine ⟨rfl, rfl, Nat.le_refl _, ?_, ?_, ?_, rfl, ?_, Nat.le_refl _⟩
  · intro j y h; omega
  · intro j y z _ h
    have h : ([] : List Lst)[j]? = some y := h
    simp at h
  · intro y h
    have h : y ∈ ([] : List Lst) := h
    simp at h
  · intro y h
    have h : y ∈ ([] : List Txt) := h
    simp at h
theorem sum_ones' {α : Type} (l : List α) : (l.map fun _ => 1).sum = l.length := by
  induction l with
  | nil => rfl
  | cons x l ih => rw [List.map_cons, List.sum_cons, ih, List.length_cons]; omega
theorem sealOwn_walk {gl : Nat → Obj} (hG : GlobsR gl) (base : Option Addr) (c : Nat) (ops : List Opr) (hmax : ops.length ≤ 1048576) (hm : ∀ o ∈ ops, o.m.xs.length ≤ 140737488351232) : SpecV (cx gl) 13 [.slice base ops.length c] (fun w => ScriptOK w base ops) (.bool true) := by
  refine Spec.enter (C := cx gl) Tryd.func13 rfl 44 rfl rfl fun w0 h0 hsep hsub hpre => ?_
  obtain rfl : h0 = Heap.none := hsep
  show St (cx gl) _ [(0, .slice base ops.length c)] _ _
  refine R_seq ?_
  refine R_region ?_
  refine L_val rfl rfl rfl (OpP.v (P_assign rfl rfl)) ?_
  refine L_nil ?_
  refine Q_then ?_
  refine R_seq ?_
  refine R_region ?_
  refine L_op rfl (W_call rfl rfl rfl rfl fn_ca_30 (begin_ok) (Split.nil _) (fun _ _ _ _ _ _ _ => trivial) fun v8 rs1 ⟨w, e1, e2⟩ => ?_)
  subst e1; subst e2
  refine St.res (rs' := [TWO w 0]) (Weak.refl _) ?_
  refine L_val rfl rfl rfl (OpP.v (P_move rfl rfl)) ?_
  refine L_val rfl rfl rfl (OpP.v (P_extract rfl rfl rfl)) ?_
  refine L_val rfl rfl rfl (OpP.v (P_extract rfl rfl rfl)) ?_
  refine L_val rfl rfl rfl (OpP.v (P_assign rfl rfl)) ?_
  refine L_val rfl rfl rfl (OpP.v (P_assign rfl rfl)) ?_
  refine L_nil ?_
  refine St.env (.cons (t := 0) rfl (.cons (t := 2) rfl (.cons (t := 3) rfl (.cons (t := 4) rfl .nil)))) ?_
  refine Q_then ?_
  refine R_seq ?_
  refine R_seq ?_
  refine R_region ?_
  refine L_val rfl rfl rfl (OpP.v (P_move rfl rfl)) ?_
  refine E_true (t := 11) rfl (rfl) ?_
  refine L_val rfl rfl rfl (OpP.v (P_not rfl rfl)) ?_
  refine L_nil ?_
  refine St.env (.cons (t := 0) rfl (.cons (t := 2) rfl (.cons (t := 3) rfl (.cons (t := 4) rfl (.cons (t := 12) rfl .nil))))) ?_
  refine Q_then ?_
  refine R_condF rfl ?_
  refine R_skip ?_
  refine Q_then ?_
  refine R_seq ?_
  refine R_region ?_
  refine L_val rfl rfl rfl (OpP.v (P_buildStruct rfl ty_pl_83 ty_ze_83 rfl rfl (rfl))) ?_
  refine E_as (t := 13) (v' := .agg ([.slice none 0 0, .slice none 0 0, .slice none 0 0, .slice none 0 0, .int .i64 0, .int .i64 0] : List Value).toArray) rfl (rfl) ?_
  refine L_op rfl (W_box ([.slice none 0 0, .slice none 0 0, .slice none 0 0, .slice none 0 0, .int .i64 0, .int .i64 0]) rfl rfl rfl rfl rfl fun b14 => ?_)
  refine L_val rfl rfl rfl (OpP.v (P_assign rfl rfl)) ?_
  refine L_nil ?_
  refine St.env (.cons (t := 0) rfl (.cons (t := 2) rfl (.cons (t := 3) rfl (.cons (t := 4) rfl (.cons (t := 5) rfl .nil))))) ?_
  refine Q_then ?_
  refine R_seq ?_
  refine R_seq ?_
  refine St.res (rs' := [blk b14 [.slice none 0 0, .slice none 0 0, .slice none 0 0, .slice none 0 0, .int .i64 ((0 : Nat) : Int), .int .i64 (([] : List Txt).length : Int)] 83, ownS 60 1 (.slice none 0 0) 0 [], ownS 60 1 (.slice none 0 0) 0 [], ownS 24 1 (.slice none 0 0) 0 [], ownS 24 1 (.slice none 0 0) 0 [], fam listH ([] : List Lst), fam listH ([] : List Lst), fam msgH ([] : List Txt), fam msgH ([] : List Txt), TWO w 0]) (Weak.trans (Weak.famNil (f := msgH)) (Weak.trans (Weak.famNil (f := msgH)) (Weak.trans (Weak.famNil (f := listH)) (Weak.trans (Weak.famNil (f := listH)) (Weak.trans (Weak.newNil (T := 24) (sz := 1)) (Weak.trans (Weak.newNil (T := 24) (sz := 1)) (Weak.trans (Weak.newNil (T := 60) (sz := 1)) (Weak.trans (Weak.newNil (T := 60) (sz := 1)) (Weak.pick (p := [_, _, _, _, _, _, _, _]) (Weak.keep (Weak.keep (Weak.keep (Weak.keep (Weak.keep (Weak.keep (Weak.keep (Weak.keep (Weak.keep (Weak.nil _))))))))))))))))))) ?_
  refine St.res (rs' := [BOOK b14 0 0, TWO w 0]) (book_close (rs := [TWO w 0]) ⟨[], [], [], [], .slice none 0 0, .slice none 0 0, .slice none 0 0, .slice none 0 0⟩ book_empty) ?_
  refine St.res (rs' := [TWO w 0, BOOK b14 0 0]) (Weak.swap) ?_
  refine R_region ?_
  refine L_val rfl rfl rfl (OpP.v (P_assign rfl rfl)) ?_
  refine L_nil ?_
  refine Q_then ?_
  refine R_block ?_
  refine R_loopE (G := Nat) (.cons (t := 0) rfl (.cons (t := 2) rfl (.cons (t := 3) rfl (.cons (t := 5) rfl .nil)))) (fun g => [(4, .bool true), (6, .int .i64 (g : Int))]) (fun g => [TWO w g, BOOK b14 (3 * g) (3 * g)]) (fun g => g ≤ ops.length) (fun g => ops.length - g) (0) (Nat.zero_le _) (by repeat (first | exact .nil | refine .cons rfl ?_ | refine .consE rfl (by first | rfl | (congr 1; omega) | (congr 1; push_cast; omega)) ?_)) (Weak.refl _) ?_
  intro i hinv
  replace hinv : i ≤ ops.length := hinv
  show St (cx gl) _ ((4, .bool true) :: (6, .int .i64 (i : Int)) :: _) [TWO w i, BOOK b14 (3 * i) (3 * i)] _
  have hi := hinv
  refine R_seq ?_
  refine R_seq ?_
  refine R_region ?_
  refine L_val rfl rfl rfl (OpP.v (P_move rfl rfl)) ?_
  refine L_val rfl rfl rfl (OpP.v (P_move rfl rfl)) ?_
  refine L_val rfl rfl rfl (OpP.v (P_len rfl ty_sl_39 rfl)) ?_
  refine L_val rfl rfl rfl (OpP.v (P_lss rfl rfl rfl)) ?_
  refine L_nil ?_
  refine Q_then ?_
  refine R_condP rfl (fun hlt0 => ?_) (fun hlt0 => ?_)
  · skip
    have hlt : i < ops.length := by omega
    obtain ⟨o, ho⟩ : ∃ o, ops[i]? = some o := ⟨_, List.getElem?_eq_getElem hlt⟩
    obtain ⟨hrow, hob, hosl⟩ := hpre.2 o (List.mem_of_getElem? ho)
    have hom := hm o (List.mem_of_getElem? ho)
    have h16 : ∀ o ∈ ops, o.sl.length = 16 := fun o ho => (hpre.2 o ho).2.2
    rcases hpre.1.cases with hz | ⟨ab, aj, rfl, hra⟩
    · exfalso; have h1 := opsC_at h16 ho 0 _ rfl; rw [hz] at h1; cases h1
    refine R_skip ?_
    refine Q_then ?_
    refine R_seq ?_
    refine R_block ?_
    refine R_seq ?_
    refine R_region ?_
    refine L_val rfl rfl rfl (OpP.v (P_move rfl rfl)) ?_
    refine L_val rfl rfl rfl (OpP.v (P_move rfl rfl)) ?_
    refine L_val rfl rfl rfl (OpP.v (P_move rfl rfl)) ?_
    refine L_val rfl rfl rfl (OpP.v (P_ixs (i) rfl ty_sl_39 rfl rfl (by first | rfl | omega) (by omega))) ?_
    refine L_val rfl rfl rfl (V_loadAgg rfl rfl ty_ag_72 (Rds.sn (k := i * 23) (Sn.row hpre.1 rfl) (fun j v hj => opsC_at h16 ho j v hj)) (opC_length hosl)) ?_
    refine L_op rfl (W_callR rfl rfl rfl rfl fn_ca_31 (step_ok hG w i (by omega) o.kd o.wh o.at_ o.a o.m.b o.m.c o.m.xs o.sl o.tw o.lg hosl hom hob) (Split.one (p := [])) (Sn.pre (Sn.row hrow rfl)) ?_)
    refine St.res (rs' := [TWO w (i + 1), BOOK b14 (3 * i) (3 * i)]) (Weak.refl _) ?_
    refine L_val rfl rfl rfl (OpP.v (P_assign rfl rfl)) ?_
    refine L_nil ?_
    refine Q_then ?_
    refine R_seq ?_
    refine R_seq ?_
    refine R_region ?_
    refine L_val rfl rfl rfl (OpP.v (P_move rfl rfl)) ?_
    refine E_true (t := 27) rfl (rfl) ?_
    refine L_val rfl rfl rfl (OpP.v (P_not rfl rfl)) ?_
    refine L_nil ?_
    refine Q_then ?_
    refine R_condF rfl ?_
    refine R_skip ?_
    refine Q_then ?_
    refine R_seq ?_
    refine R_region ?_
    refine L_val rfl rfl rfl (OpP.v (P_move rfl rfl)) ?_
    refine L_val rfl rfl rfl (OpP.v (P_move rfl rfl)) ?_
    refine L_val rfl rfl rfl (OpP.v (P_move rfl rfl)) ?_
    refine L_val rfl rfl rfl (OpP.v (P_move rfl rfl)) ?_
    refine L_val rfl rfl rfl (OpP.v (P_ixs (i) rfl ty_sl_39 rfl rfl (by first | rfl | omega) (by omega))) ?_
    refine L_val rfl rfl rfl (V_loadAgg rfl rfl ty_ag_72 (Rds.sn (k := i * 23) (Sn.row hpre.1 rfl) (fun j v hj => opsC_at h16 ho j v hj)) (opC_length hosl)) ?_
    refine L_op rfl (W_callR rfl rfl rfl rfl fn_ca_33 (look_ok w (i + 1) b14 (3 * i) (by omega) (by omega) o.kd o.wh o.at_ o.a o.m.b o.m.c o.m.xs o.sl o.tw o.lg) (Weak.keep (Weak.keep (Weak.nil _))) (fun _ _ _ _ _ _ _ => trivial) ?_)
    refine St.res (rs' := [TWO w (i + 1), BOOK b14 (3 * i) (3 * i + 3)]) (Weak.refl _) ?_
    refine L_nil ?_
    refine St.env (.cons (t := 0) rfl (.cons (t := 2) rfl (.cons (t := 3) rfl (.cons (t := 4) rfl (.cons (t := 5) rfl (.cons (t := 6) rfl (.cons (t := 15) rfl (.cons (t := 16) rfl (.cons (t := 17) rfl (.cons (t := 18) rfl (.cons (t := 21) rfl (.cons (t := 22) rfl (.cons (t := 23) rfl (.cons (t := 24) rfl (.cons (t := 25) rfl (.cons (t := 26) rfl (.cons (t := 27) rfl (.cons (t := 28) rfl (.cons (t := 29) rfl (.cons (t := 30) rfl (.cons (t := 31) rfl (.cons (t := 32) rfl (.cons (t := 33) rfl (.cons (t := 34) rfl .nil)))))))))))))))))))))))) ?_
    refine Q_then ?_
    refine R_seq ?_
    refine R_seq ?_
    refine R_region ?_
    refine L_val rfl rfl rfl (OpP.v (P_move rfl rfl)) ?_
    refine L_op rfl (W_callR rfl rfl rfl rfl fn_ca_34 (right_ok b14 (3 * i) (3 * i + 3) (by omega)) (Split.one (p := [_])) (fun _ _ _ _ _ _ _ => trivial) ?_)
    refine St.res (rs' := [BOOK b14 (3 * i) (3 * i + 3), TWO w (i + 1)]) (Weak.refl _) ?_
    refine E_true (t := 37) rfl (rfl) ?_
    refine L_val rfl rfl rfl (OpP.v (P_not rfl rfl)) ?_
    refine L_nil ?_
    refine Q_then ?_
    refine R_condF rfl ?_
    refine R_skip ?_
    refine Q_then ?_
    refine R_seq ?_
    refine St.openP (p := []) (fun ⟨L, W, T, V, vL, vW, vT, vV⟩ hok => ?_)
    refine St.unbundle [] ?_
    obtain ⟨A, U, rfl, hA⟩ : ∃ A U, L = A ++ U ∧ A.length = 3 * i := ⟨L.take (3 * i), L.drop (3 * i), (List.take_append_drop _ _).symm, by rw [List.length_take, hok.1]; omega⟩
    refine St.res (rs' := [blk b14 [vL, vW, vT, vV, .int .i64 ((3 * i : Nat) : Int), .int .i64 (T.length : Int)] 83, ownS 60 1 (vL) (A ++ U).length (fsts (A ++ U)), ownS 60 1 (vW) W.length (fsts W), ownS 24 1 (vT) T.length (fsts T), ownS 24 1 (vV) V.length (fsts V), fam listH (A ++ U), fam listH W, fam msgH T, fam msgH V, TWO w (i + 1)]) (Weak.refl _) ?_
    have hok_ := hok
    have hfr := hok.fresh hA
    obtain ⟨hL, hW, _, _, _, hle, hTV, hTok, hTle⟩ := hok
    dsimp only at hL hW hle hTV hTok hTle
    have hAU := hL
    rw [List.length_append] at hAU
    refine St.res (rs' := [blk b14 [vL, vW, vT, vV, .int .i64 ((3 * i : Nat) : Int), .int .i64 (T.length : Int)] 83, ownS 60 1 (vL) (A ++ U).length (fsts (A ++ U)), ownS 24 1 (vT) T.length (fsts T), ownS 24 1 (vV) V.length (fsts V), fam listH A, fam listH U, fam msgH T, fam msgH V, ownS 60 1 (vW) W.length (fsts W), fam listH W, TWO w (i + 1)]) ((Weak.pick (p := [_, _, _, _, _]) (Weak.keep (Weak.keep (Weak.keep (Weak.keep (Weak.keep (Weak.keep (Weak.keep (Weak.keep (Weak.keep (Weak.nil _))))))))))).trans (Weak.famPart.trans (Weak.pick (p := [_, _]) (Weak.pick (p := [_, _]) (Weak.pick (p := [_, _, _]) (Weak.pick (p := [_, _, _]) (Weak.keep (Weak.keep (Weak.pick (p := [_, _]) (Weak.pick (p := [_, _]) (Weak.keep (Weak.keep (Weak.keep (Weak.nil _)))))))))))))) ?_
    refine R_region ?_
    refine L_val rfl rfl rfl (OpP.v (P_move rfl rfl)) ?_
    refine L_op rfl (W_call rfl rfl rfl rfl fn_ca_35 (mark_main b14 (3 * i) A U T V vL vW vT vV hA (fun y hy => hle y (List.mem_append_right _ hy)) hfr (by have h := congrArg List.length hTV; rw [List.length_map, List.length_map] at h; exact h.symm) hTok hTle (by omega)) (Weak.keep (Weak.keep (Weak.keep (Weak.keep (Weak.keep (Weak.keep (Weak.keep (Weak.keep (Weak.keep (Weak.keep (Weak.keep (Weak.nil _)))))))))))) (fun _ _ _ _ _ _ _ => trivial) fun v40 rs2 ⟨Z, Mc, V2, vT', vV', ⟨e3, ⟨hZl, hZf, hZm⟩, hMl, hMk, hV2⟩, e4⟩ => ?_)
    subst e3; subst e4
    refine St.res (rs' := [blk b14 [vL, vW, vT', vV', .int .i64 ((A ++ U).length : Int), .int .i64 ((T ++ Mc).length : Int)] 83, ownS 60 1 (vL) (A ++ U).length (fsts (A ++ U)), ownS 24 1 (vT') (T ++ Mc).length (fsts (T ++ Mc)), ownS 24 1 (vV') (V ++ V2).length (fsts (V ++ V2)), fam listH (A ++ Z), fam msgH (T ++ Mc), fam msgH (V ++ V2), ownS 60 1 (vW) W.length (fsts W), fam listH W, TWO w (i + 1)]) (Weak.refl _) ?_
    have hl3 : (A ++ U).length = 3 * i + 3 := hL
    have hZAU : (A ++ Z).length = (A ++ U).length := by rw [List.length_append, List.length_append, hZl]
    refine St.res (rs' := [blk b14 [vL, vW, vT', vV', .int .i64 ((3 * i + 3 : Nat) : Int), .int .i64 ((T ++ Mc).length : Int)] 83, ownS 60 1 (vL) (A ++ Z).length (fsts (A ++ Z)), ownS 24 1 (vT') (T ++ Mc).length (fsts (T ++ Mc)), ownS 24 1 (vV') (V ++ V2).length (fsts (V ++ V2)), fam listH (A ++ Z), fam msgH (T ++ Mc), fam msgH (V ++ V2), ownS 60 1 (vW) W.length (fsts W), fam listH W, TWO w (i + 1)]) (by rw [hl3, hZAU, hl3, fsts_append A Z, hZf, ← fsts_append]; exact Weak.refl _) ?_
    refine St.res (rs' := [blk b14 [vL, vW, vT', vV', .int .i64 ((3 * i + 3 : Nat) : Int), .int .i64 ((T ++ Mc).length : Int)] 83, ownS 60 1 (vL) (A ++ Z).length (fsts (A ++ Z)), ownS 60 1 (vW) W.length (fsts W), ownS 24 1 (vT') (T ++ Mc).length (fsts (T ++ Mc)), ownS 24 1 (vV') (V ++ V2).length (fsts (V ++ V2)), fam listH (A ++ Z), fam listH W, fam msgH (T ++ Mc), fam msgH (V ++ V2), TWO w (i + 1)]) (Weak.keep (Weak.keep (Weak.pick (p := [_, _, _, _, _]) (Weak.keep (Weak.keep (Weak.keep (Weak.pick (p := [_, _]) (Weak.keep (Weak.keep (Weak.keep (Weak.nil _))))))))))) ?_
    refine St.res (rs' := [BOOK b14 (3 * i + 3) (3 * i + 3), TWO w (i + 1)]) (book_close (rs := [TWO w (i + 1)]) ⟨A ++ Z, W, T ++ Mc, V ++ V2, vL, vW, vT', vV'⟩ (hok_.mark hA hZl hZm hMl hMk hV2)) ?_
    refine L_nil ?_
    refine St.env (.cons (t := 0) rfl (.cons (t := 2) rfl (.cons (t := 3) rfl (.cons (t := 4) rfl (.cons (t := 5) rfl (.cons (t := 6) rfl (.cons (t := 15) rfl (.cons (t := 16) rfl (.cons (t := 17) rfl (.cons (t := 18) rfl (.cons (t := 21) rfl (.cons (t := 22) rfl (.cons (t := 23) rfl (.cons (t := 24) rfl (.cons (t := 25) rfl (.cons (t := 26) rfl (.cons (t := 27) rfl (.cons (t := 28) rfl (.cons (t := 29) rfl (.cons (t := 30) rfl (.cons (t := 31) rfl (.cons (t := 32) rfl (.cons (t := 33) rfl (.cons (t := 34) rfl (.cons (t := 36) rfl (.cons (t := 37) rfl (.cons (t := 38) rfl (.cons (t := 39) rfl .nil)))))))))))))))))))))))))))) ?_
    refine Q_then ?_
    refine R_seq ?_
    refine R_region ?_
    refine L_val rfl rfl rfl (OpP.v (P_move rfl rfl)) ?_
    refine L_op rfl (W_callR rfl rfl rfl rfl fn_ca_36 (kept_ok b14 (3 * i + 3) (by omega)) (Split.one (p := [])) (fun _ _ _ _ _ _ _ => trivial) ?_)
    refine St.res (rs' := [TWO w (i + 1), BOOK b14 (3 * i + 3) (3 * i + 3)]) (Weak.swap) ?_
    refine E_true (t := 42) rfl (rfl) ?_
    refine L_val rfl rfl rfl (OpP.v (P_not rfl rfl)) ?_
    refine L_nil ?_
    refine Q_then ?_
    refine R_condF rfl ?_
    refine R_skip ?_
    refine Q_block ?_
    refine Q_then ?_
    refine R_region ?_
    refine L_val rfl rfl rfl (OpP.v (P_move rfl rfl)) ?_
    first | (refine L_val rfl rfl rfl (OpP.v (P_addN rfl rfl rfl (by simp only [fits]; omega))) ?_) | (refine L_val rfl rfl rfl (OpP.v (P_add rfl rfl rfl)) ?_)
    refine L_val rfl rfl rfl (OpP.v (P_assign rfl rfl)) ?_
    refine L_nil ?_
    exact Q_round (i + 1) (by show (i + 1) ≤ ops.length; omega) (by show ops.length - (i + 1) < ops.length - i; omega) (by repeat (first | exact .nil | refine .cons rfl ?_ | refine .consE rfl (by first | rfl | (congr 1; omega) | (congr 1; push_cast; omega)) ?_)) (Weak.refl _)
  · skip
    obtain rfl : i = ops.length := by omega
    refine R_exit ?_
    refine Q_then_exit ?_
    refine Q_then_exit ?_
    refine Q_block_eq ?_
    refine St.env (.cons (t := 2) rfl .nil) ?_
    refine Q_then ?_
    refine R_seq ?_
    refine R_region ?_
    refine L_val rfl rfl rfl (OpP.v (P_assign rfl rfl)) ?_
    refine L_nil ?_
    refine Q_then ?_
    refine R_ret ?_
    exact R_endV rfl rfl (.tmp rfl .nil) (rfl)
end Go.Proofs.YtnaadddnbfnahaaDoor
