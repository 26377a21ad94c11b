/- The book of lists that were handed out. Printed by gen.py. -/
import Derived.Test.YtnaadddnbfnahaaDoorU6
set_option linter.unusedVariables false
set_option linter.unusedSimpArgs false
set_option maxRecDepth 100000
namespace Go.Proofs.YtnaadddnbfnahaaDoor
open Go Go.RowKit Go.Proofs
abbrev Txt := Value × List Int
abbrev Lst := Value × List Txt
def fsts {α : Type} (l : List (Value × α)) : List Value := l.map fun x => x.1
theorem fsts_length {α : Type} (l : List (Value × α)) : (fsts l).length = l.length := List.length_map _
theorem fsts_append {α : Type} (l m : List (Value × α)) : fsts (l ++ m) = fsts l ++ fsts m := List.map_append
theorem fsts_snoc {α : Type} (l : List (Value × α)) (x : Value × α) : fsts (l ++ [x]) = fsts l ++ [x.1] := List.map_append
theorem fsts_at {α : Type} {l : List (Value × α)} {i : Nat} {x : Value × α} (h : l[i]? = some x) : (fsts l)[i]? = some x.1 := by unfold fsts; rw [List.getElem?_map, h]; rfl
theorem take_snoc {α : Type} {l : List α} {c : Nat} {v : α} (h : l[c]? = some v) : l.take c ++ [v] = l.take (c + 1) := by rw [List.take_add_one, h]; rfl
def holH (x : Lst) : HP := ownS 24 1 x.1 x.2.length (fsts x.2)
def listH (x : Lst) : HP := bundle [holH x, fam msgH x.2]
/-- What a list's places are written full with. -/
def mkB (i : Nat) : List Int := [IntKind.u8.wrap (i : Int), IntKind.u8.wrap (shrI .i64 (i : Int) 8)]
theorem u8_bound (a : Int) : 0 ≤ IntKind.u8.wrap a ∧ IntKind.u8.wrap a ≤ 255 := by simp only [IntKind.wrap, IntKind.signed, IntKind.bits]; simp; omega
theorem isB_mkB (i : Nat) : IsB (mkB i) := fun x hx => by
  unfold mkB at hx
  simp only [List.mem_cons, List.not_mem_nil, or_false] at hx
  rcases hx with rfl | rfl <;> exact u8_bound _
theorem bit_u8 (op : BinOp) (a b : Int) : 0 ≤ bitI op .u8 a b ∧ bitI op .u8 a b ≤ 255 := by
  have h := u8_bound a
  unfold bitI
  cases op <;> simp [IntKind.wrap, IntKind.signed, IntKind.bits] <;> omega
def TxOK (m : List Int) : Prop := IsB m ∧ m.length ≤ 1048576
theorem ownS.someB {T sz n : Nat} {v : Value} {cs : List Value} {h : Heap} (x : ownS T sz v n cs h) (hn : 0 < n) : ∃ b c, v = .slice (some ⟨b, 0, none⟩) n c := by
  rcases x.2 with ⟨_, rfl, _⟩ | ⟨b, cap, junk, rfl, hc, _⟩
  · exact absurd hn (by omega)
  · exact ⟨b, cap, rfl⟩
theorem ownS.formB {T sz n : Nat} {v : Value} {cs : List Value} {h : Heap} (x : ownS T sz v n cs h) : ∃ b c, v = .slice b n c := (ownS.form x).imp fun _ => .imp fun _ => And.left
theorem Weak.pairBack {T sz n0 n : Nat} {u v : Value} {cs0 cs : List Value} {rs : List HP} : Weak (pair T sz u n0 cs0 v n cs :: rs) (ownS T sz u n0 cs0 :: rs) := fun h ⟨a, b, ha, hb, d, e⟩ => by
  rcases ha with ⟨ow, b1, c1, e1, e2, e3, e4, ds, e5⟩ | ha
  · refine ⟨h, ⟨a, b, ⟨e3, ?_⟩, hb, d, e⟩, Heap.Le.refl _⟩
    rcases ow.2 with ⟨f1, f2, f3⟩ | ⟨b', cap, junk, f1, f2, f3, f4, f5⟩
    · rw [e2] at f1
      simp only [Value.slice.injEq] at f1
      obtain ⟨rfl, _, rfl⟩ := f1
      obtain rfl : n0 = 0 := by omega
      exact .inl ⟨e1, rfl, f3⟩
    · rw [e2] at f1
      simp only [Value.slice.injEq] at f1
      obtain ⟨rfl, _, rfl⟩ := f1
      rw [e5, List.append_assoc] at f4 f5
      exact .inr ⟨b', c1, ds ++ junk, e1, by omega, f3, f4, f5⟩
  · exact (Weak.keep (Weak.drop (Weak.drop (Weak.refl _)))) h (Sep.append.2 ⟨a, b, ha, hb, d, e⟩)
def msgsU (U : List Lst) : List Txt := U.flatMap fun y => y.2
def offU (U : List Lst) (m : Nat) : Nat := (msgsU (U.take m)).length
theorem offU_zero (U : List Lst) : offU U 0 = 0 := by simp [offU, msgsU]
theorem offU_next {U : List Lst} {m : Nat} {y : Lst} (h : U[m]? = some y) : offU U (m + 1) = offU U m + y.2.length := by
  unfold offU msgsU
  rw [List.take_add_one, h, List.flatMap_append, List.length_append]
  simp
theorem offU_full (U : List Lst) : offU U U.length = (msgsU U).length := by unfold offU; rw [List.take_length]
theorem msgsU_cons (x : Lst) (U : List Lst) : msgsU (x :: U) = x.2 ++ msgsU U := rfl
theorem msgsU_at {U : List Lst} {m j : Nat} {y : Lst} {z : Txt} (h : U[m]? = some y) (hz : y.2[j]? = some z) : (msgsU U)[offU U m + j]? = some z := by
  have e : msgsU U = msgsU (U.take m) ++ (y.2 ++ msgsU (U.drop (m + 1))) := by
    have := list_split h
    conv => lhs; rw [this]
    unfold msgsU
    rw [List.flatMap_append, List.flatMap_append]
    simp
  rw [e]
  unfold offU
  rw [List.getElem?_append_right (by omega), Nat.add_sub_cancel_left, List.getElem?_append_left (List.getElem?_eq_some_iff.1 hz).1]
  exact hz
theorem msgsU_le {N : Nat} : ∀ {U : List Lst}, (∀ y ∈ U, y.2.length ≤ N) → (msgsU U).length ≤ N * U.length
  | [], _ => by simp [msgsU]
  | x :: U, h => by
    have h1 := h x (by simp)
    have h2 := msgsU_le (U := U) fun y hy => h y (by simp [hy])
    rw [msgsU_cons, List.length_append, List.length_cons, Nat.mul_succ]; omega
theorem mem_msgsU {U : List Lst} {t : Txt} (h : t ∈ msgsU U) : ∃ y ∈ U, t ∈ y.2 := by
  unfold msgsU at h; exact List.mem_flatMap.1 h
theorem Weak.hollow : ∀ {U : List Lst} {rs : List HP}, Weak (fam listH U :: rs) (fam holH U :: fam msgH (msgsU U) :: rs)
  | [], rs => (Weak.drop (Weak.refl _)).trans (Weak.famNil.trans (Weak.keep Weak.famNil)) |>.trans (Weak.refl _)
  | x :: U, rs => by
    have h1 : Weak (fam listH (x :: U) :: rs) (listH x :: fam listH U :: rs) := (Weak.famPart (xs := [x]) (ys := U)).trans Weak.famThe
    have h2 : Weak (listH x :: fam listH U :: rs) (holH x :: fam msgH x.2 :: fam listH U :: rs) := Weak.unbundle (L := [holH x, fam msgH x.2])
    have h3 : Weak (holH x :: fam msgH x.2 :: fam listH U :: rs) (holH x :: fam msgH x.2 :: fam holH U :: fam msgH (msgsU U) :: rs) := Weak.keep (Weak.keep Weak.hollow)
    have h4 : Weak (holH x :: fam msgH x.2 :: fam holH U :: fam msgH (msgsU U) :: rs) (holH x :: fam holH U :: fam msgH x.2 :: fam msgH (msgsU U) :: rs) := Weak.keep Weak.swap
    have h5 : Weak (holH x :: fam holH U :: fam msgH x.2 :: fam msgH (msgsU U) :: rs) (fam holH (x :: U) :: fam msgH (msgsU (x :: U)) :: rs) := (Weak.famOne (x := x)).trans ((Weak.famJoin (xs := [x]) (ys := U)).trans (Weak.keep (Weak.famJoin (xs := x.2) (ys := msgsU U))))
    exact h1.trans (h2.trans (h3.trans (h4.trans h5)))
section
variable {C : Cx} {F : Fx} {rs : List HP}
theorem Sn.rd1 {b i : Nat} {cs : List Value} {v : Value} (s : Sn C F rs (some ⟨b, 0, none⟩) cs) (hv : cs[i]? = some v) : Rd C F rs ⟨b, 0 + i * 1, none⟩ v := fun w n => (s.rw_ w n).at' hv
end
structure Bk where
  L : List Lst
  W : List Lst
  T : List Txt
  V : List Txt
  vL : Value
  vW : Value
  vT : Value
  vV : Value
/-- o lists of l are marked. -/
def Bk.ok (o l : Nat) (x : Bk) : Prop := x.L.length = l ∧ x.W.length = l ∧ o ≤ l ∧ (∀ j y, j < o → x.L[j]? = some y → ∀ z ∈ y.2, z.2 = mkB j) ∧ (∀ j y z, o ≤ j → x.L[j]? = some y → x.W[j]? = some z → y.2.map (fun t : Txt => t.2) = z.2.map (fun t : Txt => t.2) ∧ ∀ t ∈ y.2, TxOK t.2)
  ∧ (∀ y ∈ x.L, y.2.length ≤ 1048576) ∧ x.T.map (fun t : Txt => t.2) = x.V.map (fun t : Txt => t.2) ∧ (∀ t ∈ x.T, TxOK t.2) ∧ x.T.length ≤ 1048576 * o
def bkL (b o : Nat) (x : Bk) : List HP := [blk b [x.vL, x.vW, x.vT, x.vV, .int .i64 (o : Int), .int .i64 (x.T.length : Int)] 83, ownS 60 1 x.vL x.L.length (fsts x.L), ownS 60 1 x.vW x.W.length (fsts x.W), ownS 24 1 x.vT x.T.length (fsts x.T), ownS 24 1 x.vV x.V.length (fsts x.V), fam listH x.L, fam listH x.W, fam msgH x.T, fam msgH x.V]
def BOOK (b o l : Nat) : HP := ExP (Bk.ok o l) fun x => bundle (bkL b o x)
theorem book_close {b o l : Nat} {rs : List HP} (x : Bk) (h : x.ok o l) : Weak (bkL b o x ++ rs) (BOOK b o l :: rs) := Weak.bundle.trans (Weak.toEx (p := Bk.ok o l) (s := fun x => bundle (bkL b o x)) x h)
theorem snoc_at {α : Type} {l : List α} {x y : α} {j : Nat} (h : (l ++ [x])[j]? = some y) : l[j]? = some y ∨ (j = l.length ∧ y = x) := by
  by_cases hj : j < l.length
  · rw [List.getElem?_append_left hj] at h; exact .inl h
  · rw [List.getElem?_append_right (by omega)] at h
    have h2 := (List.getElem?_eq_some_iff.1 h).1
    simp only [List.length_singleton] at h2
    have h3 : j - l.length = 0 := by omega
    rw [h3] at h
    exact .inr ⟨by omega, by simpa using h.symm⟩
theorem Bk.ok.take {o l : Nat} {L W : List Lst} {T V : List Txt} {vL vW vT vV vL' vW' : Value} (h : Bk.ok o l ⟨L, W, T, V, vL, vW, vT, vV⟩) {y z : Lst} (hyz : y.2.map (fun t : Txt => t.2) = z.2.map (fun t : Txt => t.2)) (hy : ∀ t ∈ y.2, TxOK t.2) (hl : y.2.length ≤ 1048576) : Bk.ok o (l + 1) ⟨L ++ [y], W ++ [z], T, V, vL', vW', vT, vV⟩ := by
  obtain ⟨h1, h2, h3, h4, h5, h6, h7, h8, h9⟩ := h
  dsimp only at h1 h2 h4 h5 h6 h7 h8 h9
  refine ⟨by show (L ++ [y]).length = _; rw [List.length_append, h1]; rfl, by show (W ++ [z]).length = _; rw [List.length_append, h2]; rfl, by omega, ?_, ?_, ?_, h7, h8, h9⟩
  · intro j u hj hu
    rcases snoc_at hu with hu | ⟨e, _⟩
    · exact h4 j u hj hu
    · omega
  · intro j u v hj hu hv
    rcases snoc_at hu with hu | ⟨e, rfl⟩
    · rcases snoc_at hv with hv | ⟨e, _⟩
      · exact h5 j u v hj hu hv
      · have := (List.getElem?_eq_some_iff.1 hu).1; omega
    · rcases snoc_at hv with hv | ⟨_, rfl⟩
      · have := (List.getElem?_eq_some_iff.1 hv).1; omega
      · exact ⟨hyz, hy⟩
  · intro u hu
    rcases List.mem_append.1 hu with hu | hu
    · exact h6 u hu
    · simp only [List.mem_singleton] at hu; subst hu; exact hl
theorem take_ok {gl : Nat → Obj} (b n m : Nat) (vL vW a2 a3 a4 a5 xb_ xw : Value) (cs ds : List Value) (hx : xb_.oneCell' = true) (hw : xw.oneCell' = true) (ht1 : ∃ b n c, xb_ = .slice b n c) (ht2 : ∃ b n c, xw = .slice b n c) (hn : n ≤ 1000000000) (hm : m ≤ 1000000000) : Spec (cx gl) 55 [.pointer (some ⟨b, 0, none⟩), xb_, xw] (fun _ _ => True) [blk b [vL, vW, a2, a3, a4, a5] 83, ownS 60 1 (vL) n (cs), ownS 60 1 (vW) m (ds)] (fun v rs => ∃ vL' vW', v = .tuple #[] ∧ rs = [blk b [vL', vW', a2, a3, a4, a5] 83, ownS 60 1 (vL') (n + 1) (cs ++ [xb_]), ownS 60 1 (vW') (m + 1) (ds ++ [xw])]) := by
  refine Spec.enter (C := cx gl) Tryd.func55 rfl 26 rfl rfl fun w0 h0 hsep hsub hpre => ?_
  show St (cx gl) _ [(0, .pointer (some ⟨b, 0, none⟩)), (1, xb_), (2, xw)] _ _
  refine St.ownForm (p := [_]) fun lb lc hlb_ hlc => ?_
  subst hlb_
  refine St.ownForm (p := [_, _]) fun wb wc hwb_ hwc => ?_
  subst hwb_
  refine R_seq ?_
  refine R_region ?_
  refine L_val rfl rfl rfl (OpP.v (P_move rfl rfl)) ?_
  refine L_val rfl rfl rfl (OpP.v (P_move rfl rfl)) ?_
  refine L_val rfl rfl rfl (OpP.v (P_nil rfl rfl)) ?_
  refine L_val rfl rfl rfl (OpP.v (P_fld0 rfl ty_fl_83_0 rfl)) ?_
  refine L_val rfl rfl rfl (V_load rfl rfl ty_sc_81 (Rd.blk .h0 rfl)) ?_
  refine L_val rfl rfl rfl (OpP.v (P_move rfl rfl)) ?_
  refine L_op rfl (W_lit (z := .nilIface) ([xb_]) rfl rfl rfl ty_sl_81 ty_lz_81 rfl rfl rfl (by decide) (by decide) (by obtain ⟨b1, n1, c1, e⟩ := ht1; subst e; simp [Value.cells]) (by obtain ⟨b1, n1, c1, e⟩ := ht1; subst e; rfl) fun b12 => ?_)
  refine L_op rfl (W_append (p := [_, _]) rfl rfl rfl ty_sl_81 ty_ap_81 ty_src_81 rfl rfl rfl (Src.slice (sz := 1) (news := [xb_]) (Rds.blk .h0) rfl (by intro v hv; simp only [List.mem_singleton] at hv; subst hv; exact hx)) (by omega) (by simp only [maxLen]; omega) fun v13 => ?_)
  refine St.ownForm (p := [_, _]) fun nb nc hnb_ hnc => ?_
  subst hnb_
  refine L_val rfl rfl rfl (OpP.v (P_nil rfl rfl)) ?_
  refine L_val rfl rfl rfl (OpP.v (P_fld0 rfl ty_fl_83_0 rfl)) ?_
  refine L_op rfl (W_store rfl rfl rfl rfl ty_sc_81 rfl .h1 (by first | decide | (simp [ints]; done) | (simp [ints]; omega)) ?_)
  refine L_nil ?_
  refine St.env (.cons (t := 0) rfl (.cons (t := 2) rfl .nil)) ?_
  refine Q_then ?_
  refine St.res (rs' := [blk b [.slice nb (n + 1) nc, .slice wb m wc, a2, a3, a4, a5] 83, ownS 60 1 (.slice nb (n + 1) nc) (n + 1) (cs ++ [xb_]), ownS 60 1 (.slice wb m wc) m (ds)]) (Weak.drop (Weak.refl _)) ?_
  refine R_region ?_
  refine L_val rfl rfl rfl (OpP.v (P_move rfl rfl)) ?_
  refine L_val rfl rfl rfl (OpP.v (P_move rfl rfl)) ?_
  refine L_val rfl rfl rfl (OpP.v (P_nil rfl rfl)) ?_
  refine L_val rfl rfl rfl (OpP.v (P_fld0 rfl ty_fl_83_1 rfl)) ?_
  refine L_val rfl rfl rfl (V_load rfl rfl ty_sc_81 (Rd.blk .h0 rfl)) ?_
  refine L_val rfl rfl rfl (OpP.v (P_move rfl rfl)) ?_
  refine L_op rfl (W_lit (z := .nilIface) ([xw]) rfl rfl rfl ty_sl_81 ty_lz_81 rfl rfl rfl (by decide) (by decide) (by obtain ⟨b1, n1, c1, e⟩ := ht2; subst e; simp [Value.cells]) (by obtain ⟨b1, n1, c1, e⟩ := ht2; subst e; rfl) fun b22 => ?_)
  refine L_op rfl (W_append (p := [_, _, _]) rfl rfl rfl ty_sl_81 ty_ap_81 ty_src_81 rfl rfl rfl (Src.slice (sz := 1) (news := [xw]) (Rds.blk .h0) rfl (by intro v hv; simp only [List.mem_singleton] at hv; subst hv; exact hw)) (by omega) (by simp only [maxLen]; omega) fun v23 => ?_)
  refine St.ownForm (p := [_, _, _]) fun mb mc hmb_ hmc => ?_
  subst hmb_
  refine L_val rfl rfl rfl (OpP.v (P_nil rfl rfl)) ?_
  refine L_val rfl rfl rfl (OpP.v (P_fld0 rfl ty_fl_83_1 rfl)) ?_
  refine L_op rfl (W_store rfl rfl rfl rfl ty_sc_81 rfl .h1 (by first | decide | (simp [ints]; done) | (simp [ints]; omega)) ?_)
  refine L_nil ?_
  refine St.env (.nil) ?_
  exact R_end0 (rs2 := _) rfl rfl (.nil) (⟨_, _, rfl, rfl⟩) (Weak.drop (Weak.refl _))
theorem right_ok {gl : Nat → Obj} (b o l : Nat) (hl_ : l ≤ 1000000000) : SpecR (cx gl) 34 [.pointer (some ⟨b, 0, none⟩)] (fun _ _ => True) [BOOK b o l] (.bool true) [BOOK b o l] := by
  refine Spec.enter (C := cx gl) Tryd.func34 rfl 33 rfl rfl fun w0 h0 hsep hsub hpre => ?_
  show St (cx gl) _ [(0, .pointer (some ⟨b, 0, none⟩))] _ _
  refine St.openP (p := []) (fun ⟨L, W, T, V, vL, vW, vT, vV⟩ hok => ?_)
  refine St.unbundle [] ?_
  refine St.res (rs' := [blk b [vL, vW, vT, vV, .int .i64 (o : Int), .int .i64 (T.length : Int)] 83, ownS 60 1 (vL) L.length (fsts L), ownS 60 1 (vW) W.length (fsts W), ownS 24 1 (vT) T.length (fsts T), ownS 24 1 (vV) V.length (fsts V), fam listH L, fam listH W, fam msgH T, fam msgH V]) (Weak.refl _) ?_
  have hok_ := hok
  obtain ⟨hL, hW, hol, hmk, hun, hle, hTV, hTok, hTle⟩ := hok
  dsimp only at hL hW hmk hun hle hTV hTok hTle
  refine St.ownForm (p := [_]) fun lb lc hlb_ hlc => ?_
  subst hlb_
  refine St.ownForm (p := [_, _]) fun wb wc hwb_ hwc => ?_
  subst hwb_
  refine R_seq ?_
  refine R_region ?_
  refine L_val rfl rfl rfl (OpP.v (P_assign rfl rfl)) ?_
  refine L_nil ?_
  refine Q_then ?_
  refine R_seq ?_
  refine R_seq ?_
  refine R_region ?_
  refine L_val rfl rfl rfl (OpP.v (P_move rfl rfl)) ?_
  refine L_val rfl rfl rfl (OpP.v (P_nil rfl rfl)) ?_
  refine L_val rfl rfl rfl (OpP.v (P_fld0 rfl ty_fl_83_4 rfl)) ?_
  refine L_val rfl rfl rfl (V_load rfl rfl ty_sc_3 (Rd.blk .h0 rfl)) ?_
  refine L_val rfl rfl rfl (OpP.v (P_assign rfl rfl)) ?_
  refine L_nil ?_
  refine St.env (.cons (t := 0) rfl (.cons (t := 2) rfl (.cons (t := 3) rfl .nil))) ?_
  refine Q_then ?_
  refine R_block ?_
  refine R_loopE (G := Nat) (.cons (t := 0) rfl (.cons (t := 2) rfl .nil)) (fun g => [(3, .int .i64 (g : Int))]) (fun g => [blk b [.slice lb L.length lc, .slice wb W.length wc, vT, vV, .int .i64 (o : Int), .int .i64 (T.length : Int)] 83, ownS 60 1 (.slice lb L.length lc) L.length (fsts L), ownS 60 1 (.slice wb W.length wc) W.length (fsts W), ownS 24 1 (vT) T.length (fsts T), ownS 24 1 (vV) V.length (fsts V), fam listH L, fam listH W, fam msgH T, fam msgH V]) (fun g => o ≤ g ∧ g ≤ l) (fun g => l - g) (o) (⟨Nat.le_refl _, hol⟩) (by repeat (first | exact .nil | refine .cons rfl ?_ | refine .consE rfl (by first | rfl | (congr 1; omega) | (congr 1; push_cast; omega)) ?_)) (Weak.refl _) ?_
  intro i hinv
  replace hinv : o ≤ i ∧ i ≤ l := hinv
  show St (cx gl) _ ((3, .int .i64 (i : Int)) :: _) [blk b [.slice lb L.length lc, .slice wb W.length wc, vT, vV, .int .i64 (o : Int), .int .i64 (T.length : Int)] 83, ownS 60 1 (.slice lb L.length lc) L.length (fsts L), ownS 60 1 (.slice wb W.length wc) W.length (fsts W), ownS 24 1 (vT) T.length (fsts T), ownS 24 1 (vV) V.length (fsts V), fam listH L, fam listH W, fam msgH T, fam msgH V] _
  obtain ⟨hoi, hi⟩ := hinv
  refine R_seq ?_
  refine R_seq ?_
  refine R_region ?_
  refine L_val rfl rfl rfl (OpP.v (P_move rfl rfl)) ?_
  refine L_val rfl rfl rfl (OpP.v (P_move rfl rfl)) ?_
  refine L_val rfl rfl rfl (OpP.v (P_nil rfl rfl)) ?_
  refine L_val rfl rfl rfl (OpP.v (P_fld0 rfl ty_fl_83_0 rfl)) ?_
  refine L_val rfl rfl rfl (V_load rfl rfl ty_sc_81 (Rd.blk .h0 rfl)) ?_
  refine L_val rfl rfl rfl (OpP.v (P_len rfl ty_sl_81 rfl)) ?_
  refine L_val rfl rfl rfl (OpP.v (P_lss rfl rfl rfl)) ?_
  refine L_nil ?_
  refine Q_then ?_
  refine R_condP rfl (fun hlt0 => ?_) (fun hlt0 => ?_)
  · skip
    have hlt : i < l := by omega
    refine St.ownSome (p := [_]) (by omega) fun lbb lbb_ hq _ => ?_
    simp only [Value.slice.injEq] at hq
    obtain ⟨rfl, _, rfl⟩ := hq
    refine St.ownSome (p := [_, _]) (by omega) fun wbb wbb_ hq _ => ?_
    simp only [Value.slice.injEq] at hq
    obtain ⟨rfl, _, rfl⟩ := hq
    obtain ⟨⟨xv, ws⟩, hx⟩ : ∃ y, L[i]? = some y := ⟨_, List.getElem?_eq_getElem (by omega)⟩
    obtain ⟨⟨yv, wt⟩, hy⟩ : ∃ y, W[i]? = some y := ⟨_, List.getElem?_eq_getElem (by omega)⟩
    refine St.res (rs' := [ownS 24 1 xv ws.length (fsts ws), fam msgH ws, fam listH (L.take i), fam listH (L.drop (i + 1)), blk b [.slice (some ⟨lbb, 0, none⟩) L.length lc, .slice (some ⟨wbb, 0, none⟩) W.length wc, vT, vV, .int .i64 (o : Int), .int .i64 (T.length : Int)] 83, ownS 60 1 (.slice (some ⟨lbb, 0, none⟩) L.length lc) L.length (fsts L), ownS 60 1 (.slice (some ⟨wbb, 0, none⟩) W.length wc) W.length (fsts W), ownS 24 1 (vT) T.length (fsts T), ownS 24 1 (vV) V.length (fsts V), fam listH W, fam msgH T, fam msgH V]) ((Weak.pick (p := [_, _, _, _, _]) (Weak.keep (Weak.keep (Weak.keep (Weak.keep (Weak.keep (Weak.keep (Weak.keep (Weak.keep (Weak.nil _)))))))))).trans ((Weak.famOpen (f := listH) hx).trans (Weak.unbundle (L := [ownS 24 1 xv ws.length (fsts ws), fam msgH ws]) (rs := [fam listH (L.take i), fam listH (L.drop (i + 1)), blk b [.slice (some ⟨lbb, 0, none⟩) L.length lc, .slice (some ⟨wbb, 0, none⟩) W.length wc, vT, vV, .int .i64 (o : Int), .int .i64 (T.length : Int)] 83, ownS 60 1 (.slice (some ⟨lbb, 0, none⟩) L.length lc) L.length (fsts L), ownS 60 1 (.slice (some ⟨wbb, 0, none⟩) W.length wc) W.length (fsts W), ownS 24 1 (vT) T.length (fsts T), ownS 24 1 (vV) V.length (fsts V), fam listH W, fam msgH T, fam msgH V])))) ?_
    refine St.res (rs' := [ownS 24 1 yv wt.length (fsts wt), fam msgH wt, fam listH (W.take i), fam listH (W.drop (i + 1)), ownS 24 1 xv ws.length (fsts ws), fam msgH ws, fam listH (L.take i), fam listH (L.drop (i + 1)), blk b [.slice (some ⟨lbb, 0, none⟩) L.length lc, .slice (some ⟨wbb, 0, none⟩) W.length wc, vT, vV, .int .i64 (o : Int), .int .i64 (T.length : Int)] 83, ownS 60 1 (.slice (some ⟨lbb, 0, none⟩) L.length lc) L.length (fsts L), ownS 60 1 (.slice (some ⟨wbb, 0, none⟩) W.length wc) W.length (fsts W), ownS 24 1 (vT) T.length (fsts T), ownS 24 1 (vV) V.length (fsts V), fam msgH T, fam msgH V]) ((Weak.pick (p := [_, _, _, _, _, _, _, _, _]) (Weak.keep (Weak.keep (Weak.keep (Weak.keep (Weak.keep (Weak.keep (Weak.keep (Weak.keep (Weak.keep (Weak.keep (Weak.keep (Weak.nil _))))))))))))).trans ((Weak.famOpen (f := listH) hy).trans (Weak.unbundle (L := [ownS 24 1 yv wt.length (fsts wt), fam msgH wt]) (rs := [fam listH (W.take i), fam listH (W.drop (i + 1)), ownS 24 1 xv ws.length (fsts ws), fam msgH ws, fam listH (L.take i), fam listH (L.drop (i + 1)), blk b [.slice (some ⟨lbb, 0, none⟩) L.length lc, .slice (some ⟨wbb, 0, none⟩) W.length wc, vT, vV, .int .i64 (o : Int), .int .i64 (T.length : Int)] 83, ownS 60 1 (.slice (some ⟨lbb, 0, none⟩) L.length lc) L.length (fsts L), ownS 60 1 (.slice (some ⟨wbb, 0, none⟩) W.length wc) W.length (fsts W), ownS 24 1 (vT) T.length (fsts T), ownS 24 1 (vV) V.length (fsts V), fam msgH T, fam msgH V])))) ?_
    refine St.ownForm (p := [_, _, _, _]) fun xb xc hxb_ hxc => ?_
    subst hxb_
    refine St.ownForm (p := []) fun yb yc hyb_ hyc => ?_
    subst hyb_
    refine St.res (rs' := [ownS 24 1 (.slice yb wt.length yc) wt.length (fsts wt), fam msgH wt, fam listH (W.take i), fam listH (W.drop (i + 1)), ownS 24 1 (.slice xb ws.length xc) ws.length (fsts ws), fam msgH ws, fam listH (L.take i), fam listH (L.drop (i + 1)), blk b [.slice (some ⟨lbb, 0, none⟩) L.length lc, .slice (some ⟨wbb, 0, none⟩) W.length wc, vT, vV, .int .i64 (o : Int), .int .i64 (T.length : Int)] 83, ownS 60 1 (.slice (some ⟨lbb, 0, none⟩) L.length lc) L.length (fsts L), ownS 60 1 (.slice (some ⟨wbb, 0, none⟩) W.length wc) W.length (fsts W), ownS 24 1 (vT) T.length (fsts T), ownS 24 1 (vV) V.length (fsts V), fam msgH T, fam msgH V]) (Weak.refl _) ?_
    have hun1 := hun i _ _ hoi hx hy
    have hx_ := hle _ (List.mem_of_getElem? hx)
    dsimp only at hun1 hx_
    have hxy : ws.length = wt.length := by have h := congrArg List.length hun1.1; rwa [List.length_map, List.length_map] at h
    have hsame := same_ok (gl := gl) xb xc (fsts ws) (ws.map fun t : Txt => t.2) (by rw [fsts_length, List.length_map]) (by rw [fsts_length]; omega) (fun x hx => by obtain ⟨t, ht, rfl⟩ := List.mem_map.1 hx; exact (hun1.2 t ht).1) yb yc (fsts wt) (wt.map fun t : Txt => t.2) (by rw [fsts_length, List.length_map]) (by rw [fsts_length]; omega) (fun x hx => by rw [← hun1.1] at hx; obtain ⟨t, ht, rfl⟩ := List.mem_map.1 hx; exact (hun1.2 t ht).1)
    rw [fsts_length, fsts_length] at hsame
    refine R_skip ?_
    refine Q_then ?_
    refine R_seq ?_
    refine R_block ?_
    refine R_seq ?_
    refine R_open [(0, 0), (1, 0), (2, 0), (3, 1), (4, 0), (5, 0), (6, 1), (7, 0), (8, 0), (9, 0), (10, 1), (11, 0), (12, 0), (13, 1), (14, 2), (15, 0)] mixed (by kernel_rfl) (QOk.then (QOk.block (QOk.then (QOk.then (QOk.block (QOk.then QOk.body)))))) ?_
    refine O_pure rfl rfl rfl rfl (P_move rfl rfl) ?_
    refine O_pure rfl rfl rfl rfl (P_nil rfl rfl) ?_
    refine O_pure rfl rfl rfl rfl (P_fld0 rfl ty_fl_83_0 rfl) ?_
    refine O_val rfl rfl rfl rfl (V_load rfl rfl ty_sc_81 (Rd.blk .h8 rfl)) ?_
    refine O_pure rfl rfl rfl rfl (P_move rfl rfl) ?_
    refine O_pure rfl rfl rfl rfl (P_ixs (i) rfl ty_sl_81 rfl rfl (by first | rfl | omega) (by omega)) ?_
    refine O_val rfl rfl rfl rfl (V_load rfl rfl ty_sc_60 (rd_own1 .h9 (fsts_at hx))) ?_
    refine O_pure rfl rfl rfl rfl (P_move rfl rfl) ?_
    refine O_pure rfl rfl rfl rfl (P_nil rfl rfl) ?_
    refine O_pure rfl rfl rfl rfl (P_fld0 rfl ty_fl_83_1 rfl) ?_
    refine O_val rfl rfl rfl rfl (V_load rfl rfl ty_sc_81 (Rd.blk .h8 rfl)) ?_
    refine O_pure rfl rfl rfl rfl (P_move rfl rfl) ?_
    refine O_pure rfl rfl rfl rfl (P_ixs (i) rfl ty_sl_81 rfl rfl (by first | rfl | omega) (by omega)) ?_
    refine O_val rfl rfl rfl rfl (V_load rfl rfl ty_sc_60 (rd_own1 (Has.cons .h9) (fsts_at hy))) ?_
    refine O_keep rfl rfl (W_callV rfl rfl rfl rfl fn_ca_28 (hsame) (fun w nw => ⟨ItemsM.own .h4 .h5 w nw, ItemsM.own .h0 .h1 w nw⟩) (K_keep (Weak.refl _) ?_))
    refine E_true (t := 31) rfl (decide_eq_true hun1.1) ?_
    refine O_pure rfl rfl rfl rfl (P_not rfl rfl) ?_
    refine O_nil ?_
    refine Q_then ?_
    refine R_condF rfl ?_
    refine R_skip ?_
    refine Q_block ?_
    refine Q_then ?_
    refine R_region ?_
    refine L_val rfl rfl rfl (OpP.v (P_move rfl rfl)) ?_
    first | (refine L_val rfl rfl rfl (OpP.v (P_addN rfl rfl rfl (by simp only [fits]; omega))) ?_) | (refine L_val rfl rfl rfl (OpP.v (P_add rfl rfl rfl)) ?_)
    refine L_val rfl rfl rfl (OpP.v (P_assign rfl rfl)) ?_
    refine L_nil ?_
    exact Q_round (i + 1) (by show o ≤ (i + 1) ∧ (i + 1) ≤ l; omega) (by show l - (i + 1) < l - i; omega) (by repeat (first | exact .nil | refine .cons rfl ?_ | refine .consE rfl (by first | rfl | (congr 1; omega) | (congr 1; push_cast; omega)) ?_)) ((Weak.bundle (L := [ownS 24 1 (.slice yb wt.length yc) wt.length (fsts wt), fam msgH wt]) (rs := [fam listH (W.take i), fam listH (W.drop (i + 1)), ownS 24 1 (.slice xb ws.length xc) ws.length (fsts ws), fam msgH ws, fam listH (L.take i), fam listH (L.drop (i + 1)), blk b [.slice (some ⟨lbb, 0, none⟩) L.length lc, .slice (some ⟨wbb, 0, none⟩) W.length wc, vT, vV, .int .i64 (o : Int), .int .i64 (T.length : Int)] 83, ownS 60 1 (.slice (some ⟨lbb, 0, none⟩) L.length lc) L.length (fsts L), ownS 60 1 (.slice (some ⟨wbb, 0, none⟩) W.length wc) W.length (fsts W), ownS 24 1 (vT) T.length (fsts T), ownS 24 1 (vV) V.length (fsts V), fam msgH T, fam msgH V])).trans ((Weak.famShut (f := listH) hy).trans ((Weak.pick (p := [_]) (Weak.pick (p := [_]) (Weak.pick (p := [_]) (Weak.pick (p := [_]) (Weak.keep (Weak.keep (Weak.keep (Weak.keep (Weak.keep (Weak.keep (Weak.keep (Weak.keep (Weak.nil _))))))))))))).trans ((Weak.bundle (L := [ownS 24 1 (.slice xb ws.length xc) ws.length (fsts ws), fam msgH ws]) (rs := [fam listH (L.take i), fam listH (L.drop (i + 1)), fam listH W, blk b [.slice (some ⟨lbb, 0, none⟩) L.length lc, .slice (some ⟨wbb, 0, none⟩) W.length wc, vT, vV, .int .i64 (o : Int), .int .i64 (T.length : Int)] 83, ownS 60 1 (.slice (some ⟨lbb, 0, none⟩) L.length lc) L.length (fsts L), ownS 60 1 (.slice (some ⟨wbb, 0, none⟩) W.length wc) W.length (fsts W), ownS 24 1 (vT) T.length (fsts T), ownS 24 1 (vV) V.length (fsts V), fam msgH T, fam msgH V])).trans ((Weak.famShut (f := listH) hx).trans (Weak.pick (p := [_, _]) (Weak.pick (p := [_, _]) (Weak.pick (p := [_, _]) (Weak.pick (p := [_, _]) (Weak.pick (p := [_, _]) (Weak.keep (Weak.keep (Weak.keep (Weak.keep (Weak.nil _)))))))))))))))
  · skip
    obtain rfl : i = l := by omega
    refine R_exit ?_
    refine Q_then_exit ?_
    refine Q_then_exit ?_
    refine Q_block_eq ?_
    refine St.env (.cons (t := 2) rfl .nil) ?_
    refine Q_then ?_
    refine R_seq ?_
    refine R_region ?_
    refine L_val rfl rfl rfl (OpP.v (P_assign rfl rfl)) ?_
    refine L_nil ?_
    refine Q_then ?_
    refine R_ret ?_
    exact R_end (rs2 := [BOOK b o i]) rfl rfl (.tmp rfl .nil) (⟨rfl, rfl⟩) (book_close (rs := []) ⟨L, W, T, V, .slice lb L.length lc, .slice wb W.length wc, vT, vV⟩ hok_)
end Go.Proofs.YtnaadddnbfnahaaDoor
