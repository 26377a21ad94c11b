/- What the laws over scripts share. Printed by gen.py. -/
import Derived.Test.YtnaadddnbfnahaaDoorT2
set_option linter.unusedVariables false
set_option linter.unusedSimpArgs false
set_option maxRecDepth 100000
namespace Go.Proofs.YtnaadddnbfnahaaDoor
open Go Go.RowKit Go.Proofs
/-- A text is written over another one's head. -/
def overT (ys l : List Int) : List Int := ys ++ l.drop ys.length
theorem splice_over {ys l : List Int} (h : ys.length ≤ l.length) : splice (ints .u8 l) 0 (ints .u8 ys) = ints .u8 (overT ys l) := by
  unfold splice overT
  simp [ints]
theorem made_zeros (n : Nat) : madeL [.int .u8 0] (n * 1) = ints .u8 (List.replicate n 0) := by
  rw [Nat.mul_one, show [Value.int .u8 0] = List.replicate 1 (Value.int .u8 0) from rfl, madeL_rep 1 n _ (by omega)]
  simp [ints]
theorem xorP_get {k : Int} {l : List Int} {i n : Nat} (h : i < n) (hl : l.length = n) : (ints .u8 (xorP k l i))[i]? = some (.int .u8 (l.getD i 0)) := by
  unfold ints
  rw [List.getElem?_map, xorP_at k (by omega), List.getD_eq_getElem?_getD, List.getElem?_eq_getElem (by omega)]
  rfl
theorem xorP_set {k : Int} {l : List Int} {i n : Nat} (h : i < n) (hl : l.length = n) : (ints .u8 (xorP k l i)).set i (.int .u8 (xorB k (l.getD i 0))) = ints .u8 (xorP k l (i + 1)) := by
  have e : l.getD i 0 = l[i]'(by omega) := by rw [List.getD_eq_getElem?_getD, List.getElem?_eq_getElem (by omega)]; rfl
  unfold ints
  rw [← xorP_next k (by omega), e, List.map_set]
/-- x brought into 0 .. n - 1. -/
def aroundI (x n : Int) : Int := if n < 1 then 0 else (if x.tmod n < 0 then x.tmod n + n else x.tmod n)
theorem aroundI_bound {x n : Int} (h : 1 ≤ n) : 0 ≤ aroundI x n ∧ aroundI x n < n := by
  unfold aroundI
  have h1 : ¬ n < 1 := by omega
  rw [if_neg h1]
  have h2 := Int.tmod_lt_of_pos x (show 0 < n by omega)
  have h3 : -n < x.tmod n := by
    have := Int.lt_tmod_of_pos x (show 0 < n by omega)
    omega
  split <;> omega
/-- The message of a call. -/
def opMsg (xs : List Int) (lg : Bool) : List Int := if lg then xs.take (1048575 + xs.length % 3) ++ List.replicate (1048575 + xs.length % 3 - xs.length) 0 else xs
theorem opMsg_long (xs : List Int) : (opMsg xs true).length = 1048575 + xs.length % 3 := by simp [opMsg]; omega
theorem isB_opMsg {xs : List Int} (h : IsB xs) (lg : Bool) : IsB (opMsg xs lg) := fun x hx => by
  cases lg with
  | false => exact h x hx
  | true =>
    rcases List.mem_append.1 hx with hx | hx
    · exact h x (List.mem_of_mem_take hx)
    · rw [(List.mem_replicate.1 hx).2]; omega
theorem opMsg_le {xs : List Int} (h : xs.length ≤ 140737488351232) (lg : Bool) : (opMsg xs lg).length ≤ 140737488351232 := by
  cases lg with
  | false => exact h
  | true => rw [opMsg_long]; omega
theorem splice_take (xs : List Int) (N : Nat) : splice (ints .u8 (List.replicate N 0)) 0 (ints .u8 (xs.take (Nat.min xs.length N))) = ints .u8 (xs.take N ++ List.replicate (N - xs.length) 0) := by
  have hN : Nat.min xs.length N = min xs.length N := rfl
  have e : xs.take (min xs.length N) = xs.take N := by
    rcases Nat.le_total xs.length N with h | h
    · rw [Nat.min_eq_left h, List.take_length, List.take_of_length_le h]
    · rw [Nat.min_eq_right h]
  rw [hN, e, splice_over (by simp; omega)]
  unfold overT
  congr 1
  congr 1
  rw [List.drop_replicate, List.length_take]
  congr 1; omega
/-- A list of texts. -/
def ItemsM (w : World) (base : Option Addr) (vs : List Value) (xss : List (List Int)) : Prop := Row w base vs ∧ vs.length = xss.length ∧ ∀ (i : Nat) (v : Value) (x : List Int), vs[i]? = some v → xss[i]? = some x → ∃ b c, v = .slice b x.length c ∧ Row w b (ints .u8 x)
theorem left_at (xs : List Int) : (ints .u8 (xs ++ [201, 202, 203]))[xs.length]? = some (.int .u8 201) ∧ (ints .u8 (xs ++ [201, 202, 203]))[xs.length + 1]? = some (.int .u8 202) ∧ (ints .u8 (xs ++ [201, 202, 203]))[xs.length + 2]? = some (.int .u8 203) := by
  refine ⟨?_, ?_, ?_⟩ <;> simp [ints]
section
variable {C : Cx} {F : Fx} {rs : List HP}
theorem ItemsM.old {base : Option Addr} {vs : List Value} {xss : List (List Int)} (h : ItemsM F.w base vs xss) (hf : F.h = Heap.none) : ∀ w, Now C F rs w → ItemsM w base vs xss := fun w n => by
  refine ⟨(Sn.row h.1 hf).rw_ w n, h.2.1, fun i v x hv hx => ?_⟩
  obtain ⟨b, c, e, r⟩ := h.2.2 i v x hv hx
  exact ⟨b, c, e, (Sn.row r hf).rw_ w n⟩
theorem ItemsM.own {T n c : Nat} {base : Option Addr} {ws : List (Value × List Int)} (m1 : Has rs (ownS T 1 (.slice base n c) n (ws.map (·.1))) (ownS T 1 (.slice base n c) n (ws.map (·.1))) rs) (m2 : Has rs (fam msgH ws) (fam msgH ws) rs) : ∀ w, Now C F rs w → ItemsM w base (ws.map (·.1)) (ws.map (·.2)) := fun w n => by
  refine ⟨(Sn.own m1 rfl).rw_ w n, by simp, fun i v x hv hx => ?_⟩
  rw [List.getElem?_map] at hv hx
  obtain ⟨y, hy, rfl⟩ := Option.map_eq_some_iff.1 hv
  rw [hy, Option.map_some, Option.some.injEq] at hx
  subst hx
  have hform : ∃ b c, y.1 = .slice b y.2.length c := by
    obtain ⟨a, ha, _⟩ := n.has m2
    have ha : Sep (ws.map msgH) a := ha
    rw [list_split hy, List.map_append, List.map_append] at ha
    obtain ⟨a1, a2, h1, h2, _, _⟩ := Sep.append.1 ha
    obtain ⟨a3, a4, h3, h4, _, _⟩ := Sep.append.1 h2
    obtain ⟨b, c, e, _⟩ := ownS.form (Sep.single.1 h3)
    exact ⟨b, c, e⟩
  obtain ⟨b, c, e⟩ := hform
  exact ⟨b, c, e, (Sn.fam m2 hy fun rs m => Sn.own m e).rw_ w n⟩
end
def opC (kd wh at_ a : Int) (base : Option Addr) (n c : Nat) (sl : List Int) (tw : Int) (lg : Bool) : List Value := [.int .i64 kd, .int .i64 wh, .int .i64 at_, .int .u64 a, .slice base n c] ++ (ints .u8 sl ++ [.int .i64 tw, .bool lg])
theorem around_ok {gl : Nat → Obj} (x n : Int) (h1 : 1 ≤ n) (h2 : n ≤ 4398046511104) : SpecV (cx gl) 26 [.int .i64 x, .int .i64 n] noPre (.int .i64 (aroundI x n)) := by
  refine Spec.enter (C := cx gl) Tryd.func26 rfl 17 rfl rfl fun w0 h0 hsep hsub hpre => ?_
  obtain rfl : h0 = Heap.none := hsep
  show St (cx gl) _ [(0, .int .i64 x), (1, .int .i64 n)] _ _
  have hn1 : ¬ n < 1 := by omega
  have hlt := Int.tmod_lt_of_pos x (show 0 < n by omega)
  have hgt := Int.lt_tmod_of_pos x (show 0 < n by omega)
  refine R_seq ?_
  refine R_region ?_
  refine L_val rfl rfl rfl (OpP.v (P_assign rfl rfl)) ?_
  refine L_nil ?_
  refine Q_then ?_
  refine R_seq ?_
  refine R_seq ?_
  refine R_region ?_
  refine L_val rfl rfl rfl (OpP.v (P_move rfl rfl)) ?_
  refine L_val rfl rfl rfl (OpP.v (P_lss rfl rfl rfl)) ?_
  refine E_false (t := 7) rfl (decide_eq_false hn1) ?_
  refine L_nil ?_
  refine St.env (.cons (t := 0) rfl (.cons (t := 1) rfl (.cons (t := 4) rfl (.cons (t := 7) rfl .nil)))) ?_
  refine Q_then ?_
  refine R_condF rfl ?_
  refine R_skip ?_
  refine Q_then ?_
  refine R_seq ?_
  refine R_region ?_
  refine L_val rfl rfl rfl (OpP.v (P_move rfl rfl)) ?_
  refine L_val rfl rfl rfl (OpP.v (P_move rfl rfl)) ?_
  refine L_val rfl rfl rfl (OpP.v (P_rem rfl rfl rfl (by omega))) ?_
  refine L_val rfl rfl rfl (OpP.v (P_assign rfl rfl)) ?_
  refine L_nil ?_
  refine St.env (.cons (t := 1) rfl (.cons (t := 4) rfl (.cons (t := 5) rfl .nil))) ?_
  refine Q_then ?_
  refine R_seq ?_
  refine R_seq ?_
  refine R_region ?_
  refine L_val rfl rfl rfl (OpP.v (P_move rfl rfl)) ?_
  refine L_val rfl rfl rfl (OpP.v (P_lss rfl rfl rfl)) ?_
  refine L_nil ?_
  refine St.env (.cons (t := 1) rfl (.cons (t := 4) rfl (.cons (t := 5) rfl (.cons (t := 12) rfl .nil)))) ?_
  refine Q_then ?_
  refine R_condP rfl (fun hy => ?_) (fun hy => ?_)
  · skip
    refine R_region ?_
    refine L_val rfl rfl rfl (OpP.v (P_move rfl rfl)) ?_
    refine L_val rfl rfl rfl (OpP.v (P_move rfl rfl)) ?_
    first | (refine L_val rfl rfl rfl (OpP.v (P_addN rfl rfl rfl (by simp only [fits]; omega))) ?_) | (refine L_val rfl rfl rfl (OpP.v (P_add rfl rfl rfl)) ?_)
    refine L_val rfl rfl rfl (OpP.v (P_assign rfl rfl)) ?_
    refine L_nil ?_
    refine St.env (.cons (t := 4) rfl (.cons (t := 5) rfl .nil)) ?_
    refine Q_then ?_
    refine R_seq ?_
    refine R_region ?_
    refine L_val rfl rfl rfl (OpP.v (P_move rfl rfl)) ?_
    refine L_val rfl rfl rfl (OpP.v (P_assign rfl rfl)) ?_
    refine L_nil ?_
    refine St.env (.cons (t := 4) rfl .nil) ?_
    refine Q_then ?_
    refine R_ret ?_
    exact R_endV rfl rfl (.tmp rfl .nil) (by show Value.int .i64 _ = Value.int .i64 _; unfold aroundI; rw [if_neg hn1]; first | rw [if_pos hy] | rw [if_neg hy])
  · skip
    refine R_skip ?_
    refine Q_then ?_
    refine R_seq ?_
    refine R_region ?_
    refine L_val rfl rfl rfl (OpP.v (P_move rfl rfl)) ?_
    refine L_val rfl rfl rfl (OpP.v (P_assign rfl rfl)) ?_
    refine L_nil ?_
    refine St.env (.cons (t := 4) rfl .nil) ?_
    refine Q_then ?_
    refine R_ret ?_
    exact R_endV rfl rfl (.tmp rfl .nil) (by show Value.int .i64 _ = Value.int .i64 _; unfold aroundI; rw [if_neg hn1]; first | rw [if_pos hy] | rw [if_neg hy])
theorem rem3 (n : Nat) : 1048575 + (n : Int).tmod 3 = ((1048575 + n % 3 : Nat) : Int) := by
  rw [Int.tmod_eq_emod_of_nonneg (by omega)]; omega
theorem rem3_fits (n : Nat) : fits .i64 (1048575 + (n : Int).tmod 3) := by
  rw [rem3]; simp only [fits]; omega
theorem message_ok {gl : Nat → Obj} (kd wh at_ a : Int) (base : Option Addr) (c : Nat) (xs sl : List Int) (tw : Int) (lg : Bool) (hsl : sl.length = 16) (hmax : xs.length ≤ 140737488351232) : Spec (cx gl) 63 [.agg (opC kd wh at_ a base xs.length c sl tw lg).toArray] (fun w _ => Row w base (ints .u8 xs)) [] (fun v rs => rs = [ownS 5 1 (v) ((opMsg xs lg).length) (ints .u8 (opMsg xs lg))]) := by
  refine Spec.enter (C := cx gl) Tryd.func63 rfl 23 rfl rfl fun w0 h0 hsep hsub hpre => ?_
  obtain rfl : h0 = Heap.none := hsep
  show St (cx gl) _ [(0, .agg (opC kd wh at_ a base xs.length c sl tw lg).toArray)] _ _
  refine R_seq ?_
  refine R_region ?_
  refine L_op rfl (W_box (opC kd wh at_ a base xs.length c sl tw lg) rfl rfl rfl rfl rfl fun b1 => ?_)
  refine L_val rfl rfl rfl (OpP.v (P_assign rfl rfl)) ?_
  refine L_nil ?_
  refine St.env (.cons (t := 1) rfl (.cons (t := 2) rfl .nil)) ?_
  refine Q_then ?_
  refine R_seq ?_
  refine R_region ?_
  refine L_val rfl rfl rfl (OpP.v (P_assign rfl rfl)) ?_
  refine L_nil ?_
  refine Q_then ?_
  refine R_seq ?_
  refine St.res (rs' := [ownS 5 1 (.slice none 0 0) (0) ([]), blk b1 (opC kd wh at_ a base xs.length c sl tw lg) 72]) (Weak.newNil) ?_
  refine R_region ?_
  refine L_val rfl rfl rfl (OpP.v (P_move rfl rfl)) ?_
  refine L_val rfl rfl rfl (OpP.v (P_fld0 rfl ty_fl_72_4 rfl)) ?_
  refine L_val rfl rfl rfl (V_load rfl rfl ty_sc_24 (Rd.blk .h1 rfl)) ?_
  refine L_op rfl (W_append (p := []) rfl rfl rfl ty_sl_24 ty_ap_24 ty_src_24 rfl rfl rfl (Src.row (Sn.row hpre rfl).rw_ (by rw [ints_length]; omega) ints_one) (by omega) (by simp only [maxLen]; omega) fun v8 => ?_)
  refine L_val rfl rfl rfl (OpP.v (P_assign rfl rfl)) ?_
  refine L_nil ?_
  refine St.env (.cons (t := 1) rfl (.cons (t := 2) rfl (.cons (t := 3) rfl .nil))) ?_
  refine Q_then ?_
  refine R_seq ?_
  refine R_seq ?_
  refine R_region ?_
  refine L_val rfl rfl rfl (OpP.v (P_fld0 rfl ty_fl_72_7 rfl)) ?_
  refine L_val rfl rfl rfl (V_load rfl rfl ty_sc_4 (Rd.blk .h1 (by show (ints .u8 sl ++ [Value.int .i64 tw, .bool lg])[17]? = _; rw [List.getElem?_append_right (by rw [ints_length]; omega), ints_length, hsl]; rfl))) ?_
  refine E_bool (t := 10) rfl (fun hlg => ?_) (fun hlg => ?_)
  · skip
    refine L_nil ?_
    refine St.env (.cons (t := 1) rfl (.cons (t := 2) rfl (.cons (t := 3) rfl (.cons (t := 10) rfl .nil)))) ?_
    refine Q_then ?_
    refine R_condT rfl ?_
    refine R_seq ?_
    refine R_region ?_
    refine L_val rfl rfl rfl (OpP.v (P_fld0 rfl ty_fl_72_4 rfl)) ?_
    refine L_val rfl rfl rfl (V_load rfl rfl ty_sc_24 (Rd.blk .h1 rfl)) ?_
    refine L_val rfl rfl rfl (OpP.v (P_len rfl ty_sl_24 rfl)) ?_
    refine L_val rfl rfl rfl (OpP.v (P_rem rfl rfl rfl (by omega))) ?_
    refine L_val rfl rfl rfl (OpP.v (P_addN rfl rfl rfl (rem3_fits _))) ?_
    refine E_nat (t := 15) (n := (1048575 + xs.length % 3)) rfl (rem3 _) ?_
    refine L_op rfl (W_make (n := (1048575 + xs.length % 3)) rfl rfl rfl ty_sl_24 ty_ze_5 rfl rfl (by omega) (by omega) fun b16 => ?_)
    rw [made_zeros]
    refine L_val rfl rfl rfl (OpP.v (P_assign rfl rfl)) ?_
    refine L_nil ?_
    refine St.env (.cons (t := 1) rfl (.cons (t := 2) rfl (.cons (t := 3) rfl (.cons (t := 4) rfl .nil)))) ?_
    refine Q_then ?_
    refine R_seq ?_
    refine R_region ?_
    refine L_val rfl rfl rfl (OpP.v (P_move rfl rfl)) ?_
    refine L_val rfl rfl rfl (OpP.v (P_fld0 rfl ty_fl_72_4 rfl)) ?_
    refine L_val rfl rfl rfl (V_load rfl rfl ty_sc_24 (Rd.blk .h2 rfl)) ?_
    refine L_op rfl (W_copy (k := Nat.min xs.length (1048575 + xs.length % 3)) (news := ints .u8 (xs.take (Nat.min xs.length (1048575 + xs.length % 3)))) rfl rfl rfl ty_sl_24 rfl rfl rfl (rfl) (fun w nw => by have := Src.part (C := cx gl) (sz := 1) (k := Nat.min xs.length (1048575 + xs.length % 3)) (m := xs.length) (c := c) (Sn.row hpre rfl).rw_ (by rw [ints_length, Nat.mul_one]; exact Nat.min_le_left _ _) w nw; rwa [Nat.mul_one, ints_take] at this) (ints_one) .h0 (by rw [ints_length, ints_length, List.length_replicate, List.length_take]; exact Nat.le_trans (by rw [Nat.zero_add]; exact Nat.min_le_left _ _) (Nat.min_le_right xs.length (1048575 + xs.length % 3))) ?_)
    rw [splice_take]
    refine L_nil ?_
    refine St.env (.cons (t := 2) rfl (.cons (t := 3) rfl (.cons (t := 4) rfl .nil))) ?_
    refine Q_then ?_
    refine R_seq ?_
    refine R_region ?_
    refine L_val rfl rfl rfl (OpP.v (P_move rfl rfl)) ?_
    refine L_val rfl rfl rfl (OpP.v (P_assign rfl rfl)) ?_
    refine L_nil ?_
    refine St.env (.cons (t := 2) rfl (.cons (t := 3) rfl .nil)) ?_
    refine Q_then ?_
    refine R_ret ?_
    refine Q_then_ret ?_
    exact R_end (rs2 := _) rfl rfl (.tmp rfl .nil) (rfl) (by rw [hlg, opMsg_long]; exact (Weak.turn .h0 (ownS.of_blk (by rw [ints_length]; simp; omega) (by simp only [maxLen]; omega))).trans (Weak.keep (Weak.nil _)))
  · skip
    refine L_nil ?_
    refine St.env (.cons (t := 1) rfl (.cons (t := 2) rfl (.cons (t := 3) rfl (.cons (t := 10) rfl .nil)))) ?_
    refine Q_then ?_
    refine R_condF rfl ?_
    refine R_skip ?_
    refine Q_then ?_
    refine R_seq ?_
    refine R_region ?_
    refine L_val rfl rfl rfl (OpP.v (P_move rfl rfl)) ?_
    refine L_val rfl rfl rfl (OpP.v (P_assign rfl rfl)) ?_
    refine L_nil ?_
    refine St.env (.cons (t := 2) rfl .nil) ?_
    refine Q_then ?_
    refine R_ret ?_
    exact R_end (rs2 := _) rfl rfl (.tmp rfl .nil) (rfl) (by rw [hlg]; exact (ownS.to (by show _ = xs.length; omega) (by simp [opMsg])).trans (Weak.keep (Weak.nil _)))
theorem room_ok {gl : Nat → Obj} (base : Option Addr) (c : Nat) (xs : List Int) (hmax : xs.length ≤ 140737488351232) : Spec (cx gl) 64 [.slice base xs.length c] (fun w _ => Row w base (ints .u8 xs)) [] (fun v rs => rs = [ownS 5 1 (v) (xs.length + 3) (ints .u8 (xs ++ [201, 202, 203]))]) := by
  refine Spec.enter (C := cx gl) Tryd.func64 rfl 14 rfl rfl fun w0 h0 hsep hsub hpre => ?_
  obtain rfl : h0 = Heap.none := hsep
  show St (cx gl) _ [(0, .slice base xs.length c)] _ _
  refine R_seq ?_
  refine R_region ?_
  refine L_val rfl rfl rfl (OpP.v (P_assign rfl rfl)) ?_
  refine L_nil ?_
  refine Q_then ?_
  refine R_seq ?_
  refine R_region ?_
  refine L_val rfl rfl rfl (OpP.v (P_move rfl rfl)) ?_
  refine L_val rfl rfl rfl (OpP.v (P_len rfl ty_sl_24 rfl)) ?_
  first | (refine L_val rfl rfl rfl (OpP.v (P_addN rfl rfl rfl (by simp only [fits]; omega))) ?_) | (refine L_val rfl rfl rfl (OpP.v (P_add rfl rfl rfl)) ?_)
  refine E_nat (t := 6) (n := xs.length + 3) rfl (by omega) ?_
  refine L_op rfl (W_make0 (n := xs.length + 3) rfl rfl rfl ty_sl_24 ty_ze_5 rfl rfl (by omega) (by simp only [maxLen]; omega) fun v7 => ?_)
  refine L_val rfl rfl rfl (OpP.v (P_assign rfl rfl)) ?_
  refine L_nil ?_
  refine St.env (.cons (t := 0) rfl (.cons (t := 2) rfl (.cons (t := 3) rfl .nil))) ?_
  refine Q_then ?_
  refine R_seq ?_
  refine R_region ?_
  refine L_val rfl rfl rfl (OpP.v (P_move rfl rfl)) ?_
  refine L_val rfl rfl rfl (OpP.v (P_move rfl rfl)) ?_
  refine L_op rfl (W_append (p := []) rfl rfl rfl ty_sl_24 ty_ap_24 ty_src_24 rfl rfl rfl (Src.row (Sn.row hpre rfl).rw_ (by rw [ints_length]; omega) ints_one) (by omega) (by simp only [maxLen]; omega) fun v10 => ?_)
  refine L_val rfl rfl rfl (OpP.v (P_assign rfl rfl)) ?_
  refine L_nil ?_
  refine St.env (.cons (t := 2) rfl (.cons (t := 3) rfl .nil)) ?_
  refine Q_then ?_
  refine R_seq ?_
  refine R_region ?_
  refine L_val rfl rfl rfl (OpP.v (P_move rfl rfl)) ?_
  refine L_op rfl (W_lit (z := .nilIface) (ints .u8 [201, 202, 203]) rfl rfl rfl ty_sl_24 ty_lz_24 rfl rfl rfl (by decide) (by decide) (by simp [Value.cells]) (rfl) fun b12 => ?_)
  refine L_op rfl (W_append (p := [_]) rfl rfl rfl ty_sl_24 ty_ap_24 ty_src_24 rfl rfl rfl (Src.slice (sz := 1) (news := ints .u8 [201, 202, 203]) (Rds.blk .h0) rfl ints_one) (by omega) (by simp only [maxLen]; omega) fun v13 => ?_)
  refine L_val rfl rfl rfl (OpP.v (P_assign rfl rfl)) ?_
  refine L_nil ?_
  refine St.env (.cons (t := 2) rfl .nil) ?_
  refine Q_then ?_
  refine R_ret ?_
  exact R_end (rs2 := _) rfl rfl (.tmp rfl .nil) (rfl) (Weak.drop (ownS.to (by omega) (by simp [ints])))
theorem left_ok {gl : Nat → Obj} (fb fc : Nat) (base : Option Addr) (c : Nat) (xs : List Int) (hfc : xs.length + 3 ≤ fc) (hmax : xs.length ≤ 140737488351232) (hb : IsB xs) : SpecV (cx gl) 66 [.slice (some ⟨fb, 0, none⟩) (xs.length + 3) fc, .slice base xs.length c] (fun w => RowAt w ⟨fb, 0, none⟩ (ints .u8 (xs ++ [201, 202, 203])) ∧ Row w base (ints .u8 xs)) (.bool true) := by
  refine Spec.enter (C := cx gl) Tryd.func66 rfl 43 rfl rfl fun w0 h0 hsep hsub hpre => ?_
  obtain rfl : h0 = Heap.none := hsep
  show St (cx gl) _ [(0, .slice (some ⟨fb, 0, none⟩) (xs.length + 3) fc), (1, .slice base xs.length c)] _ _
  have hfr : ∀ rs, Rw (cx gl) ⟨43, [], w0, Heap.none⟩ rs (some ⟨fb, 0, none⟩) (ints .u8 xs) := fun rs => by
    have h := (Sn.row (C := cx gl) (F := ⟨43, [], w0, Heap.none⟩) (rs := rs) hpre.1.row rfl).take xs.length
    rw [ints_take, List.take_left] at h
    exact h.rw_
  refine R_seq ?_
  refine R_region ?_
  refine L_val rfl rfl rfl (OpP.v (P_assign rfl rfl)) ?_
  refine L_nil ?_
  refine Q_then ?_
  refine R_seq ?_
  refine R_region ?_
  refine L_val rfl rfl rfl (OpP.v (P_move rfl rfl)) ?_
  refine L_val rfl rfl rfl (OpP.v (P_len rfl ty_sl_24 rfl)) ?_
  refine L_val rfl rfl rfl (OpP.v (P_assign rfl rfl)) ?_
  refine L_nil ?_
  refine St.env (.cons (t := 0) rfl (.cons (t := 1) rfl (.cons (t := 4) rfl (.cons (t := 5) rfl .nil)))) ?_
  refine Q_then ?_
  refine R_seq ?_
  refine R_seq ?_
  refine R_region ?_
  refine L_val rfl rfl rfl (OpP.v (P_move rfl rfl)) ?_
  refine L_val rfl rfl rfl (OpP.v (P_len rfl ty_sl_24 rfl)) ?_
  refine L_val rfl rfl rfl (OpP.v (P_move rfl rfl)) ?_
  first | (refine L_val rfl rfl rfl (OpP.v (P_addN rfl rfl rfl (by simp only [fits]; omega))) ?_) | (refine L_val rfl rfl rfl (OpP.v (P_add rfl rfl rfl)) ?_)
  refine L_val rfl rfl rfl (OpP.v (P_neq rfl rfl rfl)) ?_
  refine E_false (t := 12) rfl (decide_eq_false (by omega)) ?_
  refine L_val rfl rfl rfl (OpP.v (P_move rfl rfl)) ?_
  refine L_val rfl rfl rfl (OpP.v (P_move rfl rfl)) ?_
  refine L_val rfl rfl rfl (OpP.v (P_move rfl rfl)) ?_
  refine L_val rfl rfl rfl (OpP.v (P_ixs (xs.length) rfl ty_sl_24 rfl rfl (by first | rfl | omega) (by omega))) ?_
  refine L_val rfl rfl rfl (V_load rfl rfl ty_sc_5 (Rd.row hpre.1 rfl (left_at _).1)) ?_
  refine L_val rfl rfl rfl (OpP.v (P_neq rfl rfl rfl)) ?_
  refine E_false (t := 18) rfl (rfl) ?_
  refine L_val rfl rfl rfl (OpP.v (P_pick rfl rfl rfl)) ?_
  refine L_val rfl rfl rfl (OpP.v (P_move rfl rfl)) ?_
  refine L_val rfl rfl rfl (OpP.v (P_move rfl rfl)) ?_
  refine L_val rfl rfl rfl (OpP.v (P_move rfl rfl)) ?_
  first | (refine L_val rfl rfl rfl (OpP.v (P_addN rfl rfl rfl (by simp only [fits]; omega))) ?_) | (refine L_val rfl rfl rfl (OpP.v (P_add rfl rfl rfl)) ?_)
  refine L_val rfl rfl rfl (OpP.v (P_ixs (xs.length + 1) rfl ty_sl_24 rfl rfl (by first | rfl | omega) (by omega))) ?_
  refine L_val rfl rfl rfl (V_load rfl rfl ty_sc_5 (Rd.row hpre.1 rfl (left_at _).2.1)) ?_
  refine L_val rfl rfl rfl (OpP.v (P_neq rfl rfl rfl)) ?_
  refine E_false (t := 26) rfl (rfl) ?_
  refine L_val rfl rfl rfl (OpP.v (P_pick rfl rfl rfl)) ?_
  refine L_val rfl rfl rfl (OpP.v (P_move rfl rfl)) ?_
  refine L_val rfl rfl rfl (OpP.v (P_move rfl rfl)) ?_
  refine L_val rfl rfl rfl (OpP.v (P_move rfl rfl)) ?_
  first | (refine L_val rfl rfl rfl (OpP.v (P_addN rfl rfl rfl (by simp only [fits]; omega))) ?_) | (refine L_val rfl rfl rfl (OpP.v (P_add rfl rfl rfl)) ?_)
  refine L_val rfl rfl rfl (OpP.v (P_ixs (xs.length + 2) rfl ty_sl_24 rfl rfl (by first | rfl | omega) (by omega))) ?_
  refine L_val rfl rfl rfl (V_load rfl rfl ty_sc_5 (Rd.row hpre.1 rfl (left_at _).2.2)) ?_
  refine L_val rfl rfl rfl (OpP.v (P_neq rfl rfl rfl)) ?_
  refine E_false (t := 34) rfl (rfl) ?_
  refine L_val rfl rfl rfl (OpP.v (P_pick rfl rfl rfl)) ?_
  refine L_nil ?_
  refine St.env (.cons (t := 0) rfl (.cons (t := 1) rfl (.cons (t := 4) rfl (.cons (t := 5) rfl (.cons (t := 35) rfl .nil))))) ?_
  refine Q_then ?_
  refine R_condF rfl ?_
  refine R_skip ?_
  refine Q_then ?_
  refine R_seq ?_
  refine R_open [(0, 0), (1, 0), (2, 0), (3, 1), (4, 0), (5, 1), (6, 0), (7, 0)] mixed (by kernel_rfl) (QOk.then QOk.body) ?_
  refine O_pure rfl rfl rfl rfl (P_move rfl rfl) ?_
  refine O_pure rfl rfl rfl rfl (P_move rfl rfl) ?_
  refine O_pure rfl rfl rfl rfl (P_slice 0 xs.length rfl ty_sl_24 rfl rfl ⟨_, rfl⟩ (by omega) (by omega)) ?_
  refine E_as (t := 38) (v' := .slice (some ⟨fb, 0, none⟩) xs.length fc) rfl (by unfold sliced; rw [if_neg (by omega)]; simp [add_zero_off]) ?_
  refine O_val rfl rfl rfl rfl (V_str rfl (slB_spec ty_sl_24).1 ty_int_5 ty_str_9 rfl (hfr _)) ?_
  refine O_pure rfl rfl rfl rfl (P_move rfl rfl) ?_
  refine O_val rfl rfl rfl rfl (V_str rfl (slB_spec ty_sl_24).1 ty_int_5 ty_str_9 rfl ((Sn.row hpre.2 rfl).rw_)) ?_
  refine O_pure rfl rfl rfl rfl (P_eqStr rfl rfl rfl hb hb) ?_
  refine E_true (t := 42) rfl (decide_eq_true rfl) ?_
  refine O_pure rfl rfl rfl rfl (P_assign rfl rfl) ?_
  refine O_nil ?_
  refine St.env (.cons (t := 4) rfl .nil) ?_
  refine Q_then ?_
  refine R_ret ?_
  exact R_endV rfl rfl (.tmp rfl .nil) (rfl)
theorem spoil_ok {gl : Nat → Obj} (fb fc : Nat) (l : List Int) (hmax : l.length ≤ 140737488351240) : SpecR (cx gl) 67 [.slice (some ⟨fb, 0, none⟩) l.length fc] (fun _ _ => True) [ownS 5 1 (.slice (some ⟨fb, 0, none⟩) l.length fc) (l.length) (ints .u8 (l))] (.tuple #[]) [ownS 5 1 (.slice (some ⟨fb, 0, none⟩) l.length fc) (l.length) (ints .u8 (l.map (xorB 90)))] := by
  refine Spec.enter (C := cx gl) Tryd.func67 rfl 17 rfl rfl fun w0 h0 hsep hsub hpre => ?_
  show St (cx gl) _ [(0, .slice (some ⟨fb, 0, none⟩) l.length fc)] _ _
  refine R_seq ?_
  refine R_region ?_
  refine L_val rfl rfl rfl (OpP.v (P_assign rfl rfl)) ?_
  refine L_nil ?_
  refine Q_then ?_
  refine R_block ?_
  refine R_loopE (G := Nat) (.cons (t := 0) rfl .nil) (fun g => [(2, .int .i64 (g : Int))]) (fun g => [ownS 5 1 (.slice (some ⟨fb, 0, none⟩) l.length fc) (l.length) (ints .u8 (xorP 90 l g))]) (fun g => g ≤ l.length) (fun g => l.length - g) (0) (Nat.zero_le _) (by repeat (first | exact .nil | refine .cons rfl ?_ | refine .consE rfl (by first | rfl | (congr 1; omega) | (congr 1; push_cast; omega)) ?_)) (by rw [xorP_zero]; exact Weak.refl _) ?_
  intro i hinv
  replace hinv : i ≤ l.length := hinv
  show St (cx gl) _ ((2, .int .i64 (i : Int)) :: _) [ownS 5 1 (.slice (some ⟨fb, 0, none⟩) l.length fc) (l.length) (ints .u8 (xorP 90 l i))] _
  have hi := hinv
  refine R_seq ?_
  refine R_seq ?_
  refine R_region ?_
  refine L_val rfl rfl rfl (OpP.v (P_move rfl rfl)) ?_
  refine L_val rfl rfl rfl (OpP.v (P_move rfl rfl)) ?_
  refine L_val rfl rfl rfl (OpP.v (P_len rfl ty_sl_24 rfl)) ?_
  refine L_val rfl rfl rfl (OpP.v (P_lss rfl rfl rfl)) ?_
  refine L_nil ?_
  refine Q_then ?_
  refine R_condP rfl (fun hlt0 => ?_) (fun hlt0 => ?_)
  · skip
    have hlt : i < l.length := by omega
    refine R_skip ?_
    refine Q_then ?_
    refine R_seq ?_
    refine R_block ?_
    refine R_region ?_
    refine L_val rfl rfl rfl (OpP.v (P_move rfl rfl)) ?_
    refine L_val rfl rfl rfl (OpP.v (P_move rfl rfl)) ?_
    refine L_val rfl rfl rfl (OpP.v (P_move rfl rfl)) ?_
    refine L_val rfl rfl rfl (OpP.v (P_move rfl rfl)) ?_
    refine L_val rfl rfl rfl (OpP.v (P_ixs (i) rfl ty_sl_24 rfl rfl (by first | rfl | omega) (by omega))) ?_
    refine L_val rfl rfl rfl (V_load rfl rfl ty_sc_5 (rd_own1 .h0 (xorP_get hlt rfl))) ?_
    refine L_val rfl rfl rfl (OpP.v (P_bit (op := .xor) rfl rfl rfl rfl)) ?_
    refine L_val rfl rfl rfl (OpP.v (P_ixs (i) rfl ty_sl_24 rfl rfl (by first | rfl | omega) (by omega))) ?_
    refine L_op rfl (W_storeOwn1 rfl rfl rfl rfl ty_sc_5 rfl .h0 (by rw [ints_length, xorP_length]; omega) ?_)
    refine L_nil ?_
    refine Q_block ?_
    refine Q_then ?_
    refine R_region ?_
    refine L_val rfl rfl rfl (OpP.v (P_move rfl rfl)) ?_
    first | (refine L_val rfl rfl rfl (OpP.v (P_addN rfl rfl rfl (by simp only [fits]; omega))) ?_) | (refine L_val rfl rfl rfl (OpP.v (P_add rfl rfl rfl)) ?_)
    refine L_val rfl rfl rfl (OpP.v (P_assign rfl rfl)) ?_
    refine L_nil ?_
    exact Q_round (i + 1) (by show (i + 1) ≤ l.length; omega) (by show l.length - (i + 1) < l.length - i; omega) (by repeat (first | exact .nil | refine .cons rfl ?_ | refine .consE rfl (by first | rfl | (congr 1; omega) | (congr 1; push_cast; omega)) ?_)) (by rw [Nat.zero_add, Nat.mul_one, show bitI .xor .u8 (l.getD i 0) 90 = xorB 90 (l.getD i 0) from rfl, xorP_set hlt rfl]; exact Weak.refl _)
  · skip
    obtain rfl : i = l.length := by omega
    refine R_exit ?_
    refine Q_then_exit ?_
    refine Q_then_exit ?_
    refine Q_block_eq ?_
    refine St.env (.nil) ?_
    exact R_end0 (rs2 := _) rfl rfl (.nil) (⟨rfl, rfl⟩) (by rw [xorP_full]; exact Weak.refl _)
theorem Row.at' {w : World} {b j : Nat} {i : Nat} {cs : List Value} {v : Value} (h : Row w (some ⟨b, j, none⟩) cs) (hv : cs[i]? = some v) : w.cell? ⟨b, j + i * 1, none⟩ = some v := by
  obtain ⟨ad, e, hc⟩ := h i v hv
  rw [Option.some.injEq] at e
  subst e
  rw [add_zero_off] at hc
  rwa [Nat.mul_one]
theorem same_ok {gl : Nat → Obj} (ba : Option Addr) (ca : Nat) (va : List Value) (xa : List (List Int)) (ha : va.length = xa.length) (hma : va.length ≤ 4398046511104) (hba : ∀ x ∈ xa, IsB x) (bb : Option Addr) (cb : Nat) (vb : List Value) (xb : List (List Int)) (hb : vb.length = xb.length) (hmb : vb.length ≤ 4398046511104) (hbb : ∀ x ∈ xb, IsB x) : SpecV (cx gl) 28 [.slice ba va.length ca, .slice bb vb.length cb] (fun w => ItemsM w ba va xa ∧ ItemsM w bb vb xb) (.bool (decide (xa = xb))) := by
  refine Spec.enter (C := cx gl) Tryd.func28 rfl 28 rfl rfl fun w0 h0 hsep hsub hpre => ?_
  obtain rfl : h0 = Heap.none := hsep
  show St (cx gl) _ [(0, .slice ba va.length ca), (1, .slice bb vb.length cb)] _ _
  refine R_seq ?_
  refine R_region ?_
  refine L_val rfl rfl rfl (OpP.v (P_assign rfl rfl)) ?_
  refine L_nil ?_
  refine Q_then ?_
  refine R_seq ?_
  refine R_seq ?_
  refine R_region ?_
  refine L_val rfl rfl rfl (OpP.v (P_move rfl rfl)) ?_
  refine L_val rfl rfl rfl (OpP.v (P_len rfl ty_sl_60 rfl)) ?_
  refine L_val rfl rfl rfl (OpP.v (P_move rfl rfl)) ?_
  refine L_val rfl rfl rfl (OpP.v (P_len rfl ty_sl_60 rfl)) ?_
  refine L_val rfl rfl rfl (OpP.v (P_neq rfl rfl rfl)) ?_
  refine L_nil ?_
  refine St.env (.cons (t := 0) rfl (.cons (t := 1) rfl (.cons (t := 4) rfl (.cons (t := 10) rfl .nil)))) ?_
  refine Q_then ?_
  refine R_condP rfl (fun hne => ?_) (fun hne => ?_)
  · skip
    refine R_seq ?_
    refine R_region ?_
    refine L_val rfl rfl rfl (OpP.v (P_assign rfl rfl)) ?_
    refine L_nil ?_
    refine St.env (.cons (t := 0) rfl (.cons (t := 1) rfl (.cons (t := 4) rfl .nil))) ?_
    refine Q_then ?_
    refine R_ret ?_
    refine Q_then_ret ?_
    exact R_endV rfl rfl (.tmp rfl .nil) (by show Value.bool _ = Value.bool _; rw [decide_eq_false]; intro e; apply hne; rw [ha, hb, e])
  · skip
    have hab : va.length = vb.length := by omega
    refine R_skip ?_
    refine Q_then ?_
    refine R_seq ?_
    refine R_seq ?_
    refine R_region ?_
    refine L_val rfl rfl rfl (OpP.v (P_assign rfl rfl)) ?_
    refine L_nil ?_
    refine St.env (.cons (t := 0) rfl (.cons (t := 1) rfl (.cons (t := 4) rfl (.cons (t := 5) rfl .nil)))) ?_
    refine Q_then ?_
    refine R_block ?_
    refine R_loopE (G := Nat) (.cons (t := 0) rfl (.cons (t := 1) rfl (.cons (t := 4) rfl .nil))) (fun g => [(5, .int .i64 (g : Int))]) (fun _ => _) (fun g => g ≤ va.length ∧ xa.take g = xb.take g) (fun g => va.length - g) (0) (⟨Nat.zero_le _, rfl⟩) (by repeat (first | exact .nil | refine .cons rfl ?_ | refine .consE rfl (by first | rfl | (congr 1; omega) | (congr 1; push_cast; omega)) ?_)) (Weak.refl _) ?_
    intro i hinv
    replace hinv : i ≤ va.length ∧ xa.take i = xb.take i := hinv
    show St (cx gl) _ ((5, .int .i64 (i : Int)) :: _) _ _
    obtain ⟨hi, htk⟩ := hinv
    refine R_seq ?_
    refine R_seq ?_
    refine R_region ?_
    refine L_val rfl rfl rfl (OpP.v (P_move rfl rfl)) ?_
    refine L_val rfl rfl rfl (OpP.v (P_move rfl rfl)) ?_
    refine L_val rfl rfl rfl (OpP.v (P_len rfl ty_sl_60 rfl)) ?_
    refine L_val rfl rfl rfl (OpP.v (P_lss rfl rfl rfl)) ?_
    refine L_nil ?_
    refine Q_then ?_
    refine R_condP rfl (fun hlt0 => ?_) (fun hlt0 => ?_)
    · skip
      have hla : i < va.length := by omega
      have hlb : i < vb.length := by omega
      have hxa : i < xa.length := by omega
      have hxb : i < xb.length := by omega
      rcases hpre.1.1.cases with h0 | ⟨ak, aj, rfl, hra⟩
      · exact absurd hla (by rw [h0]; simp)
      obtain ⟨ba, caa, ea, ra⟩ := hpre.1.2.2 i va[i] xa[i] (List.getElem?_eq_getElem hla) (List.getElem?_eq_getElem hxa)
      rcases hpre.2.1.cases with h0 | ⟨bk, bj, rfl, hrb⟩
      · exact absurd hlb (by rw [h0]; simp)
      obtain ⟨bb, cbb, eb, rb⟩ := hpre.2.2.2 i vb[i] xb[i] (List.getElem?_eq_getElem hlb) (List.getElem?_eq_getElem hxb)
      refine R_skip ?_
      refine Q_then ?_
      refine R_seq ?_
      refine R_block ?_
      refine R_seq ?_
      refine R_open [(0, 0), (1, 0), (2, 0), (3, 1), (4, 1), (5, 0), (6, 0), (7, 0), (8, 1), (9, 1), (10, 0)] mixed (by kernel_rfl) (QOk.then (QOk.block (QOk.then (QOk.then (QOk.block (QOk.then QOk.body)))))) ?_
      refine O_pure rfl rfl rfl rfl (P_move rfl rfl) ?_
      refine O_pure rfl rfl rfl rfl (P_move rfl rfl) ?_
      refine O_pure rfl rfl rfl rfl (P_ixs (i) rfl ty_sl_60 rfl rfl (by first | rfl | omega) (by omega)) ?_
      refine O_val rfl rfl rfl rfl (V_load rfl rfl ty_sc_24 (fun w nw => ((Sn.row hpre.1.1 rfl).rw_ w nw).at' (List.getElem?_eq_getElem hla))) ?_
      refine E_as (t := 20) (v' := .slice ba (xa[i]).length caa) rfl (ea) ?_
      refine O_val rfl rfl rfl rfl (V_str rfl (slB_spec ty_sl_24).1 ty_int_5 ty_str_9 rfl ((Sn.row ra rfl).rw_)) ?_
      refine O_pure rfl rfl rfl rfl (P_move rfl rfl) ?_
      refine O_pure rfl rfl rfl rfl (P_move rfl rfl) ?_
      refine O_pure rfl rfl rfl rfl (P_ixs (i) rfl ty_sl_60 rfl rfl (by first | rfl | omega) (by omega)) ?_
      refine O_val rfl rfl rfl rfl (V_load rfl rfl ty_sc_24 (fun w nw => ((Sn.row hpre.2.1 rfl).rw_ w nw).at' (List.getElem?_eq_getElem hlb))) ?_
      refine E_as (t := 25) (v' := .slice bb (xb[i]).length cbb) rfl (eb) ?_
      refine O_val rfl rfl rfl rfl (V_str rfl (slB_spec ty_sl_24).1 ty_int_5 ty_str_9 rfl ((Sn.row rb rfl).rw_)) ?_
      refine O_pure rfl rfl rfl rfl (P_neStr rfl rfl rfl (hba _ (List.getElem_mem hxa)) (hbb _ (List.getElem_mem hxb))) ?_
      refine O_nil ?_
      refine Q_then ?_
      refine R_condP rfl (fun hd => ?_) (fun hd => ?_)
      · skip
        refine R_seq ?_
        refine R_region ?_
        refine L_val rfl rfl rfl (OpP.v (P_assign rfl rfl)) ?_
        refine L_nil ?_
        refine Q_then ?_
        refine R_ret ?_
        refine Q_block_ret ?_
        refine Q_then_ret ?_
        refine Q_then_ret ?_
        refine Q_block_ret ?_
        refine Q_then_ret ?_
        exact R_endV rfl rfl (.tmp rfl .nil) (by show Value.bool _ = Value.bool _; rw [decide_eq_false]; intro e; subst e; exact hd rfl)
      · skip
        refine R_skip ?_
        refine Q_block ?_
        refine Q_then ?_
        refine R_region ?_
        refine L_val rfl rfl rfl (OpP.v (P_move rfl rfl)) ?_
        first | (refine L_val rfl rfl rfl (OpP.v (P_addN rfl rfl rfl (by simp only [fits]; omega))) ?_) | (refine L_val rfl rfl rfl (OpP.v (P_add rfl rfl rfl)) ?_)
        refine L_val rfl rfl rfl (OpP.v (P_assign rfl rfl)) ?_
        refine L_nil ?_
        exact Q_round (i + 1) (⟨by show i + 1 ≤ _; omega, by show xa.take (i + 1) = xb.take (i + 1); rw [List.take_add_one, List.take_add_one, htk, List.getElem?_eq_getElem hxa, List.getElem?_eq_getElem hxb, Classical.not_not.1 hd]⟩) (by show va.length - (i + 1) < va.length - i; omega) (by repeat (first | exact .nil | refine .cons rfl ?_ | refine .consE rfl (by first | rfl | (congr 1; omega) | (congr 1; push_cast; omega)) ?_)) (Weak.refl _)
    · skip
      obtain rfl : i = va.length := by omega
      refine R_exit ?_
      refine Q_then_exit ?_
      refine Q_then_exit ?_
      refine Q_block_eq ?_
      refine St.env (.cons (t := 4) rfl .nil) ?_
      refine Q_then ?_
      refine R_seq ?_
      refine R_region ?_
      refine L_val rfl rfl rfl (OpP.v (P_assign rfl rfl)) ?_
      refine L_nil ?_
      refine Q_then ?_
      refine R_ret ?_
      exact R_endV rfl rfl (.tmp rfl .nil) (by show Value.bool _ = Value.bool _; rw [decide_eq_true]; rw [ha, List.take_length] at htk; rw [htk]; exact List.take_of_length_le (by omega))
end Go.Proofs.YtnaadddnbfnahaaDoor
