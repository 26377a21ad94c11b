/- The ninth part of the program logic: rows of rows of whole numbers; made slices. -/
import Derived.Test.YtfhjhaogmdaepaaEngH
set_option linter.unusedVariables false
set_option linter.unusedSimpArgs false
namespace Go.Proofs.Ytfhjhaogmdaepaa
open Go Go.RowKit

/-- The cells of rows of whole numbers. -/
def flat (k : IntKind) (xss : List (List Int)) : List Value := xss.flatMap (ints k)
theorem flat_nil (k : IntKind) : flat k [] = [] := rfl
theorem flat_cons (k : IntKind) (x : List Int) (xss : List (List Int)) : flat k (x :: xss) = ints k x ++ flat k xss := rfl
theorem flat_append (k : IntKind) (xss yss : List (List Int)) : flat k (xss ++ yss) = flat k xss ++ flat k yss := by simp [flat]
theorem flat_one {k : IntKind} {xss : List (List Int)} : ∀ v ∈ flat k xss, v.oneCell' = true := fun v h => by
  obtain ⟨x, _, hx⟩ := List.mem_flatMap.1 h
  exact ints_one v hx
section
variable {k : IntKind} {n : Nat} {xss : List (List Int)} (h : ∀ x ∈ xss, x.length = n)
include h
theorem flat_length : (flat k xss).length = xss.length * n := by
  induction xss with
  | nil => simp [flat]
  | cons x xss ih => rw [flat_cons, List.length_append, ints_length, h x (by simp), ih (fun y hy => h y (by simp [hy])), List.length_cons, Nat.add_mul]; omega
theorem flat_drop (p : Nat) : (flat k xss).drop (p * n) = flat k (xss.drop p) := by
  induction xss generalizing p with
  | nil => simp [flat]
  | cons x xss ih =>
    cases p with
    | zero => simp
    | succ p =>
      have hx : (ints k x).length = n := by rw [ints_length, h x (by simp)]
      rw [flat_cons, Nat.add_mul, Nat.one_mul, Nat.add_comm, ← hx, List.drop_length_add_append, hx, ih (fun y hy => h y (by simp [hy])), List.drop_succ_cons]
theorem flat_take (p : Nat) : (flat k xss).take (p * n) = flat k (xss.take p) := by
  induction xss generalizing p with
  | nil => simp [flat]
  | cons x xss ih =>
    cases p with
    | zero => simp [flat]
    | succ p =>
      have hx : (ints k x).length = n := by rw [ints_length, h x (by simp)]
      rw [flat_cons, Nat.add_mul, Nat.one_mul, Nat.add_comm, ← hx, List.take_length_add_append, hx, ih (fun y hy => h y (by simp [hy])), List.take_succ_cons, flat_cons]
theorem flat_at {i : Nat} {x : List Int} (hi : xss[i]? = some x) (j : Nat) (v : Value) (hj : (ints k x)[j]? = some v) : (flat k xss)[i * n + j]? = some v := by
  rw [← List.getElem?_drop, flat_drop h]
  have : xss.drop i = x :: xss.drop (i + 1) := by
    have hlt := (List.getElem?_eq_some_iff.1 hi).1
    rw [List.drop_eq_getElem_cons hlt]
    rw [List.getElem?_eq_getElem hlt, Option.some.injEq] at hi
    rw [hi]
  rw [this, flat_cons, List.getElem?_append_left (List.getElem?_eq_some_iff.1 hj).1]
  exact hj
theorem flat_splice {i : Nat} {x : List Int} (hi : i < xss.length) (hx : x.length = n) : splice (flat k xss) (i * n) (ints k x) = flat k (xss.set i x) := by
  unfold splice
  rw [ints_length, hx, flat_take h, show i * n + n = (i + 1) * n by rw [Nat.add_mul, Nat.one_mul], flat_drop h, List.set_eq_take_append_cons_drop, if_pos hi, flat_append, flat_cons, List.append_assoc]
end

/-- The cells of a made slice. -/
def madeL (z : List Value) (m : Nat) : List Value := (madeCells z.toArray m).toList
theorem madeL_length (z : List Value) (m : Nat) : (madeL z m).length = m := by rw [madeL, Array.length_toList, size_madeCells]
theorem madeL_rep (s m : Nat) (v : Value) (hs : 0 < s) : madeL (List.replicate s v) m = List.replicate m v := by
  apply List.ext_getElem (by rw [madeL_length, List.length_replicate])
  intro i h1 h2
  have hm : i % s < s := Nat.mod_lt _ hs
  simp [madeL, madeCells, hm]
theorem flat_zeros (k : IntKind) (s n : Nat) : flat k (List.replicate n (List.replicate s 0)) = List.replicate (n * s) (.int k 0) := by
  induction n with
  | zero => simp [flat]
  | succ n ih => rw [List.replicate_succ, flat_cons, ih, ← rep_ints, List.replicate_append_replicate, Nat.add_mul, Nat.one_mul, Nat.add_comm]
section
variable {C : Cx} {F : Fx} {l : Env} {rs rs' : List HP} {K : Act → World → Prop} {o : Oper} {Q : Exit → Act → World → Prop} {d : Nat}
theorem W_make {t e sz bytes n : Nat} {x y : Operand} {k1 k2 : IntKind} {z : List Value} (ho : o.op = .makeSlice t x y) (hd : o.dst = some d) (hn : Nat.blt d F.n = true) (ht : slB C.P t e sz bytes = true) (hz : zeB C.P e z) (hx : ev l x = some (.int k1 (n : Int))) (hy : ev l y = some (.int k2 (n : Int)))
    (hb : bytes * n ≤ 281474976710656) (hm : n ≤ 9223372036854775807) (k : ∀ b, St C F ((d, .slice (some ⟨b, 0, none⟩) n n) :: l) (blk b (madeL z (n * sz)) e :: rs) K) : OpW C F l rs o K Q := fun a w r nw => by
  obtain ⟨h1, ti, h2, h3, h3b⟩ := slB_spec ht
  unfold zeB at hz
  obtain ⟨zv, hz1, hz2⟩ := Option.map_eq_some_iff.1 hz
  obtain ⟨i, hi1, hiz⟩ := Option.bind_eq_some_iff.1 hz1
  rw [h2, Option.some.injEq] at hi1
  subst hi1
  have hzc : zv.cells = z.toArray := by rw [← hz2]
  have hb' : (ti.bytes : Int) * (n : Int) ≤ 281474976710656 := by
    have h : ((ti.bytes * n : Nat) : Int) ≤ 281474976710656 := by rw [h3b]; omega
    rwa [Int.natCast_mul] at h
  have hr := run_make (P := C.P) w t e ti zv h1 h2 hiz k1 k2 (n : Int) (n : Int) (by omega) (Int.le_refl _) hb' (by omega)
  simp only [Int.toNat_natCast, h3, hzc] at hr
  unfold Oper.wp
  have : (execOp a.eval o).run C.P w = .ok (.value (.slice (some ⟨w.heap.size, 0, none⟩) n n)) (w.alloc (.cells (madeCells z.toArray (n * sz)) e)) := by
    simp only [execOp, ho, r.ev hx, r.ev hy, Sem.run_bind, hr, Result.andThen_ok, Sem.run_pure]
  rw [this]
  show K (a.put o.dst _) _
  rw [hd]
  have h5 := nw.alloc (madeL z (n * sz)) e
  exact k _ _ _ (r.put hn _) h5
/-- An owned slice that is not empty has a block. -/
theorem St.ownSome (p : List HP) {q : List HP} {T sz n : Nat} {v : Value} {cs : List Value} (hn : 0 < n) (h : ∀ b cap, v = .slice (some ⟨b, 0, none⟩) n cap → n ≤ cap → St C F l (p ++ ownS T sz v n cs :: q) K) : St C F l (p ++ ownS T sz v n cs :: q) K := fun a w r nw => by
  obtain ⟨_, hv, _⟩ := nw.has (r := ownS T sz v n cs) ⟨p, q, rfl, rfl⟩
  rcases hv.2 with ⟨_, h0, _⟩ | ⟨b, cap, junk, e, hc, _⟩
  · omega
  · exact h b cap e hc a w r nw
theorem St.ownForm (p : List HP) {q : List HP} {T sz n : Nat} {v : Value} {cs : List Value} (h : ∀ base cap, v = .slice base n cap → n ≤ cap → St C F l (p ++ ownS T sz v n cs :: q) K) : St C F l (p ++ ownS T sz v n cs :: q) K := fun a w r nw => by
  obtain ⟨_, hv, _⟩ := nw.has (r := ownS T sz v n cs) ⟨p, q, rfl, rfl⟩
  obtain ⟨b, cap, e, hc⟩ := hv.form
  exact h b cap e hc a w r nw
theorem Rd.own {T sz n cap b j : Nat} {cs : List Value} {u : Value} (m : Has rs (ownS T sz (.slice (some ⟨b, 0, none⟩) n cap) n cs) (ownS T sz (.slice (some ⟨b, 0, none⟩) n cap) n cs) rs) (hu : cs[j]? = some u) : Rd C F rs ⟨b, j, none⟩ u := fun w nw => by
  obtain ⟨ad, e, hc⟩ := (Sn.own (C := C) (F := F) m rfl).rw_ w nw j u hu
  rw [Option.some.injEq] at e
  subst e
  rwa [add_zero_off, Nat.zero_add] at hc
end
end Go.Proofs.Ytfhjhaogmdaepaa
