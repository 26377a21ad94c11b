/- Plain: councils that New, Turn and Renew have made. -/
import Derived.Test.YtjhhpagcejgclaaDiv
import Derived.Test.YtjhhpagcejgclaaMask
set_option linter.unusedVariables false
set_option linter.unusedSimpArgs false
namespace Go.Proofs.Ytjhhpagcejgclaa
open Go Go.RowKit
def tnV (k : Int) : Int := (if k < 0 then -(k + 1) else k) % 300
theorem tnV_bd (k : Int) : 0 ≤ tnV k ∧ tnV k < 300 := by unfold tnV; omega
structure Ac where
  n : Int
  b : Option Addr
  c : Nat
  l : List Mem
def Ac.cells (a : Ac) : List Value := [.int .i64 a.n, .slice a.b a.l.length a.c]
theorem ac_len (l : List Ac) : ∀ m ∈ l, m.cells.length = 2 := fun _ _ => rfl
def turnA (X : List Mem) (a : Ac) : List Mem := turnsL (sumP X) (tnV a.n).toNat X
def stepA (X : List Mem) (a : Ac) : List Mem := if memE a.l = 0 then renL (turnA X a) a.l else turnA X a
def mkL (l : List Mem) (az : List Ac) : List Mem := az.foldl stepA (newL l)
theorem mkL_snoc {l : List Mem} {az : List Ac} {i : Nat} {a : Ac} (h : az[i]? = some a) : mkL l (az.take (i + 1)) = stepA (mkL l (az.take i)) a := by
  unfold mkL; rw [List.take_add_one, h, List.foldl_append]; rfl
theorem sumI_qF (l : List Mem) : sumI l.length (qF l) = sumQ l := by
  have key : ∀ k, k ≤ l.length → sumI k (qF l) = sumQ (l.take k) := by
    intro k
    induction k with
    | zero => intro _; rfl
    | succ k ih =>
      intro hk
      rw [sumQ_snoc (mAt_get (l := l) (i := k) (by omega)), ← ih (by omega)]; rfl
  rw [key _ (Nat.le_refl _), List.take_length]
structure Good (X : List Mem) : Prop where
  mem : memE X = 0
  ok : ∀ m ∈ X, m.ok
  play : Play (2 * sumP X) (-(2 * sumP X)) (sumP X) X
  sum : sumQ X < X.length
theorem Good.bd {X : List Mem} (h : Good X) : ∀ m ∈ X, -(2 * sumP X) ≤ m.q ∧ 4 * m.q ≤ 23 * sumP X := fun m hm => by
  obtain ⟨i, hi, rfl⟩ := mem_mAt hm
  have h1 : 4 * (mAt X i).q ≤ 4 * (2 * sumP X) + 15 * sumP X := h.play.cup.high h.play.few (Int.le_of_lt h.play.t0) hi
  have h2 : -(2 * sumP X) ≤ (mAt X i).q := h.play.low i hi
  omega
theorem Good.sound {X : List Mem} (h : Good X) : soundE X = 0 := soundE_of h.mem fun m hm => by have := h.bd m hm; have := h.play.t0; omega
theorem Good.sum0 {X : List Mem} (h : Good X) : 0 ≤ sumQ X := by rw [← sumI_qF]; exact h.play.sum
theorem Good.mean {X : List Mem} (h : Good X) : meanQ X = 0 := by
  have := h.play.pos
  unfold meanQ; exact Int.ediv_eq_zero_of_lt h.sum0 h.sum
theorem good_new {l : List Mem} (hok : ∀ m ∈ l, m.ok) (he : memE l = 0) : Good (newL l) := by
  obtain ⟨h1, h2⟩ := play_new hok he
  have ht := h1.t0
  have hq : ∀ i, i < (newL l).length → qF (newL l) i = 0 := by
    rw [newL_length]
    intro i hi
    unfold qF; rw [mAt_of (newL_at (mAt_get hi))]
  rw [← newL_length l, sumI_qF] at h2
  refine ⟨by rw [newL_memE, he], newL_ok hok, ?_, by rw [h2]; have := h1.pos; omega⟩
  rw [newL_sum]
  exact ⟨h1.few, h1.pos, h1.tot, h1.t0, h1.p0, Cup.start h1.few (Int.le_of_lt ht) fun i hi => by rw [hq i hi]; omega, fun i hi => by rw [hq i hi]; omega, h1.sum⟩
theorem Good.turns {X : List Mem} (h : Good X) (k : Nat) : Good (turnsL (sumP X) k X) ∧ sumP (turnsL (sumP X) k X) = sumP X := by
  obtain ⟨h1, h2⟩ := h.play.turns (by omega) (by have := h.play.t0; omega) (by have := h.play.t0; omega) k
  have hs := sound_turns h.ok h.sound k
  refine ⟨⟨memE_of_sound hs.1, ((sane_of h.ok h.sound).turns k).ok, by rw [hs.2]; exact h1, ?_⟩, hs.2⟩
  rw [← sumI_qF, turnsL_length, h2, sumI_qF]; exact h.sum
theorem sumQ_cen (a : Int) (l : List Mem) : sumQ (l.map (cenM a)) = sumQ l - l.length * a := by
  induction l with
  | nil => simp [sumQ]
  | cons m l ih =>
    have e1 : sumQ ((m :: l).map (cenM a)) = (m.q - a) + sumQ (l.map (cenM a)) := by simp [sumQ, cenM]
    have e2 : sumQ (m :: l) = m.q + sumQ l := by simp [sumQ]
    rw [e1, ih, e2, List.length_cons, Int.natCast_add, Int.add_mul]; omega
theorem cen_sum {l : List Mem} (hl : 0 < l.length) : 0 ≤ sumQ (cenL l) ∧ sumQ (cenL l) < l.length := by
  unfold cenL
  rw [sumQ_cen]
  unfold meanQ
  have h1 := Int.mul_ediv_add_emod (sumQ l) l.length
  have h2 := Int.emod_nonneg (sumQ l) (show (l.length : Int) ≠ 0 by omega)
  have h3 := Int.emod_lt_of_pos (sumQ l) (show (0 : Int) < l.length by omega)
  omega
theorem good_ren {c l : List Mem} (hok : ∀ m ∈ l, m.ok) (he : memE l = 0) : Good (renL c l) := by
  have hn := newL_ren c l
  have hp := play_new hok he
  have ht := hp.1.t0
  have hlen := renL_length c l
  have hf := fine_of he
  have hs := sumP_same hn
  have hb := renL_bd (c := c) hf.pos ht
  have hms : msK = 1152921504606846975 := rfl
  have htot := hf.tot
  have hap : ∀ i, i < l.length → (mAt (renL c l) i).a = (mAt l i).a ∧ (mAt (renL c l) i).p = (mAt l i).p := fun i hi => by
    obtain ⟨x1, x2⟩ := newL_mAt (renL c l) i
    obtain ⟨y1, y2⟩ := newL_mAt l i
    rw [hn] at x1 x2
    exact ⟨by rw [← x1, y1], by rw [← x2, y2]⟩
  have hcs := cen_sum (l := narL (sumP l) (filL c l)) (by rw [narL_length]; simpa [filL, newL] using hf.pos)
  have hcl : (narL (sumP l) (filL c l)).length = l.length := by rw [narL_length]; simp [filL, newL]
  rw [hcl] at hcs
  refine ⟨by rw [memE_same hn, he], fun m hm => ?_, ?_, by rw [hlen]; exact hcs.2⟩
  · obtain ⟨i, hi, rfl⟩ := mem_mAt hm
    rw [hlen] at hi
    obtain ⟨o1, o2, _⟩ := hok _ (mAt_mem hi)
    obtain ⟨x1, x2⟩ := hap i hi
    have := hb _ hm
    exact ⟨by rw [x1]; exact o1, by rw [x2]; exact o2, by omega, by omega⟩
  · rw [hs]
    refine ⟨by rw [hlen]; exact hf.few, by rw [hlen]; exact hf.pos, hs, ht, fun m hm => ?_, Cup.start (by rw [hlen]; exact hf.few) (Int.le_of_lt ht) fun i hi => (hb _ (mAt_mem hi)).2, fun i hi => (hb _ (mAt_mem hi)).1, by rw [sumI_qF]; exact hcs.1⟩
    obtain ⟨i, hi, rfl⟩ := mem_mAt hm
    rw [hlen] at hi
    rw [(hap i hi).2]; exact (hok _ (mAt_mem hi)).2.1.1
theorem good_step {X : List Mem} {a : Ac} (h : Good X) (hok : ∀ m ∈ a.l, m.ok) : Good (stepA X a) := by
  unfold stepA
  split
  · rename_i he
    exact good_ren hok he
  · exact (h.turns _).1
theorem good_mk {l : List Mem} {az : List Ac} (hok : ∀ m ∈ l, m.ok) (he : memE l = 0) (ha : ∀ a ∈ az, ∀ m ∈ a.l, m.ok) : ∀ i, i ≤ az.length → Good (mkL l (az.take i))
  | 0, _ => good_new hok he
  | i + 1, h => by
    have hi : az[i]? = some az[i] := List.getElem?_eq_getElem (by omega)
    rw [mkL_snoc hi]
    exact good_step (good_mk hok he ha i (by omega)) (ha _ (List.mem_of_getElem? hi))
theorem Good.turnE {X : List Mem} (h : Good X) (a : Ac) : turnE X (tnV a.n) = 0 ∧ turnM X (tnV a.n) = turnA X a := by
  have := tnV_bd a.n
  have e := turn_a (n := tnV a.n) h.sound (by omega) (by omega)
  exact ⟨e, turnM_fine e⟩
theorem good_turnA {X : List Mem} (h : Good X) (a : Ac) : Good (turnA X a) := (h.turns _).1
theorem good_renE {X l : List Mem} (h : Good X) (he : memE l = 0) : renE X l = 0 ∧ renM X l = renL X l := by
  have e : renE X l = 0 := by rw [renE_mem h.sound, he]
  exact ⟨e, renM_fine e⟩
/-! ### Once more -/
theorem filL_same {a l : List Mem} (hf : Fine a) (hn : newL l = newL a) : filL a l = a := by
  have hlen : l.length = a.length := by rw [← newL_length l, hn, newL_length]
  unfold filL
  rw [hn]
  apply List.ext_getElem?
  intro i
  by_cases h : i < a.length
  · have hm := mAt_get h
    rw [List.getElem?_map, newL_at hm, hm]
    show some (fillM a (sumP l) ⟨(mAt a i).a, (mAt a i).p, 0⟩) = _
    have e : idxP (isA (mAt a i).a) a = (i : Int) := idxP_hit (fun j m' hj hm' => by unfold isA; rw [decide_eq_false]; have := hf.srt _ _ _ _ hj hm' hm; omega) hm (by unfold isA; exact decide_eq_true rfl)
    have e2 : fillQ a (sumP l) ⟨(mAt a i).a, (mAt a i).p, 0⟩ = (mAt a i).q := by
      unfold fillQ
      show (if 0 ≤ idxP (isA (mAt a i).a) a then (mAt a (idxP (isA (mAt a i).a) a).toNat).q else _) = _
      rw [e, if_pos (by omega), Int.toNat_natCast]
    unfold fillM; rw [e2]
  · rw [List.getElem?_eq_none (by simp [newL]; omega), List.getElem?_eq_none (by omega)]
theorem ren_same {a l : List Mem} (h : Good a) (hn : newL l = newL a) (hsp : ∀ x ∈ a, ∀ y ∈ a, x.q - y.q ≤ 2 * sumP a) : renL a l = a := by
  have hf := fine_of h.mem
  have hs := sumP_same hn
  unfold renL
  rw [filL_same hf hn, hs]
  have hsp2 : spanQ a ≤ 2 * sumP a := by
    obtain ⟨j, hj, e⟩ := loQ_in hf.pos a.length (Nat.le_refl _)
    obtain ⟨i, hi, e'⟩ := hiQ_in hf.pos a.length (Nat.le_refl _)
    unfold spanQ; rw [e, e']; exact hsp _ (mAt_mem hi) _ (mAt_mem hj)
  have e1 : narL (sumP a) a = a := by unfold narL; rw [if_pos hsp2]
  rw [e1]
  unfold cenL
  rw [h.mean]
  have : ∀ m : Mem, cenM 0 m = m := fun m => by unfold cenM; cases m; simp
  rw [show (cenM 0) = id from funext this, List.map_id]
theorem ren_span {c l : List Mem} (hT : 0 < sumP l) : ∀ x ∈ renL c l, ∀ y ∈ renL c l, x.q - y.q ≤ 2 * sumP l := fun x hx y hy => by
  unfold renL cenL at hx hy
  simp only [List.mem_map] at hx hy
  obtain ⟨x', hx', rfl⟩ := hx
  obtain ⟨y', hy', rfl⟩ := hy
  have := narL_span hT x' hx' y' hy'
  show x'.q - _ - (y'.q - _) ≤ _
  omega
theorem ren_twice {c l : List Mem} (hok : ∀ m ∈ l, m.ok) (he : memE l = 0) : renL (renL c l) l = renL c l ∧ renL (renL c l) (renL c l) = renL c l := by
  have hg := good_ren (c := c) hok he
  have hn := newL_ren c l
  have hs := sumP_same hn
  have hsp := ren_span (c := c) (play_new hok he).1.t0
  rw [← hs] at hsp
  exact ⟨ren_same hg hn.symm hsp, ren_same hg rfl hsp⟩
/-! ### Who has a turn -/
theorem sumS_qF_turn {X : List Mem} (h : Good X) {S : Nat → Bool} : ∀ K, (∀ j, j < K → S (chosen (sumP X) (turnsL (sumP X) j X)) = false) → sumS X.length S (qF (turnsL (sumP X) K X)) = sumS X.length S (qF X) + K * sumS X.length S (wF X) ∧ (∀ i, i < X.length → wF (turnsL (sumP X) K X) i = wF X i)
  | 0, _ => by simp [turnsL]
  | K + 1, hS => by
    obtain ⟨h1, h2⟩ := sumS_qF_turn h (S := S) K fun j hj => hS j (by omega)
    obtain ⟨hg, hs⟩ := h.turns K
    obtain ⟨_, _, hb, hq⟩ := hg.play.once (by omega) (by have := hg.play.t0; omega) (by have := hg.play.t0; omega)
    obtain ⟨hap, _⟩ := once_q hg.play.pos (hg.play.bd (by omega) (by have := hg.play.t0; omega))
    rw [hs, turnsL_length] at hq hb hap
    have hc := hS K (by omega)
    have e1 : sumS X.length S (qF (turnsL (sumP X) (K + 1) X)) = sumS X.length S (nextQ (wF (turnsL (sumP X) K X)) (qF (turnsL (sumP X) K X)) (chosen (sumP X) (turnsL (sumP X) K X)) (sumP X)) := by
      unfold sumS; exact sumI_congr fun i hi => by rw [← hq i hi]; rfl
    have e2 : sumS X.length S (wF (turnsL (sumP X) K X)) = sumS X.length S (wF X) := by unfold sumS; exact sumI_congr fun i hi => by rw [h2 i hi]
    refine ⟨?_, fun i hi => ?_⟩
    · rw [e1, out_step hb.1 hc, h1, e2, Int.natCast_add, Int.add_mul]; omega
    · rw [← h2 i hi]
      show (mAt (onceL (sumP X) (turnsL (sumP X) K X)) i).p = _
      rw [hap i hi]; rfl
theorem waitsC {X : List Mem} (h : Good X) {S : Nat → Bool} (hw : 2 * sumP X < 3 * sumS X.length S (wF X)) (hS : ∀ j, j < 11 * X.length → S (chosen (sumP X) (turnsL (sumP X) j X)) = false) : False := by
  obtain ⟨h1, _⟩ := sumS_qF_turn h (S := S) (11 * X.length) hS
  obtain ⟨hg, hs⟩ := h.turns (11 * X.length)
  have ht := h.play.t0
  have hn := h.play.pos
  have hsum := hg.sum
  rw [turnsL_length, ← sumI_qF, turnsL_length] at hsum
  have hlow := hg.play.low
  rw [hs, turnsL_length] at hlow
  have hlow0 := h.play.low
  generalize qF (turnsL (sumP X) (11 * X.length) X) = qK at *
  have a1 : sumS X.length (fun _ => true) (fun _ => 0) = 0 := by rw [sumS_all, sumI_zero]
  have b1 : -(2 * sumP X) * X.length ≤ sumS X.length S (qF X) := by
    have c1 : sumS X.length S (fun _ => -(2 * sumP X)) ≤ sumS X.length S (qF X) := sumS_le fun i hi _ => hlow0 i hi
    rw [sumS_const] at c1
    have c2 := card_le X.length S
    have c3 : (2 * sumP X) * sumS X.length S (fun _ => 1) ≤ (2 * sumP X) * X.length := Int.mul_le_mul_of_nonneg_left c2 (by omega)
    rw [Int.neg_mul] at c1 ⊢; omega
  have b2 : sumS X.length S qK ≤ X.length + (2 * sumP X) * X.length := by
    have c0 := sumS_not X.length S qK
    have c1 : sumS X.length (fun i => !S i) (fun _ => -(2 * sumP X)) ≤ sumS X.length (fun i => !S i) qK := sumS_le fun i hi _ => hlow i hi
    rw [sumS_const] at c1
    have c2 := card_le X.length (fun i => !S i)
    have c3 : (2 * sumP X) * sumS X.length (fun i => !S i) (fun _ => 1) ≤ (2 * sumP X) * X.length := Int.mul_le_mul_of_nonneg_left c2 (by omega)
    rw [Int.neg_mul] at c1; omega
  rw [h1] at b2
  generalize sumS X.length S (wF X) = w at *
  generalize sumS X.length S (qF X) = s0 at *
  obtain ⟨n, hn'⟩ : ∃ n : Int, n = X.length := ⟨_, rfl⟩
  have e1 : ((11 * X.length : Nat) : Int) * w = 11 * (n * w) := by push_cast; rw [← hn', Int.mul_assoc]
  rw [e1] at b2
  rw [← hn'] at b1 b2
  have e2 : n * (2 * sumP X + 1) ≤ n * (3 * w) := Int.mul_le_mul_of_nonneg_left (by omega) (by omega)
  have e3 : n * (2 * sumP X + 1) = 2 * (n * sumP X) + n := by rw [Int.mul_add, Int.mul_one, ← Int.mul_assoc, Int.mul_comm n 2, Int.mul_assoc]
  have e4 : n * (3 * w) = 3 * (n * w) := by rw [← Int.mul_assoc, Int.mul_comm n 3, Int.mul_assoc]
  have e5 : (2 * sumP X) * n = 2 * (n * sumP X) := by rw [Int.mul_assoc, Int.mul_comm n]
  have e6 : -(2 * sumP X) * n = -(2 * (n * sumP X)) := by rw [Int.neg_mul, e5]
  have e7 : n * 1 ≤ n * sumP X := Int.mul_le_mul_of_nonneg_left (by omega) (by omega)
  omega
theorem powV_sum (s : BitVec 64) (X : List Mem) : powV s X = sumS X.length (inB s) (wF X) := by
  have key : ∀ (l : List Mem) (k : Nat), powG s k l = sumI l.length (fun i => if inB s (k + i) then (mAt l i).p else 0) := by
    intro l
    induction l with
    | nil => intro k; rfl
    | cons m l ih =>
      intro k
      have hsh : ∀ (n : Nat) (f : Nat → Int), sumI (n + 1) f = f 0 + sumI n (fun i => f (i + 1)) := by
        intro n f
        induction n with
        | zero => simp [sumI]
        | succ n ihn => rw [sumI, ihn]; show _ = f 0 + (sumI n (fun i => f (i + 1)) + f (n + 1)); omega
      rw [List.length_cons, hsh]
      unfold powG
      rw [ih (k + 1)]
      congr 1
      exact sumI_congr fun i _ => by show (if inB s (k + 1 + i) then (mAt l i).p else 0) = if inB s (k + (i + 1)) then (mAt (m :: l) (i + 1)).p else 0; rw [show k + 1 + i = k + (i + 1) by omega]; rfl
  unfold powV sumS wF
  rw [key]
  exact sumI_congr fun i _ => by rw [Nat.zero_add]
theorem prop_made {X : List Mem} (h : Good X) {k : Nat} (hk : k ≤ 65535) : propE X k = 0 ∧ idxP (isA (propA X k)) X = (chosen (sumP X) (turnsL (sumP X) k X) : Int) := by
  have e := propE_fine (n := (k : Int)) h.sound (by omega)
  refine ⟨e, ?_⟩
  obtain ⟨hg, hs⟩ := h.turns k
  have hf := fine_of h.mem
  obtain ⟨c, hc'⟩ : ∃ c, c = chosen (sumP X) (turnsL (sumP X) k X) := ⟨_, rfl⟩
  have hc : c < (turnsL (sumP X) k X).length := by rw [hc']; exact chosen_lt hg.play.pos
  have hcX : c < X.length := by rwa [turnsL_length] at hc
  have ea : propA X k = (mAt X c).a := by
    unfold propA; rw [if_pos e, Int.toNat_natCast]
    unfold choA; rw [← hc', bumpL_mAt (mAt_get hc)]
    show (mAt (turnsL (sumP X) k X) c).a = _
    obtain ⟨x1, _⟩ := newL_mAt (turnsL (sumP X) k X) c
    obtain ⟨y1, _⟩ := newL_mAt X c
    rw [newL_turns hf.pos] at x1
    rw [← x1, y1]
  rw [ea, ← hc']
  have hm := mAt_get hcX
  exact idxP_hit (fun j m' hj hm' => by unfold isA; rw [decide_eq_false]; have := hf.srt _ _ _ _ hj hm' hm; omega) hm (by unfold isA; exact decide_eq_true rfl)
end Go.Proofs.Ytjhhpagcejgclaa
