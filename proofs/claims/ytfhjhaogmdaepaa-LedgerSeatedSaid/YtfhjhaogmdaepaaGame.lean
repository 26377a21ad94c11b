/- Plain: a council's turns are turns of the cup game. -/
import Derived.Test.YtfhjhaogmdaepaaMade
set_option linter.unusedVariables false
set_option linter.unusedSimpArgs false
namespace Go.Proofs.Ytfhjhaogmdaepaa
open Go Go.RowKit
def qF (l : List Mem) : Nat → Int := fun i => (mAt l i).q
def wF (l : List Mem) : Nat → Int := fun i => (mAt l i).p
theorem mAt_get {l : List Mem} {i : Nat} (h : i < l.length) : l[i]? = some (mAt l i) := by
  have : l[i]? = some l[i] := List.getElem?_eq_getElem h
  rw [mAt_of this]; exact this
theorem mAt_mem {l : List Mem} {i : Nat} (h : i < l.length) : mAt l i ∈ l := List.mem_of_getElem? (mAt_get h)
theorem mem_mAt {l : List Mem} {m : Mem} (h : m ∈ l) : ∃ i, i < l.length ∧ mAt l i = m := by
  obtain ⟨i, hi, e⟩ := List.mem_iff_getElem.1 h
  exact ⟨i, hi, mAt_of (by rw [List.getElem?_eq_getElem hi, e])⟩
theorem sumI_wF (l : List Mem) : sumI l.length (wF l) = sumP l := by
  have key : ∀ k, k ≤ l.length → sumI k (wF l) = sumP (l.take k) := by
    intro k
    induction k with
    | zero => intro _; rfl
    | succ k ih =>
      intro hk
      rw [sumP_snoc (mAt_get (l := l) (i := k) (by omega)), ← ih (by omega)]; rfl
  rw [key _ (Nat.le_refl _), List.take_length]
theorem p_le_sum {l : List Mem} (h : ∀ m ∈ l, 0 ≤ m.p) {i : Nat} (hi : i < l.length) : (mAt l i).p ≤ sumP l := by
  have h1 := sumP_snoc (mAt_get hi)
  have h2 := sumP_take h (i + 1)
  have h3 := sumP_nonneg (l := l.take i) fun m hm => h m (List.mem_of_mem_take hm)
  omega
theorem sumI_zero_all {n : Nat} {f : Nat → Int} (h : ∀ i, i < n → 0 ≤ f i) (hs : sumI n f = 0) : ∀ i, i < n → f i = 0 := by
  intro i hi
  have h1 : sumI n (fun j => if j = i then f i else 0) ≤ sumI n f := sumI_le fun j hj => by split; subst_vars; exact Int.le_refl _; exact h j hj
  rw [sumI_one hi, hs] at h1
  have := h i hi
  omega
/-- One turn where nothing is held at a bound. -/
theorem once_q {T : Int} {X : List Mem} (hpos : 0 < X.length) (hb : ∀ m ∈ X, m.q + m.p ≤ 7 * T ∧ -(7 * T) ≤ m.q + m.p - T) :
    (∀ i, i < X.length → mAt (onceL T X) i = ⟨(mAt X i).a, (mAt X i).p, nextQ (wF X) (qF X) (chosen T X) T i⟩) ∧ Best X.length (wF X) (qF X) (chosen T X) := by
  have bq : ∀ j, j < X.length → (mAt (bumpL T X) j) = ⟨(mAt X j).a, (mAt X j).p, (mAt X j).q + (mAt X j).p⟩ := fun j hj => by
    rw [bumpL_mAt (mAt_get hj)]
    have := hb _ (mAt_mem hj)
    unfold bumpM; rw [if_neg (by omega)]
  have hc := chosen_lt (T := T) hpos
  refine ⟨fun i hi => ?_, hc, fun j hj => ?_⟩
  · have hlt : i < (onceL T X).length := by rw [onceL_length]; exact hi
    obtain ⟨m, hm, ha, hp, hq⟩ := onceL_at (mAt_get hlt)
    obtain rfl : mAt X i = m := mAt_of hm
    have hbi := hb _ (mAt_mem hi)
    generalize mAt (onceL T X) i = x at *
    rcases hq with ⟨rfl, hne⟩ | ⟨rfl, he⟩
    · unfold bumpM nextQ qF wF; rw [if_neg (by omega), if_neg hne]; congr 1; omega
    · unfold payM bumpM nextQ qF wF; rw [if_pos he]; simp only []; rw [if_neg (show ¬ 7 * T < (mAt X i).q + (mAt X i).p by omega), if_neg (by omega)]
  · have := bestF_max (bumpL T X) X.length j hj
    rw [bq j hj] at this
    unfold chosen at hc
    rw [bq _ hc] at this
    exact this
/-- A council in play: its priorities keep within L and C + 15/4 T. -/
structure Play (C L T : Int) (X : List Mem) : Prop where
  few : X.length ≤ 64
  pos : 0 < X.length
  tot : sumP X = T
  t0 : 0 < T
  p0 : ∀ m ∈ X, 0 ≤ m.p
  cup : Cup X.length C T (qF X)
  low : ∀ i, i < X.length → L ≤ qF X i
  sum : 0 ≤ sumI X.length (qF X)
theorem Play.bd {C L T : Int} {X : List Mem} (h : Play C L T X) (hC : C ≤ 2 * T) (hL : -(6 * T) ≤ L) : ∀ m ∈ X, m.q + m.p ≤ 7 * T ∧ -(7 * T) ≤ m.q + m.p - T := fun m hm => by
  obtain ⟨i, hi, rfl⟩ := mem_mAt hm
  have h1 : 4 * (mAt X i).q ≤ 4 * C + 15 * T := h.cup.high h.few (Int.le_of_lt h.t0) hi
  have h2 : L ≤ (mAt X i).q := h.low i hi
  have h3 := p_le_sum h.p0 hi
  have h4 := h.p0 _ hm
  have := h.tot
  have := h.t0
  omega
theorem Play.once {C L T : Int} {X : List Mem} (h : Play C L T X) (hC : C ≤ 2 * T) (hL : -(6 * T) ≤ L) (hL2 : L ≤ 1 - T) :
    Play C L T (onceL T X) ∧ sumI X.length (qF (onceL T X)) = sumI X.length (qF X) ∧ Best X.length (wF X) (qF X) (chosen T X) ∧ (∀ i, i < X.length → qF (onceL T X) i = nextQ (wF X) (qF X) (chosen T X) T i) := by
  obtain ⟨h1, hb⟩ := once_q h.pos (h.bd hC hL)
  have hlen := onceL_length T X
  have hq : ∀ i, i < X.length → qF (onceL T X) i = nextQ (wF X) (qF X) (chosen T X) T i := fun i hi => by unfold qF; rw [h1 i hi]; rfl
  have hw : sumI X.length (wF X) = T := by rw [sumI_wF, h.tot]
  have hw0 : ∀ i, i < X.length → 0 ≤ wF X i := fun i hi => h.p0 _ (mAt_mem hi)
  have hs : sumI X.length (qF (onceL T X)) = sumI X.length (qF X) := by rw [sumI_congr hq, nextQ_sum hw hb.1]
  refine ⟨⟨by rw [hlen]; exact h.few, by rw [hlen]; exact h.pos, ?_, h.t0, fun m hm => ?_, ?_, ?_, ?_⟩, hs, hb, hq⟩
  · rw [sumP_same (newL_once h.pos), h.tot]
  · obtain ⟨i, hi, rfl⟩ := mem_mAt hm
    rw [hlen] at hi
    rw [h1 i hi]; show 0 ≤ (mAt X i).p; exact h.p0 _ (mAt_mem hi)
  · rw [hlen]
    have hc2 := Cup.step h.few hw hw0 hb h.cup
    intro S k hk hk1
    have e : sumS X.length S (qF (onceL T X)) = sumS X.length S (nextQ (wF X) (qF X) (chosen T X) T) := by
      unfold sumS; exact sumI_congr fun i hi => by rw [hq i hi]
    rw [e]; exact hc2 S k hk hk1
  · intro i hi
    rw [hlen] at hi
    rw [hq i hi]
    unfold nextQ
    have h2 := h.low i hi
    have h3 := hw0 i hi
    by_cases e : i = chosen T X
    · have h4 := best_pos hw h.t0 hb h.sum
      rw [← e] at h4
      rw [if_pos e]; omega
    · rw [if_neg e]; omega
  · rw [hlen, hs]; exact h.sum
theorem Play.turns {C L T : Int} {X : List Mem} (h : Play C L T X) (hC : C ≤ 2 * T) (hL : -(6 * T) ≤ L) (hL2 : L ≤ 1 - T) : ∀ k, Play C L T (turnsL T k X) ∧ sumI X.length (qF (turnsL T k X)) = sumI X.length (qF X)
  | 0 => ⟨h, rfl⟩
  | k + 1 => by
    obtain ⟨h1, h2⟩ := Play.turns h hC hL hL2 k
    obtain ⟨h3, h4, _⟩ := h1.once hC hL hL2
    rw [turnsL_length] at h4
    exact ⟨h3, h4.trans h2⟩
/-! ### From New on -/
def xL (l : List Mem) (k : Nat) : List Mem := turnsL (sumP l) k (newL l)
def cF (l : List Mem) (k : Nat) : Nat := chosen (sumP l) (xL l k)
/-- How often each was chosen. -/
def chF (l : List Mem) : Nat → Nat → Int
  | 0, _ => 0
  | k + 1, j => chF l k j + if j = cF l k then 1 else 0
def chL (l : List Mem) (k : Nat) : List Int := (List.range l.length).map (chF l k)
theorem xL_length (l : List Mem) (k : Nat) : (xL l k).length = l.length := by unfold xL; rw [turnsL_length, newL_length]
theorem play_new {l : List Mem} (hok : ∀ m ∈ l, m.ok) (he : memE l = 0) : Play 0 (1 - sumP l) (sumP l) (newL l) ∧ sumI l.length (qF (newL l)) = 0 := by
  have hf := fine_of he
  have hp0 : ∀ m ∈ l, 0 ≤ m.p := fun m hm => (hok m hm).2.1.1
  have hq0 : ∀ i, qF (newL l) i = 0 := fun i => by
    unfold qF mAt newL
    rw [List.getD_eq_getElem?_getD, List.getElem?_map]
    cases l[i]? <;> rfl
  have ht : 0 < sumP l := by
    have h1 := p_le_sum hp0 hf.pos
    have h2 := (hf.at_ (mAt_get hf.pos)).2.1
    have h3 := hp0 _ (mAt_mem hf.pos)
    omega
  have hs : sumI l.length (qF (newL l)) = 0 := by rw [sumI_congr (g := fun _ => 0) (fun i _ => hq0 i), sumI_zero]
  refine ⟨⟨by rw [newL_length]; exact hf.few, by rw [newL_length]; exact hf.pos, newL_sum l, ht, fun m hm => ?_, ?_, fun i _ => by rw [hq0]; omega, by rw [newL_length, hs]; exact Int.le_refl _⟩, hs⟩
  · simp only [newL, List.mem_map] at hm
    obtain ⟨m', hm', rfl⟩ := hm
    exact hp0 m' hm'
  · exact Cup.start (by rw [newL_length]; exact hf.few) (Int.le_of_lt ht) fun i _ => by rw [hq0]; exact Int.le_refl _
theorem play_x {l : List Mem} (hok : ∀ m ∈ l, m.ok) (he : memE l = 0) (k : Nat) : Play 0 (1 - sumP l) (sumP l) (xL l k) ∧ sumI l.length (qF (xL l k)) = 0 := by
  obtain ⟨h1, h2⟩ := play_new hok he
  have := h1.t0
  obtain ⟨h3, h4⟩ := h1.turns (by omega) (by omega) (Int.le_refl _) k
  rw [newL_length, h2] at h4
  exact ⟨h3, h4⟩
theorem xL_ok {l : List Mem} (hok : ∀ m ∈ l, m.ok) (he : memE l = 0) (k : Nat) : soundE (xL l k) = 0 ∧ sumP (xL l k) = sumP l ∧ ∀ m ∈ xL l k, m.ok := by
  have h0 := newL_soundE l (fun m hm => (hok m hm).2.1.1) he
  have h1 := sound_turns (newL_ok hok) h0 k
  have h2 := (sane_of (newL_ok hok) h0).turns k
  rw [newL_sum] at h1 h2
  exact ⟨h1.1, h1.2, h2.ok⟩
theorem xL_next {l : List Mem} (hok : ∀ m ∈ l, m.ok) (he : memE l = 0) (k : Nat) : turnE (xL l k) 1 = 0 ∧ turnM (xL l k) 1 = xL l (k + 1) := by
  obtain ⟨h1, h2, _⟩ := xL_ok hok he k
  have e := turn_a (n := 1) h1 (by omega) (by omega)
  exact ⟨e, by rw [turnM_fine e, h2]; rfl⟩
theorem cF_lt {l : List Mem} (h : 0 < l.length) (k : Nat) : cF l k < l.length := by
  have := chosen_lt (T := sumP l) (l := xL l k) (by rw [xL_length]; exact h)
  rwa [xL_length] at this
theorem xL_prop {l : List Mem} (hok : ∀ m ∈ l, m.ok) (he : memE l = 0) (k : Nat) : propE (xL l k) 0 = 0 ∧ idxP (isA (propA (xL l k) 0)) (xL l k) = (cF l k : Int) := by
  obtain ⟨h1, h2, h3⟩ := xL_ok hok he k
  have e := propE_fine (n := 0) h1 (by omega)
  refine ⟨e, ?_⟩
  have hf := (sound_fine h1).1
  have hc : chosen (sumP l) (xL l k) < (xL l k).length := chosen_lt hf.pos
  have hm := mAt_get hc
  have ea : propA (xL l k) 0 = (mAt (xL l k) (chosen (sumP l) (xL l k))).a := by
    unfold propA; rw [if_pos e, h2]
    show choA (sumP l) (xL l k) = _
    unfold choA; rw [bumpL_mAt hm]; rfl
  rw [ea]
  exact idxP_hit (fun j m' hj hm' => by unfold isA; rw [decide_eq_false]; have := hf.srt _ _ _ _ hj hm' hm; omega) hm (by unfold isA; exact decide_eq_true rfl)
/-- What a turn leaves: so often the power, less the total for each time. -/
theorem share_q {l : List Mem} (hok : ∀ m ∈ l, m.ok) (he : memE l = 0) : ∀ k j, j < l.length → (mAt (xL l k) j).p = (mAt l j).p ∧ (mAt (xL l k) j).q = k * (mAt l j).p - chF l k j * sumP l
  | 0, j, hj => by
    have : mAt (xL l 0) j = ⟨(mAt l j).a, (mAt l j).p, 0⟩ := mAt_of (newL_at (mAt_get hj))
    rw [this]
    refine ⟨rfl, ?_⟩
    show (0 : Int) = ((0 : Nat) : Int) * _ - 0 * _
    simp
  | k + 1, j, hj => by
    obtain ⟨h1, h2⟩ := share_q hok he k j hj
    have hp := (play_x hok he k).1
    have ht := hp.t0
    obtain ⟨h3, _⟩ := once_q (T := sumP l) hp.pos (hp.bd (by omega) (by omega))
    have h4 := h3 j (by rw [xL_length]; exact hj)
    have h5 : xL l (k + 1) = onceL (sumP l) (xL l k) := rfl
    rw [h5, h4]
    refine ⟨h1, ?_⟩
    show (mAt (xL l k) j).q + (mAt (xL l k) j).p - (if j = cF l k then sumP l else 0) = _
    rw [h2, h1]
    show _ = ((k + 1 : Nat) : Int) * _ - (chF l k j + if j = cF l k then 1 else 0) * sumP l
    rw [Int.natCast_add, Int.add_mul, Int.add_mul]
    split <;> simp <;> omega
theorem chF_bd (l : List Mem) : ∀ k j, 0 ≤ chF l k j ∧ chF l k j ≤ k
  | 0, j => ⟨Int.le_refl _, Int.le_refl _⟩
  | k + 1, j => by
    have := chF_bd l k j
    show 0 ≤ chF l k j + (if j = cF l k then 1 else 0) ∧ chF l k j + (if j = cF l k then 1 else 0) ≤ ((k + 1 : Nat) : Int)
    split <;> omega
theorem share_bd {l : List Mem} (hok : ∀ m ∈ l, m.ok) (he : memE l = 0) (k j : Nat) (hj : j < l.length) : -(sumP l) < (mAt (xL l k) j).q ∧ 4 * (mAt (xL l k) j).q ≤ 15 * sumP l := by
  have hp := (play_x hok he k).1
  have h1 := hp.low j (by rw [xL_length]; exact hj)
  have h2 := hp.cup.high hp.few (Int.le_of_lt hp.t0) (i := j) (by rw [xL_length]; exact hj)
  unfold qF at h1 h2
  omega
/-- Behind as many turns as the total all are 0. -/
theorem share_end {l : List Mem} (hok : ∀ m ∈ l, m.ok) (he : memE l = 0) (k : Nat) (hk : (k : Int) = sumP l) (j : Nat) (hj : j < l.length) : (mAt (xL l k) j).q = 0 ∧ chF l k j = (mAt l j).p := by
  have ht := (play_x hok he k).1.t0
  have e : ∀ i, i < l.length → qF (xL l k) i = sumP l * ((mAt l i).p - chF l k i) := fun i hi => by
    unfold qF; rw [(share_q hok he k i hi).2, hk, Int.mul_sub, Int.mul_comm (chF l k i)]
  have nn : ∀ i, i < l.length → 0 ≤ qF (xL l k) i := fun i hi => by
    have h1 := (share_bd hok he k i hi).1
    have h2 := e i hi
    unfold qF at h2 ⊢
    rw [h2] at h1 ⊢
    have h3 : -1 < (mAt l i).p - chF l k i := by
      rcases Int.lt_or_le (-1) ((mAt l i).p - chF l k i) with h | h
      · exact h
      · have : sumP l * ((mAt l i).p - chF l k i) ≤ sumP l * (-1) := Int.mul_le_mul_of_nonneg_left h (Int.le_of_lt ht)
        omega
    exact Int.mul_nonneg (Int.le_of_lt ht) (by omega)
  have z := sumI_zero_all nn (play_x hok he k).2 j hj
  refine ⟨z, ?_⟩
  rw [e j hj] at z
  rcases Int.mul_eq_zero.1 z with h | h <;> omega
theorem chL_length (l : List Mem) (k : Nat) : (chL l k).length = l.length := by simp [chL]
theorem chL_at {l : List Mem} {k j : Nat} (h : j < l.length) : (ints .i64 (chL l k))[j]? = some (.int .i64 (chF l k j)) := by
  simp [ints, chL, h]
theorem chL_zero (l : List Mem) : List.replicate l.length (Value.int .i64 0) = ints .i64 (chL l 0) := by
  apply List.ext_getElem?
  intro i
  simp only [ints, chL, List.getElem?_map, List.getElem?_replicate, List.getElem?_range']
  by_cases h : i < l.length
  · simp [h, chF]
  · simp [h]
theorem chL_step {l : List Mem} {k c : Nat} (hc : c = cF l k) (h : c < l.length) : (ints .i64 (chL l k)).set c (.int .i64 (chF l k c + 1)) = ints .i64 (chL l (k + 1)) := by
  apply List.ext_getElem?
  intro i
  rw [List.getElem?_set]
  by_cases e : c = i
  · subst e
    rw [if_pos rfl, if_pos (by simp [ints, chL, h]), chL_at h]
    show _ = some (Value.int .i64 (chF l k c + if c = cF l k then 1 else 0))
    rw [if_pos hc]
  · rw [if_neg e]
    by_cases h2 : i < l.length
    · rw [chL_at h2, chL_at h2]
      show _ = some (Value.int .i64 (chF l k i + if i = cF l k then 1 else 0))
      rw [if_neg (by omega)]; simp
    · simp [ints, chL, h2]
end Go.Proofs.Ytfhjhaogmdaepaa
