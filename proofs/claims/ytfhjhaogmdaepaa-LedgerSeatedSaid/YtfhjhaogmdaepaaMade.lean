/- Plain: what turns keep. -/
import Derived.Test.YtfhjhaogmdaepaaTurn
set_option linter.unusedVariables false
set_option linter.unusedSimpArgs false
namespace Go.Proofs.Ytfhjhaogmdaepaa
open Go Go.RowKit
theorem newL_bump (T : Int) (l : List Mem) : newL (bumpL T l) = newL l := by unfold newL bumpL; rw [List.map_map]; rfl
theorem newL_once {T : Int} {l : List Mem} (h : 0 < l.length) : newL (onceL T l) = newL l := by
  unfold onceL
  have hlt : chosen T l < (bumpL T l).length := by rw [bumpL_length]; exact chosen_lt h
  have hm : (bumpL T l)[chosen T l]? = some ((bumpL T l)[chosen T l]) := List.getElem?_eq_getElem hlt
  rw [mAt_of hm, ← newL_bump T l]
  exact map_set_same (f := fun m : Mem => (⟨m.a, m.p, 0⟩ : Mem)) hm rfl
theorem newL_turns {T : Int} {l : List Mem} (h : 0 < l.length) : ∀ k, newL (turnsL T k l) = newL l
  | 0 => rfl
  | k + 1 => (newL_once (by rw [turnsL_length]; exact h)).trans (newL_turns h k)
theorem turnsL_add (T : Int) (a : Nat) (l : List Mem) : ∀ b, turnsL T b (turnsL T a l) = turnsL T (a + b) l
  | 0 => rfl
  | b + 1 => by show onceL T (turnsL T b (turnsL T a l)) = onceL T (turnsL T (a + b) l); rw [turnsL_add T a l b]
theorem sumP_same {l k : List Mem} (h : newL k = newL l) : sumP k = sumP l := by rw [← newL_sum k, h, newL_sum]
theorem memE_same {l k : List Mem} (h : newL k = newL l) : memE k = memE l := by rw [← newL_memE k, h, newL_memE]
theorem soundE_of {k : List Mem} (h : memE k = 0) (hb : ∀ m ∈ k, -(7 * sumP k) ≤ m.q ∧ m.q ≤ 7 * sumP k) : soundE k = 0 := by
  rw [soundE_mem h]
  have : k.any (outQ (sumP k)) = false := by
    rw [List.any_eq_false]
    intro m hm
    have := hb m hm
    unfold outQ; simp; omega
  rw [this]; rfl
theorem sound_turns {l : List Mem} (hok : ∀ m ∈ l, m.ok) (h : soundE l = 0) (k : Nat) : soundE (turnsL (sumP l) k l) = 0 ∧ sumP (turnsL (sumP l) k l) = sumP l := by
  have hs := (sane_of hok h).turns k
  have hn := newL_turns (T := sumP l) (sound_fine h).1.pos k
  have e := sumP_same hn
  exact ⟨soundE_of (by rw [memE_same hn]; exact memE_of_sound h) (by rw [e]; exact hs.bd), e⟩
theorem turn_a {l : List Mem} {n : Int} (h : soundE l = 0) (h0 : 0 ≤ n) (h1 : n ≤ 65536) : turnE l n = 0 := turnE_fine h (by omega)
theorem turnM_len {l : List Mem} {n : Int} {m : Nat} (h : l.length ≤ m) : (turnM l n).length ≤ m := by unfold turnM; split; rw [turnsL_length]; exact h; exact Nat.zero_le _
theorem turnM_ok {l : List Mem} {n : Int} (hok : ∀ m ∈ l, m.ok) : ∀ m ∈ turnM l n, m.ok := by
  unfold turnM
  split
  · rename_i h
    have hs : soundE l = 0 := by
      by_cases e : soundE l = 0
      · exact e
      · rw [turnE_bad e] at h; exact h
    exact ((sane_of hok hs).turns _).ok
  · intro m hm; cases hm
/-- What CouncilAdds compares. -/
theorem adds_prop {l : List Mem} {a : Int} (hok : ∀ m ∈ l, m.ok) (h : soundE l = 0) (h0 : 0 ≤ a) (h1 : a ≤ 65535) : propE l a = 0 ∧ propE (turnM l a) 0 = 0 ∧ propA (turnM l a) 0 = propA l a ∧ soundE (turnM l a) = 0 := by
  have e1 := turn_a h h0 (by omega)
  have e2 : propE l a = 0 := propE_fine h (by omega)
  obtain ⟨s1, s2⟩ := sound_turns hok h a.toNat
  rw [turnM_fine e1]
  have e3 : propE (turnsL (sumP l) a.toNat l) 0 = 0 := propE_fine s1 (by omega)
  refine ⟨e2, e3, ?_, s1⟩
  unfold propA
  rw [if_pos e2, if_pos e3, s2]; rfl
theorem adds_turn {l : List Mem} {a b : Int} (hok : ∀ m ∈ l, m.ok) (h : soundE l = 0) (h0 : 0 ≤ a) (h2 : 0 ≤ b) (h3 : b ≤ 65536 - a) : soundE (turnM l a) = 0 ∧ turnE (turnM l a) b = 0 ∧ turnE l (a + b) = 0 ∧ turnM (turnM l a) b = turnM l (a + b) := by
  have e1 := turn_a h h0 (by omega)
  obtain ⟨s1, s2⟩ := sound_turns hok h a.toNat
  have e2 := turn_a (n := a + b) h (by omega) (by omega)
  have e3 := turn_a s1 h2 (by omega)
  rw [turnM_fine e1, turnM_fine e2]
  refine ⟨s1, e3, e2, ?_⟩
  rw [turnM_fine e3, s2, turnsL_add, Int.toNat_add h0 h2]
end Go.Proofs.Ytfhjhaogmdaepaa
