/- Go's sorts of members. Printed by gen.py. -/
import Derived.Test.YtfhjhaogmdaepaaSortK
import Derived.Test.YtfhjhaogmdaepaaL8A
import Derived.Test.YtfhjhaogmdaepaaChecked
set_option linter.unusedVariables false
set_option linter.unusedSimpArgs false
set_option maxRecDepth 100000
namespace Go.Proofs.Ytfhjhaogmdaepaa
open Go Go.RowKit Go.Proofs Go.Sort Go.Shelf
def sortM_ren : Go.Shelf.Ren := ⟨fun | 6 => 29 | 15 => 43 | 14 => 42 | 28 => 56 | 29 => 57 | 20 => 47 | 21 => 49 | 22 => 50 | 23 => 51 | 24 => 52 | 25 => 53 | 26 => 54 | 27 => 55 | 46 => 61 | 47 => 62 | 48 => 63 | 49 => 64 | 50 => 65 | 57 => 67 | n => n, fun | 22 => 33 | 24 => 37 | 25 => 60 | 3 => 3 | 39 => 76 | 0 => 0 | 53 => 90 | 55 => 23 | 4 => 4 | 46 => 84 | 45 => 83 | 50 => 77 | 5 => 5 | 9 => 9 | 66 => 94 | 70 => 98 | 76 => 100 | 77 => 101 | n => n, fun | n => n⟩
theorem sortM : Go.Proofs.SlLaysF0.n6 Try.prog sortM_ren := {
  mixed := by kernel_rfl
  f6 := ⟨Try.f29.name, by decide, Try.func29.trans (congrArg some (by kernel_rfl))⟩
  f14 := ⟨Try.f42.name, by decide, Try.func42.trans (congrArg some (by kernel_rfl))⟩
  f15 := Try.func43.trans (congrArg some (by kernel_rfl))
  f20 := ⟨Try.f47.name, by decide, Try.func47.trans (congrArg some (by kernel_rfl))⟩
  f21 := ⟨Try.f49.name, by decide, Try.func49.trans (congrArg some (by kernel_rfl))⟩
  f22 := ⟨Try.f50.name, by decide, Try.func50.trans (congrArg some (by kernel_rfl))⟩
  f23 := ⟨Try.f51.name, by decide, Try.func51.trans (congrArg some (by kernel_rfl))⟩
  f24 := ⟨Try.f52.name, by decide, Try.func52.trans (congrArg some (by kernel_rfl))⟩
  f25 := ⟨Try.f53.name, by decide, Try.func53.trans (congrArg some (by kernel_rfl))⟩
  f26 := ⟨Try.f54.name, by decide, Try.func54.trans (congrArg some (by kernel_rfl))⟩
  f27 := ⟨Try.f55.name, by decide, Try.func55.trans (congrArg some (by kernel_rfl))⟩
  f28 := Try.func56.trans (congrArg some (by kernel_rfl))
  f29 := Try.func57.trans (congrArg some (by kernel_rfl))
  f46 := ⟨Try.f61.name, by decide, Try.func61.trans (congrArg some (by kernel_rfl))⟩
  f47 := Try.func62.trans (congrArg some (by kernel_rfl))
  f48 := Try.func63.trans (congrArg some (by kernel_rfl))
  f49 := ⟨Try.f64.name, by decide, Try.func64.trans (congrArg some (by kernel_rfl))⟩
  f50 := ⟨Try.f65.name, by decide, Try.func65.trans (congrArg some (by kernel_rfl))⟩
  f57 := ⟨Try.f67.name, by decide, Try.func67.trans (congrArg some (by kernel_rfl))⟩
  t0 := Try.underlying0
  a0 := Try.isAgg0
  z0 := Try.sizeOf0
  v0 := Try.zeroValue0
  t3 := Try.underlying3
  a3 := Try.isAgg3
  z3 := Try.sizeOf3
  v3 := Try.zeroValue3
  t4 := Try.underlying4
  a4 := Try.isAgg4
  z4 := Try.sizeOf4
  v4 := Try.zeroValue4
  t5 := Try.underlying5
  a5 := Try.isAgg5
  z5 := Try.sizeOf5
  v5 := Try.zeroValue5
  t9 := Try.underlying9
  a9 := Try.isAgg9
  z9 := Try.sizeOf9
  v9 := Try.zeroValue9
  t22 := Try.underlying33
  a22 := Try.isAgg33
  z22 := Try.sizeOf33
  v22 := Try.zeroValue33
  t25 := Try.underlying60
  a25 := Try.isAgg60
  z25 := Try.sizeOf60
  v25 := Try.zeroValue60
  t39 := Try.underlying76
  a39 := Try.isAgg76
  z39 := Try.sizeOf76
  v39 := Try.zeroValue76
  t45 := Try.underlying83
  a45 := Try.isAgg83
  z45 := Try.sizeOf83
  v45 := Try.zeroValue83
  t46 := Try.underlying84
  a46 := Try.isAgg84
  z46 := Try.sizeOf84
  v46 := Try.zeroValue84
  t50 := Try.underlying77
  a50 := Try.isAgg77
  z50 := Try.sizeOf77
  v50 := Try.zeroValue77
  t53 := Try.underlying90
  a53 := Try.isAgg90
  z53 := Try.sizeOf90
  v53 := Try.zeroValue90
  t55 := Try.underlying23
  a55 := Try.isAgg23
  z55 := Try.sizeOf23
  v55 := Try.zeroValue23
  t66 := Try.underlying94
  a66 := Try.isAgg94
  z66 := Try.sizeOf94
  v66 := Try.zeroValue94
  t70 := Try.underlying98
  a70 := Try.isAgg98
  z70 := Try.sizeOf98
  v70 := Try.zeroValue98
  t76 := Try.underlying100
  a76 := Try.isAgg100
  z76 := Try.sizeOf100
  v76 := Try.zeroValue100
  t77 := Try.underlying101
  a77 := Try.isAgg101
  z77 := Try.sizeOf101
  v77 := Try.zeroValue101 }
theorem ltOf_cmpA : ltOf (fun x y : Mem => cmpI x.a y.a) = ltA := by
  funext x y
  show decide (cmpI x.a y.a < 0) = decide (x.a < y.a)
  rw [decide_eq_decide]; unfold cmpI; split
  · exact ⟨fun _ => by assumption, fun _ => by decide⟩
  · split
    · exact ⟨fun h => absurd h (by decide), fun h => by omega⟩
    · exact ⟨fun h => absurd h (by decide), fun h => by omega⟩
theorem cmpI_neg (x y : Int) : cmpI x y < 0 ↔ x < y := by
  unfold cmpI; split
  · exact ⟨fun _ => by assumption, fun _ => by decide⟩
  · split
    · exact ⟨fun h => absurd h (by decide), fun h => by omega⟩
    · exact ⟨fun h => absurd h (by decide), fun h => by omega⟩
theorem cmpI_zero (x y : Int) : cmpI x y = 0 ↔ x = y := by
  unfold cmpI; split
  · exact ⟨fun h => absurd h (by decide), fun h => by omega⟩
  · split
    · exact ⟨fun h => absurd h (by decide), fun h => by omega⟩
    · exact ⟨fun _ => by omega, fun _ => rfl⟩
theorem btI_neg (x y : Mem) : btI x y < 0 ↔ bt x y = true := by
  rw [bt_iff]
  unfold btI orI
  split
  · rename_i h; rw [cmpI_neg]; rw [ne_eq, cmpI_zero] at h; omega
  · rename_i h; rw [cmpI_neg]; rw [ne_eq, cmpI_zero, Classical.not_not] at h; omega
theorem ltOf_bt : ltOf btI = bt := by
  funext x y
  show decide (btI x y < 0) = bt x y
  cases h : bt x y with
  | true => exact decide_eq_true ((btI_neg x y).2 h)
  | false => exact decide_eq_false fun h2 => by rw [(btI_neg x y).1 h2] at h; cases h
theorem half_nat (n : Nat) : shrI .u64 (n : Int) 1 = ((n / 2 : Nat) : Int) := by
  show (n : Int).fdiv (2 ^ 1) = _
  rw [Int.fdiv_eq_ediv_of_nonneg _ (by decide)]; omega
theorem sortM_ok {gl : Nat → Obj} (base : Option Addr) (cap : Nat) (d : Array Mem) (hsz : d.size < 4611686018427387904) : Spec (cx gl) 29 [.slice base d.size cap, .func (.func 30) #[] #[]] (fun _ _ => True) [ownS 37 3 (.slice base d.size cap) d.size (rc (d).toList)] (fun u rs => u = .tuple #[] ∧ ∃ d' : Array Mem, PermIn 0 d.size d d' ∧ SortedIn ltA 0 d.size d' ∧ rs = [ownS 37 3 (.slice base d.size cap) d.size (rc (d').toList)]) := by
  have h := sortFunc_of (C := cx gl) (α := Mem) sortM Try.isAgg37 Try.sizeOf37 fn_ca_30 (by rw [ltOf_cmpA]; exact swo_ltA) (fun x y => seats2_ok (gl := gl) x y) 37 base cap d hsz
  rw [ltOf_cmpA] at h
  exact h
theorem insM_ok {gl : Nat → Obj} (base : Option Addr) (cap : Nat) (d : Array Mem) (a b : Nat) (hab : a ≤ b) (hb : b ≤ d.size) (hsz : d.size < 4611686018427387904) : Spec (cx gl) 47 [.slice base d.size cap, .int .i64 a, .int .i64 b, .func (.func 25) #[] #[]] (fun _ _ => True) [ownS 37 3 (.slice base d.size cap) d.size (rc (d).toList)] (fun u rs => u = .tuple #[] ∧ ∃ d' : Array Mem, PermIn a b d d' ∧ SortedIn bt a b d' ∧ rs = [ownS 37 3 (.slice base d.size cap) d.size (rc (d').toList)]) := by
  have h := insertion_of (C := cx gl) (α := Mem) (ρ := sortM_ren) { sortM with } Try.isAgg37 Try.sizeOf37 fn_ca_25 (by rw [ltOf_bt]; exact swo_bt) (fun x y => seats1_ok (gl := gl) x y) 37 base cap d a b hab hb hsz
  rw [ltOf_bt] at h
  exact h
end Go.Proofs.Ytfhjhaogmdaepaa
