/- Go's sorts of members. Printed by gen.py. -/
import Derived.Test.YtfhjhaogmdaepaaGreatDoorSortK
import Derived.Test.YtfhjhaogmdaepaaGreatDoorL8A
import Derived.Test.YtfhjhaogmdaepaaGreatDoorChecked
set_option linter.unusedVariables false
set_option linter.unusedSimpArgs false
set_option maxRecDepth 100000
namespace Go.Proofs.YtfhjhaogmdaepaaGreatDoor
open Go Go.RowKit Go.Proofs Go.Sort Go.Shelf
def sortM_ren : Go.Shelf.Ren := ⟨fun | 6 => 88 | 15 => 141 | 14 => 140 | 28 => 190 | 29 => 191 | 20 => 181 | 21 => 183 | 22 => 184 | 23 => 185 | 24 => 186 | 25 => 187 | 26 => 188 | 27 => 189 | 46 => 214 | 47 => 215 | 48 => 216 | 49 => 217 | 50 => 218 | 57 => 233 | n => n, fun | 22 => 68 | 24 => 76 | 25 => 157 | 3 => 3 | 39 => 133 | 0 => 0 | 53 => 108 | 55 => 24 | 4 => 4 | 46 => 272 | 45 => 271 | 50 => 158 | 5 => 5 | 9 => 9 | 66 => 296 | 70 => 300 | 76 => 314 | 77 => 315 | n => n, fun | n => n⟩
theorem sortM : Go.Proofs.SlLaysF0.n6 Tryz.prog sortM_ren := {
  mixed := by kernel_rfl
  f6 := ⟨Tryz.f88.name, by decide, Tryz.func88.trans (congrArg some (by kernel_rfl))⟩
  f14 := ⟨Tryz.f140.name, by decide, Tryz.func140.trans (congrArg some (by kernel_rfl))⟩
  f15 := Tryz.func141.trans (congrArg some (by kernel_rfl))
  f20 := ⟨Tryz.f181.name, by decide, Tryz.func181.trans (congrArg some (by kernel_rfl))⟩
  f21 := ⟨Tryz.f183.name, by decide, Tryz.func183.trans (congrArg some (by kernel_rfl))⟩
  f22 := ⟨Tryz.f184.name, by decide, Tryz.func184.trans (congrArg some (by kernel_rfl))⟩
  f23 := ⟨Tryz.f185.name, by decide, Tryz.func185.trans (congrArg some (by kernel_rfl))⟩
  f24 := ⟨Tryz.f186.name, by decide, Tryz.func186.trans (congrArg some (by kernel_rfl))⟩
  f25 := ⟨Tryz.f187.name, by decide, Tryz.func187.trans (congrArg some (by kernel_rfl))⟩
  f26 := ⟨Tryz.f188.name, by decide, Tryz.func188.trans (congrArg some (by kernel_rfl))⟩
  f27 := ⟨Tryz.f189.name, by decide, Tryz.func189.trans (congrArg some (by kernel_rfl))⟩
  f28 := Tryz.func190.trans (congrArg some (by kernel_rfl))
  f29 := Tryz.func191.trans (congrArg some (by kernel_rfl))
  f46 := ⟨Tryz.f214.name, by decide, Tryz.func214.trans (congrArg some (by kernel_rfl))⟩
  f47 := Tryz.func215.trans (congrArg some (by kernel_rfl))
  f48 := Tryz.func216.trans (congrArg some (by kernel_rfl))
  f49 := ⟨Tryz.f217.name, by decide, Tryz.func217.trans (congrArg some (by kernel_rfl))⟩
  f50 := ⟨Tryz.f218.name, by decide, Tryz.func218.trans (congrArg some (by kernel_rfl))⟩
  f57 := ⟨Tryz.f233.name, by decide, Tryz.func233.trans (congrArg some (by kernel_rfl))⟩
  t0 := Tryz.underlying0
  a0 := Tryz.isAgg0
  z0 := Tryz.sizeOf0
  v0 := Tryz.zeroValue0
  t3 := Tryz.underlying3
  a3 := Tryz.isAgg3
  z3 := Tryz.sizeOf3
  v3 := Tryz.zeroValue3
  t4 := Tryz.underlying4
  a4 := Tryz.isAgg4
  z4 := Tryz.sizeOf4
  v4 := Tryz.zeroValue4
  t5 := Tryz.underlying5
  a5 := Tryz.isAgg5
  z5 := Tryz.sizeOf5
  v5 := Tryz.zeroValue5
  t9 := Tryz.underlying9
  a9 := Tryz.isAgg9
  z9 := Tryz.sizeOf9
  v9 := Tryz.zeroValue9
  t22 := Tryz.underlying68
  a22 := Tryz.isAgg68
  z22 := Tryz.sizeOf68
  v22 := Tryz.zeroValue68
  t25 := Tryz.underlying157
  a25 := Tryz.isAgg157
  z25 := Tryz.sizeOf157
  v25 := Tryz.zeroValue157
  t39 := Tryz.underlying133
  a39 := Tryz.isAgg133
  z39 := Tryz.sizeOf133
  v39 := Tryz.zeroValue133
  t45 := Tryz.underlying271
  a45 := Tryz.isAgg271
  z45 := Tryz.sizeOf271
  v45 := Tryz.zeroValue271
  t46 := Tryz.underlying272
  a46 := Tryz.isAgg272
  z46 := Tryz.sizeOf272
  v46 := Tryz.zeroValue272
  t50 := Tryz.underlying158
  a50 := Tryz.isAgg158
  z50 := Tryz.sizeOf158
  v50 := Tryz.zeroValue158
  t53 := Tryz.underlying108
  a53 := Tryz.isAgg108
  z53 := Tryz.sizeOf108
  v53 := Tryz.zeroValue108
  t55 := Tryz.underlying24
  a55 := Tryz.isAgg24
  z55 := Tryz.sizeOf24
  v55 := Tryz.zeroValue24
  t66 := Tryz.underlying296
  a66 := Tryz.isAgg296
  z66 := Tryz.sizeOf296
  v66 := Tryz.zeroValue296
  t70 := Tryz.underlying300
  a70 := Tryz.isAgg300
  z70 := Tryz.sizeOf300
  v70 := Tryz.zeroValue300
  t76 := Tryz.underlying314
  a76 := Tryz.isAgg314
  z76 := Tryz.sizeOf314
  v76 := Tryz.zeroValue314
  t77 := Tryz.underlying315
  a77 := Tryz.isAgg315
  z77 := Tryz.sizeOf315
  v77 := Tryz.zeroValue315 }
theorem ltOf_cmpA : ltOf (fun x y : Mem => cmpI x.a y.a) = ltA := by
  funext x y
  show decide (cmpI x.a y.a < 0) = decide (x.a < y.a)
  rw [decide_eq_decide]; unfold cmpI; split
  · exact ⟨fun _ => by assumption, fun _ => by decide⟩
  · split
    · exact ⟨fun h => absurd h (by decide), fun h => by omega⟩
    · exact ⟨fun h => absurd h (by decide), fun h => by omega⟩
theorem cmpI_neg (x y : Int) : cmpI x y < 0 ↔ x < y := by
  unfold cmpI; split
  · exact ⟨fun _ => by assumption, fun _ => by decide⟩
  · split
    · exact ⟨fun h => absurd h (by decide), fun h => by omega⟩
    · exact ⟨fun h => absurd h (by decide), fun h => by omega⟩
theorem cmpI_zero (x y : Int) : cmpI x y = 0 ↔ x = y := by
  unfold cmpI; split
  · exact ⟨fun h => absurd h (by decide), fun h => by omega⟩
  · split
    · exact ⟨fun h => absurd h (by decide), fun h => by omega⟩
    · exact ⟨fun _ => by omega, fun _ => rfl⟩
theorem btI_neg (x y : Mem) : btI x y < 0 ↔ bt x y = true := by
  rw [bt_iff]
  unfold btI orI
  split
  · rename_i h; rw [cmpI_neg]; rw [ne_eq, cmpI_zero] at h; omega
  · rename_i h; rw [cmpI_neg]; rw [ne_eq, cmpI_zero, Classical.not_not] at h; omega
theorem ltOf_bt : ltOf btI = bt := by
  funext x y
  show decide (btI x y < 0) = bt x y
  cases h : bt x y with
  | true => exact decide_eq_true ((btI_neg x y).2 h)
  | false => exact decide_eq_false fun h2 => by rw [(btI_neg x y).1 h2] at h; cases h
theorem half_nat (n : Nat) : shrI .u64 (n : Int) 1 = ((n / 2 : Nat) : Int) := by
  show (n : Int).fdiv (2 ^ 1) = _
  rw [Int.fdiv_eq_ediv_of_nonneg _ (by decide)]; omega
theorem sortM_ok {gl : Nat → Obj} (base : Option Addr) (cap : Nat) (d : Array Mem) (hsz : d.size < 4611686018427387904) : Spec (cx gl) 88 [.slice base d.size cap, .func (.func 89) #[] #[]] (fun _ _ => True) [ownS 76 3 (.slice base d.size cap) d.size (rc (d).toList)] (fun u rs => u = .tuple #[] ∧ ∃ d' : Array Mem, PermIn 0 d.size d d' ∧ SortedIn ltA 0 d.size d' ∧ rs = [ownS 76 3 (.slice base d.size cap) d.size (rc (d').toList)]) := by
  have h := sortFunc_of (C := cx gl) (α := Mem) sortM Tryz.isAgg76 Tryz.sizeOf76 fn_ca_89 (by rw [ltOf_cmpA]; exact swo_ltA) (fun x y => seats2_ok (gl := gl) x y) 76 base cap d hsz
  rw [ltOf_cmpA] at h
  exact h
theorem insM_ok {gl : Nat → Obj} (base : Option Addr) (cap : Nat) (d : Array Mem) (a b : Nat) (hab : a ≤ b) (hb : b ≤ d.size) (hsz : d.size < 4611686018427387904) : Spec (cx gl) 181 [.slice base d.size cap, .int .i64 a, .int .i64 b, .func (.func 84) #[] #[]] (fun _ _ => True) [ownS 76 3 (.slice base d.size cap) d.size (rc (d).toList)] (fun u rs => u = .tuple #[] ∧ ∃ d' : Array Mem, PermIn a b d d' ∧ SortedIn bt a b d' ∧ rs = [ownS 76 3 (.slice base d.size cap) d.size (rc (d').toList)]) := by
  have h := insertion_of (C := cx gl) (α := Mem) (ρ := sortM_ren) { sortM with } Tryz.isAgg76 Tryz.sizeOf76 fn_ca_84 (by rw [ltOf_bt]; exact swo_bt) (fun x y => seats1_ok (gl := gl) x y) 76 base cap d a b hab hb hsz
  rw [ltOf_bt] at h
  exact h
end Go.Proofs.YtfhjhaogmdaepaaGreatDoor
