import Derived.Test.YtfhjhaogmdaepaaRows
import Derived.WalkKit
import Derived.ProofKit
import Derived.OpenShut
import Derived.ShutString
import Derived.ChangeOld
import Derived.Below
import Derived.SizedLaws
import Derived.JoinedCond
import Derived.Test.YtfhjhaogmdaepaaL8S
import Derived.Test.YtfhjhaogmdaepaaLRd
set_option linter.unusedVariables false
set_option linter.unusedSimpArgs false
namespace Go.Proofs.Ytfhjhaogmdaepaa
open Go Go.RowKit Go.ChangeShapes Go.WideShapes Go.ChangeAt
set_option maxRecDepth 100000
theorem ledgerSounds_own : ownKnob Try.prog.godebug = none := by kernel_rfl
theorem ledgerSounds_lifted (os : Os) (started : os.Started) (H : Type) (enc : TypeId × Value → H) :
    ReturnsInHanded {} Try.checked os 4 .any (Rows.ledgerSoundsSpec.pre6 enc Try.prog Try.f4 Rows.ledgerSoundsRow.domain false) (Rows.ledgerSoundsSpec.post enc Try.prog Try.f4 false true false false) := by
  refine returnsInHanded_of_change_sized (C := Try.checked) ledgerSounds_own started (by kernel_rfl) Try.func4
    (ChangeSpec.witness6 (enc := enc) (C := Try.checked) false ⟨#[], #[.agg #[.slice none 0 0, .slice none 0 0, .int .u64 0, .int .u64 0], .int .u64 0, .agg #[.int .u64 0, .int .i64 0, .int .u64 0, .int .u64 0, .int .u64 0, .int .i64 0, .int .u64 0, .int .u64 0, .int .u64 0, .int .u64 0, .int .u64 0, .int .u64 0]], []⟩ 8 (by kernel_rfl) (by kernel_rfl) (by kernel_rfl) (by kernel_rfl)) ?_
  intro W base args ds gs before hval0 hW hcnd hsz0 _
  have hsz : (DataW.weightsEach Try.prog (Try.f4.params.toList ++ Rows.ledgerSoundsSpec.plain.varTypes Try.prog) (ds ++ gs)).all (· ≤ reachBytes) = true := hsz0
  have hval : ∀ (j : Nat) t v, Try.f4.params[j]? = some t → args[j]? = some v → Value.okWide Try.prog W .any base t v := hval0
  have hW' := hW
  obtain ⟨p, q, hA0, hV, rfl, hfz, hnd⟩ := hW
  have hA : DataW.TrodAll enc Try.prog W 0 (fun _ => true) true Try.f4.params.toList args.toList ds p := hA0
  have hAk := hA
  rw [Try.params4] at hA hval hsz hAk
  obtain ⟨v0, v1, v2, d0, d1, d2, p0, p1, p2, rfl, rfl, rfl, h0, h1, h2⟩ := trodAll_three hA
  obtain ⟨rfl, rfl⟩ := trodVars_none hV
  let gl : Nat → Obj := fun _ => .cells #[] 0
  have hok : (cx gl).ok W := fun i hi => absurd hi (Nat.not_lt_zero i)
  have key : Calls Try.prog 4 #[v0, v1, v2] W (fun e W' => e = .returned (.bool true) ∧ Below W.heap.size W W') := by
    obtain ⟨l, rfl, hl, _, hsl⟩ := Reads.argStruct rd_led.down (fs := _) rfl (hval 0 29 v0 rfl rfl) h0
    obtain ⟨p, rfl, hp, _, hsp⟩ := Reads.argStruct rd_par.down (fs := _) rfl (hval 2 25 v2 rfl rfl) h2
    obtain ⟨a, rfl⟩ := okWide_int ty_int_35 (hval 1 35 v1 rfl rfl)
    have hsm := hsl _ _ 0 hsz rfl rfl
    simp only [reachBytes] at hsm
    exact SpecV.calls (ledgerSounds_walk l.s.b l.s.c l.s.xs hl.hc hl.ok l.r.b l.r.c l.r.xs hl.hc' hl.ok' l.bu l.su hl.bu hl.su (by omega) (by omega) a p) hok ⟨hl.row, hl.row'⟩
  refine key.mono fun e W' ⟨he, bel⟩ => ?_
  subst he
  have hlt := hW'.lt
  exact ⟨_, rfl, _, _, _, [], _, [], hW', trodAll_mk1 (shut_bool Try.underlying4 true), below_trodAll (by kernel_rfl) bel (by kernel_rfl) hAk (fun x hx => hlt x (List.mem_append_left _ hx)), rfl, bel.frame _, fun h => by cases h⟩
theorem ledgerSounds_over : Rows.ledgerSoundsRow.holds Try.pinned (OpenSpec.ofChange Rows.ledgerSoundsSpec) :=
  OpenClaim.holds_of_wide 4 Try.f4 rfl rfl rfl rfl rfl rfl rfl ⟨rfl, rfl, rfl, rfl, rfl⟩ rfl rfl rfl rfl rfl (by kernel_rfl) Try.func4 (by kernel_rfl)
    (of_decide_eq_true (by kernel_rfl)) (by unfold Func.isWrapper; first | (rw [if_pos (by decide +kernel)]; kernel_rfl) | (rw [if_neg (by decide +kernel)]; exact ⟨rfl, rfl⟩))
    (fun os started H enc _ => ledgerSounds_lifted os started H enc)
/-- The statement's proof. -/
theorem ledgerSounds_holds : Rows.LedgerSoundsSaid := ledgerSounds_over
#print axioms ledgerSounds_holds
end Go.Proofs.Ytfhjhaogmdaepaa
