/- CouncilOverlaps holds outright. -/
import Derived.Test.YtjhhpagcejgclaaRows
import Derived.WalkKit
import Derived.ProofKit
import Derived.OpenShut
import Derived.ShutString
import Derived.ChangeOld
import Derived.Below
import Derived.SizedLaws
import Derived.JoinedCond
import Derived.Test.YtjhhpagcejgclaaCO
set_option linter.unusedVariables false
set_option linter.unusedSimpArgs false
namespace Go.Proofs.Ytjhhpagcejgclaa
open Go Go.RowKit Go.ChangeShapes Go.WideShapes Go.ChangeAt
set_option maxRecDepth 100000
theorem councilOverlaps_own : ownKnob Try.prog.godebug = none := by kernel_rfl
theorem councilOverlaps_lifted (os : Os) (started : os.Started) (H : Type) (enc : TypeId × Value → H) :
    ReturnsInHanded {} Try.checked os 4 .any (Rows.councilOverlapsSpec.pre6 enc Try.prog Try.f4 Rows.councilOverlapsRow.domain false) (Rows.councilOverlapsSpec.post enc Try.prog Try.f4 false true false false) := by
  refine returnsInHanded_of_change_sized (C := Try.checked) councilOverlaps_own started (by kernel_rfl) Try.func4
    (ChangeSpec.witness6 (enc := enc) (C := Try.checked) false ⟨#[], #[.agg #[.slice none 0 0], .int .u64 0, .int .u64 0], []⟩ 8 (by kernel_rfl) (by kernel_rfl) (by kernel_rfl) (by kernel_rfl)) ?_
  intro W base args ds gs before hval0 hW hcnd hsz0 _
  have hsz : (DataW.weightsEach Try.prog (Try.f4.params.toList ++ Rows.councilOverlapsSpec.plain.varTypes Try.prog) (ds ++ gs)).all (· ≤ reachBytes) = true := hsz0
  have hval : ∀ (j : Nat) t v, Try.f4.params[j]? = some t → args[j]? = some v → Value.okWide Try.prog W .any base t v := hval0
  have hW' := hW
  obtain ⟨p, q, hA0, hV, rfl, hfz, hnd⟩ := hW
  have hA : DataW.TrodAll enc Try.prog W 0 (fun _ => true) true Try.f4.params.toList args.toList ds p := hA0
  have hAk := hA
  rw [Try.params4] at hA hval hsz hAk
  obtain ⟨v0, v1, v2, d0, d1, d2, p0, p1, p2, rfl, rfl, rfl, h0, h1, h2⟩ := trodAll_three hA
  obtain ⟨rfl, rfl⟩ := trodVars_none hV
  let gl : Nat → Obj := fun _ => .cells #[] 0
  have hok : (cx gl).ok W := fun i hi => absurd hi (Nat.not_lt_zero i)
  have key : Calls Try.prog 4 #[v0, v1, v2] W (fun e W' => e = .returned (.bool true) ∧ Below W.heap.size W W') := by
    obtain ⟨⟨base, c, l⟩, rfl, ⟨hc, hrow, hall⟩, _, hsm⟩ := Reads.argStruct rd_council.down (fs := _) rfl (hval 0 25 v0 rfl rfl) h0
    have hsm := hsm _ _ 0 hsz rfl rfl
    dsimp only [Sl.val] at hc hrow hall hsm
    obtain ⟨xa, rfl, _, xb, xw⟩ := open_int Try.underlying32 (hval 1 32 v1 rfl rfl) h1
    have xf := fits_of_wf xw
    simp only [fits] at xf
    obtain ⟨x, rfl⟩ := int_bv (a := xa) (by omega) (by omega)
    obtain ⟨ya, rfl, _, yb, yw⟩ := open_int Try.underlying32 (hval 2 32 v2 rfl rfl) h2
    have yf := fits_of_wf yw
    simp only [fits] at yf
    obtain ⟨y, rfl⟩ := int_bv (a := ya) (by omega) (by omega)
    exact SpecV.calls (councilOverlaps_walk (gl := gl) base c l hc (le_of_small hsm) hall x y) hok hrow
  refine key.mono fun e W' ⟨he, bel⟩ => ?_
  subst he
  have hlt := hW'.lt
  exact ⟨_, rfl, _, _, _, [], _, [], hW', trodAll_mk1 (shut_bool Try.underlying4 true), below_trodAll (by kernel_rfl) bel (by kernel_rfl) hAk (fun x hx => hlt x (List.mem_append_left _ hx)), rfl, bel.frame _, fun h => by cases h⟩
theorem councilOverlaps_over : Rows.councilOverlapsRow.holds Try.pinned (OpenSpec.ofChange Rows.councilOverlapsSpec) :=
  OpenClaim.holds_of_wide 4 Try.f4 rfl rfl rfl rfl rfl rfl rfl ⟨rfl, rfl, rfl, rfl, rfl⟩ rfl rfl rfl rfl rfl (by kernel_rfl) Try.func4 (by kernel_rfl)
    (of_decide_eq_true (by kernel_rfl)) (by unfold Func.isWrapper; first | (rw [if_pos (by decide +kernel)]; kernel_rfl) | (rw [if_neg (by decide +kernel)]; exact ⟨rfl, rfl⟩))
    (fun os started H enc _ => councilOverlaps_lifted os started H enc)
/-- The statement's proof. -/
theorem councilOverlaps_holds : Rows.CouncilOverlapsSaid := councilOverlaps_over
#print axioms councilOverlaps_holds
end Go.Proofs.Ytjhhpagcejgclaa
