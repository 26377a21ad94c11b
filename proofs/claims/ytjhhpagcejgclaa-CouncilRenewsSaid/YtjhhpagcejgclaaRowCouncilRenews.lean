/- CouncilRenews holds outright. -/
import Derived.Test.YtjhhpagcejgclaaRows
import Derived.WalkKit
import Derived.ProofKit
import Derived.OpenShut
import Derived.ShutString
import Derived.ChangeOld
import Derived.Below
import Derived.SizedLaws
import Derived.JoinedCond
import Derived.Test.YtjhhpagcejgclaaCRn
set_option linter.unusedVariables false
set_option linter.unusedSimpArgs false
namespace Go.Proofs.Ytjhhpagcejgclaa
open Go Go.RowKit Go.ChangeShapes Go.WideShapes Go.ChangeAt
set_option maxRecDepth 100000
theorem councilRenews_own : ownKnob Try.prog.godebug = none := by kernel_rfl
theorem councilRenews_lifted (os : Os) (started : os.Started) (H : Type) (enc : TypeId × Value → H) :
    ReturnsInHanded {} Try.checked os 9 .any (Rows.councilRenewsSpec.pre6 enc Try.prog Try.f9 Rows.councilRenewsRow.domain false) (Rows.councilRenewsSpec.post enc Try.prog Try.f9 false true false false) := by
  refine returnsInHanded_of_change_sized (C := Try.checked) councilRenews_own started (by kernel_rfl) Try.func9
    (ChangeSpec.witness6 (enc := enc) (C := Try.checked) false ⟨#[], #[.agg #[.slice none 0 0], .slice none 0 0], []⟩ 8 (by kernel_rfl) (by kernel_rfl) (by kernel_rfl) (by kernel_rfl)) ?_
  intro W base args ds gs before hval0 hW hcnd hsz0 _
  have hsz : (DataW.weightsEach Try.prog (Try.f9.params.toList ++ Rows.councilRenewsSpec.plain.varTypes Try.prog) (ds ++ gs)).all (· ≤ reachBytes) = true := hsz0
  have hval : ∀ (j : Nat) t v, Try.f9.params[j]? = some t → args[j]? = some v → Value.okWide Try.prog W .any base t v := hval0
  have hW' := hW
  obtain ⟨p, q, hA0, hV, rfl, hfz, hnd⟩ := hW
  have hA : DataW.TrodAll enc Try.prog W 0 (fun _ => true) true Try.f9.params.toList args.toList ds p := hA0
  have hAk := hA
  rw [Try.params9] at hA hval hsz hAk
  obtain ⟨v0, v1, d0, d1, p0, p1, rfl, rfl, rfl, h0, h1⟩ := trodAll_two hA
  obtain ⟨rfl, rfl⟩ := trodVars_none hV
  let gl : Nat → Obj := fun _ => .cells #[] 0
  have hok : (cx gl).ok W := fun i hi => absurd hi (Nat.not_lt_zero i)
  have key : Calls Try.prog 9 #[v0, v1] W (fun e W' => e = .returned (.bool true) ∧ Below W.heap.size W W') := by
    obtain ⟨⟨base1, c1, l1⟩, rfl, ⟨hc1, hrow1, hall1⟩, _, hsm1⟩ := Reads.argStruct rd_council.down (fs := _) rfl (hval 0 25 v0 rfl rfl) h0
    have hsm1 := hsm1 _ _ 0 hsz rfl rfl
    dsimp only [Sl.val] at hc1 hrow1 hall1 hsm1
    obtain ⟨⟨base, c, l⟩, rfl, ⟨hc, _, hrow, hall⟩, _, hsm⟩ := Reads.argSlice rd_list.down (slB_spec ty_sl_22).1 (hval 1 22 v1 rfl rfl) h1
    have hsm := (hsm _ _ 1 hsz rfl rfl).1
    dsimp only at hc hrow hall hsm
    exact SpecV.calls (councilRenews_walk (gl := gl) base1 c1 l1 hc1 (le_of_small hsm1) hall1 base c l hc (le_of_small hsm) fun m hm => (hall m hm).1) hok ⟨hrow1, hrow⟩
  refine key.mono fun e W' ⟨he, bel⟩ => ?_
  subst he
  have hlt := hW'.lt
  exact ⟨_, rfl, _, _, _, [], _, [], hW', trodAll_mk1 (shut_bool Try.underlying4 true), below_trodAll (by kernel_rfl) bel (by kernel_rfl) hAk (fun x hx => hlt x (List.mem_append_left _ hx)), rfl, bel.frame _, fun h => by cases h⟩
theorem councilRenews_over : Rows.councilRenewsRow.holds Try.pinned (OpenSpec.ofChange Rows.councilRenewsSpec) :=
  OpenClaim.holds_of_wide 9 Try.f9 rfl rfl rfl rfl rfl rfl rfl ⟨rfl, rfl, rfl, rfl, rfl⟩ rfl rfl rfl rfl rfl (by kernel_rfl) Try.func9 (by kernel_rfl)
    (of_decide_eq_true (by kernel_rfl)) (by unfold Func.isWrapper; first | (rw [if_pos (by decide +kernel)]; kernel_rfl) | (rw [if_neg (by decide +kernel)]; exact ⟨rfl, rfl⟩))
    (fun os started H enc _ => councilRenews_lifted os started H enc)
/-- The statement's proof. -/
theorem councilRenews_holds : Rows.CouncilRenewsSaid := councilRenews_over
#print axioms councilRenews_holds
end Go.Proofs.Ytjhhpagcejgclaa
