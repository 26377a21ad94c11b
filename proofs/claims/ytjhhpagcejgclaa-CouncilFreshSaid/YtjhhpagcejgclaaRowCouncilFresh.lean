/- CouncilFresh holds outright. -/
import Derived.Test.YtjhhpagcejgclaaRows
import Derived.WalkKit
import Derived.ProofKit
import Derived.OpenShut
import Derived.ShutString
import Derived.ChangeOld
import Derived.Below
import Derived.SizedLaws
import Derived.JoinedCond
import Derived.Test.YtjhhpagcejgclaaCF2
set_option linter.unusedVariables false
set_option linter.unusedSimpArgs false
namespace Go.Proofs.Ytjhhpagcejgclaa
open Go Go.RowKit Go.ChangeShapes Go.WideShapes Go.ChangeAt
set_option maxRecDepth 100000
theorem councilFresh_own : ownKnob Try.prog.godebug = none := by kernel_rfl
theorem councilFresh_lifted (os : Os) (started : os.Started) (H : Type) (enc : TypeId × Value → H) :
    ReturnsInHanded {} Try.checked os 13 .any (Rows.councilFreshSpec.pre6 enc Try.prog Try.f13 Rows.councilFreshRow.domain false) (Rows.councilFreshSpec.post enc Try.prog Try.f13 false true false false) := by
  refine returnsInHanded_of_change_sized (C := Try.checked) councilFresh_own started (by kernel_rfl) Try.func13
    (ChangeSpec.witness6 (enc := enc) (C := Try.checked) false ⟨#[], #[.slice none 0 0, .int .i64 0, .slice none 0 0], []⟩ 8 (by kernel_rfl) (by kernel_rfl) (by kernel_rfl) (by kernel_rfl)) ?_
  intro W base args ds gs before hval0 hW hcnd hsz0 _
  have hsz : (DataW.weightsEach Try.prog (Try.f13.params.toList ++ Rows.councilFreshSpec.plain.varTypes Try.prog) (ds ++ gs)).all (· ≤ reachBytes) = true := hsz0
  have hval : ∀ (j : Nat) t v, Try.f13.params[j]? = some t → args[j]? = some v → Value.okWide Try.prog W .any base t v := hval0
  have hW' := hW
  obtain ⟨p, q, hA0, hV, rfl, hfz, hnd⟩ := hW
  have hA : DataW.TrodAll enc Try.prog W 0 (fun _ => true) true Try.f13.params.toList args.toList ds p := hA0
  have hAk := hA
  rw [Try.params13] at hA hval hsz hAk
  obtain ⟨v0, v1, v2, d0, d1, d2, p0, p1, p2, rfl, rfl, rfl, h0, h1, h2⟩ := trodAll_three hA
  obtain ⟨rfl, rfl⟩ := trodVars_none hV
  let gl : Nat → Obj := fun _ => .cells #[] 0
  have hok : (cx gl).ok W := fun i hi => absurd hi (Nat.not_lt_zero i)
  have key : Calls Try.prog 13 #[v0, v1, v2] W (fun e W' => e = .returned (.bool true) ∧ Below W.heap.size W W') := by
    obtain ⟨⟨base, c, l⟩, rfl, ⟨hc, _, hrow, hall⟩, _, hsm⟩ := Reads.argSlice rd_list.down (slB_spec ty_sl_22).1 (hval 0 22 v0 rfl rfl) h0
    have hsm := (hsm _ _ 0 hsz rfl rfl).1
    dsimp only at hc hrow hall hsm
    obtain ⟨a, rfl, _, ab, aw⟩ := open_int Try.underlying3 (hval 1 3 v1 rfl rfl) h1
    have af := fits_of_wf aw
    simp only [fits] at af
    obtain ⟨⟨base2, c2, l2⟩, rfl, ⟨hc2, _, hrow2, hall2⟩, _, hsm2⟩ := Reads.argSlice rd_list.down (slB_spec ty_sl_22).1 (hval 2 22 v2 rfl rfl) h2
    have hsm2 := (hsm2 _ _ 2 hsz rfl rfl).1
    dsimp only at hc2 hrow2 hall2 hsm2
    exact SpecV.calls (councilFresh_walk (gl := gl) base c l hc (le_of_small hsm) (fun m hm => (hall m hm).1) a af.1 af.2 base2 c2 l2 hc2 (le_of_small hsm2) fun m hm => (hall2 m hm).1) hok ⟨hrow, hrow2⟩
  refine key.mono fun e W' ⟨he, bel⟩ => ?_
  subst he
  have hlt := hW'.lt
  exact ⟨_, rfl, _, _, _, [], _, [], hW', trodAll_mk1 (shut_bool Try.underlying4 true), below_trodAll (by kernel_rfl) bel (by kernel_rfl) hAk (fun x hx => hlt x (List.mem_append_left _ hx)), rfl, bel.frame _, fun h => by cases h⟩
theorem councilFresh_over : Rows.councilFreshRow.holds Try.pinned (OpenSpec.ofChange Rows.councilFreshSpec) :=
  OpenClaim.holds_of_wide 13 Try.f13 rfl rfl rfl rfl rfl rfl rfl ⟨rfl, rfl, rfl, rfl, rfl⟩ rfl rfl rfl rfl rfl (by kernel_rfl) Try.func13 (by kernel_rfl)
    (of_decide_eq_true (by kernel_rfl)) (by unfold Func.isWrapper; first | (rw [if_pos (by decide +kernel)]; kernel_rfl) | (rw [if_neg (by decide +kernel)]; exact ⟨rfl, rfl⟩))
    (fun os started H enc _ => councilFresh_lifted os started H enc)
/-- The statement's proof. -/
theorem councilFresh_holds : Rows.CouncilFreshSaid := councilFresh_over
#print axioms councilFresh_holds
end Go.Proofs.Ytjhhpagcejgclaa
