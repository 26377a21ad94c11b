/- CouncilWaits holds outright. -/
import Derived.Test.YtjhhpagcejgclaaRows
import Derived.WalkKit
import Derived.ProofKit
import Derived.OpenShut
import Derived.ShutString
import Derived.ChangeOld
import Derived.Below
import Derived.SizedLaws
import Derived.JoinedCond
import Derived.Test.YtjhhpagcejgclaaCW
import Derived.Test.YtjhhpagcejgclaaCRa
set_option linter.unusedVariables false
set_option linter.unusedSimpArgs false
namespace Go.Proofs.Ytjhhpagcejgclaa
open Go Go.RowKit Go.ChangeShapes Go.WideShapes Go.ChangeAt
set_option maxRecDepth 100000
theorem councilWaits_own : ownKnob Try.prog.godebug = none := by kernel_rfl
theorem councilWaits_lifted (os : Os) (started : os.Started) (H : Type) (enc : TypeId × Value → H) :
    ReturnsInHanded {} Try.checked os 11 .any (Rows.councilWaitsSpec.pre6 enc Try.prog Try.f11 Rows.councilWaitsRow.domain false) (Rows.councilWaitsSpec.post enc Try.prog Try.f11 false true false false) := by
  refine returnsInHanded_of_change_sized (C := Try.checked) councilWaits_own started (by kernel_rfl) Try.func11
    (ChangeSpec.witness6 (enc := enc) (C := Try.checked) false ⟨#[], #[.slice none 0 0, .slice none 0 0, .int .u64 0], []⟩ 8 (by kernel_rfl) (by kernel_rfl) (by kernel_rfl) (by kernel_rfl)) ?_
  intro W base args ds gs before hval0 hW hcnd hsz0 _
  have hsz : (DataW.weightsEach Try.prog (Try.f11.params.toList ++ Rows.councilWaitsSpec.plain.varTypes Try.prog) (ds ++ gs)).all (· ≤ reachBytes) = true := hsz0
  have hval : ∀ (j : Nat) t v, Try.f11.params[j]? = some t → args[j]? = some v → Value.okWide Try.prog W .any base t v := hval0
  have hW' := hW
  obtain ⟨p, q, hA0, hV, rfl, hfz, hnd⟩ := hW
  have hA : DataW.TrodAll enc Try.prog W 0 (fun _ => true) true Try.f11.params.toList args.toList ds p := hA0
  have hAk := hA
  rw [Try.params11] at hA hval hsz hAk
  obtain ⟨v0, v1, v2, d0, d1, d2, p0, p1, p2, rfl, rfl, rfl, h0, h1, h2⟩ := trodAll_three hA
  obtain ⟨rfl, rfl⟩ := trodVars_none hV
  let gl : Nat → Obj := fun _ => .cells #[] 0
  have hok : (cx gl).ok W := fun i hi => absurd hi (Nat.not_lt_zero i)
  have key : Calls Try.prog 11 #[v0, v1, v2] W (fun e W' => e = .returned (.bool true) ∧ Below W.heap.size W W') := by
    obtain ⟨⟨base, c, l⟩, rfl, ⟨hc, _, hrow, hall⟩, _, hsm⟩ := Reads.argSlice rd_list.down (slB_spec ty_sl_22).1 (hval 0 22 v0 rfl rfl) h0
    have hsm := (hsm _ _ 0 hsz rfl rfl).1
    dsimp only at hc hrow hall hsm
    obtain ⟨⟨ab, ac, az⟩, rfl, ⟨hac, _, harow, haall⟩, _, hasm⟩ := Reads.argSlice rd_acts.down (slB_spec ty_sl_52).1 (hval 1 52 v1 rfl rfl) h1
    have hasm := hasm _ _ 1 hsz rfl rfl
    dsimp only at hac harow haall hasm
    have haz : ∀ a ∈ az, AcOk a := fun a ha => by
      obtain ⟨⟨x1, x2, x3, x4, x5⟩, _⟩ := haall a ha
      exact ⟨x2, le_of_small (hasm.2 a ha), x3, x4, x5⟩
    obtain ⟨xa, rfl, _, xb, xw⟩ := open_int Try.underlying32 (hval 2 32 v2 rfl rfl) h2
    have xf := fits_of_wf xw
    simp only [fits] at xf
    obtain ⟨x, rfl⟩ := int_bv (a := xa) (by omega) (by omega)
    exact SpecV.calls (councilWaits_walk (gl := gl) base c l hc (le_of_small hsm) (fun m hm => (hall m hm).1) ab ac az hac haz (ac_small hasm.1) x) hok ⟨hrow, harow, fun a ha => (haall a ha).1.1⟩
  refine key.mono fun e W' ⟨he, bel⟩ => ?_
  subst he
  have hlt := hW'.lt
  exact ⟨_, rfl, _, _, _, [], _, [], hW', trodAll_mk1 (shut_bool Try.underlying4 true), below_trodAll (by kernel_rfl) bel (by kernel_rfl) hAk (fun x hx => hlt x (List.mem_append_left _ hx)), rfl, bel.frame _, fun h => by cases h⟩
theorem councilWaits_over : Rows.councilWaitsRow.holds Try.pinned (OpenSpec.ofChange Rows.councilWaitsSpec) :=
  OpenClaim.holds_of_wide 11 Try.f11 rfl rfl rfl rfl rfl rfl rfl ⟨rfl, rfl, rfl, rfl, rfl⟩ rfl rfl rfl rfl rfl (by kernel_rfl) Try.func11 (by kernel_rfl)
    (of_decide_eq_true (by kernel_rfl)) (by unfold Func.isWrapper; first | (rw [if_pos (by decide +kernel)]; kernel_rfl) | (rw [if_neg (by decide +kernel)]; exact ⟨rfl, rfl⟩))
    (fun os started H enc _ => councilWaits_lifted os started H enc)
/-- The statement's proof. -/
theorem councilWaits_holds : Rows.CouncilWaitsSaid := councilWaits_over
#print axioms councilWaits_holds
end Go.Proofs.Ytjhhpagcejgclaa
