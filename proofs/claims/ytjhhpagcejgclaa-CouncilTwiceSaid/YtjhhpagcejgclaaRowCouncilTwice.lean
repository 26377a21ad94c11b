/- CouncilTwice holds outright. -/
import Derived.Test.YtjhhpagcejgclaaRows
import Derived.WalkKit
import Derived.ProofKit
import Derived.OpenShut
import Derived.ShutString
import Derived.ChangeOld
import Derived.Below
import Derived.SizedLaws
import Derived.JoinedCond
import Derived.Test.YtjhhpagcejgclaaCTw
import Derived.Test.YtjhhpagcejgclaaCRa
set_option linter.unusedVariables false
set_option linter.unusedSimpArgs false
namespace Go.Proofs.Ytjhhpagcejgclaa
open Go Go.RowKit Go.ChangeShapes Go.WideShapes Go.ChangeAt
set_option maxRecDepth 100000
theorem councilTwice_own : ownKnob Try.prog.godebug = none := by kernel_rfl
theorem councilTwice_lifted (os : Os) (started : os.Started) (H : Type) (enc : TypeId × Value → H) :
    ReturnsInHanded {} Try.checked os 12 .any (Rows.councilTwiceSpec.pre6 enc Try.prog Try.f12 Rows.councilTwiceRow.domain false) (Rows.councilTwiceSpec.post enc Try.prog Try.f12 false true false false) := by
  refine returnsInHanded_of_change_sized (C := Try.checked) councilTwice_own started (by kernel_rfl) Try.func12
    (ChangeSpec.witness6 (enc := enc) (C := Try.checked) false ⟨#[], #[.slice none 0 0, .slice none 0 0, .slice none 0 0], []⟩ 8 (by kernel_rfl) (by kernel_rfl) (by kernel_rfl) (by kernel_rfl)) ?_
  intro W base args ds gs before hval0 hW hcnd hsz0 _
  have hsz : (DataW.weightsEach Try.prog (Try.f12.params.toList ++ Rows.councilTwiceSpec.plain.varTypes Try.prog) (ds ++ gs)).all (· ≤ reachBytes) = true := hsz0
  have hval : ∀ (j : Nat) t v, Try.f12.params[j]? = some t → args[j]? = some v → Value.okWide Try.prog W .any base t v := hval0
  have hW' := hW
  obtain ⟨p, q, hA0, hV, rfl, hfz, hnd⟩ := hW
  have hA : DataW.TrodAll enc Try.prog W 0 (fun _ => true) true Try.f12.params.toList args.toList ds p := hA0
  have hAk := hA
  rw [Try.params12] at hA hval hsz hAk
  obtain ⟨v0, v1, v2, d0, d1, d2, p0, p1, p2, rfl, rfl, rfl, h0, h1, h2⟩ := trodAll_three hA
  obtain ⟨rfl, rfl⟩ := trodVars_none hV
  let gl : Nat → Obj := fun _ => .cells #[] 0
  have hok : (cx gl).ok W := fun i hi => absurd hi (Nat.not_lt_zero i)
  have key : Calls Try.prog 12 #[v0, v1, v2] W (fun e W' => e = .returned (.bool true) ∧ Below W.heap.size W W') := by
    obtain ⟨⟨base, c, l⟩, rfl, ⟨hc, _, hrow, hall⟩, _, hsm⟩ := Reads.argSlice rd_list.down (slB_spec ty_sl_22).1 (hval 0 22 v0 rfl rfl) h0
    have hsm := (hsm _ _ 0 hsz rfl rfl).1
    dsimp only at hc hrow hall hsm
    obtain ⟨⟨ab, ac, az⟩, rfl, ⟨hac, _, harow, haall⟩, _, hasm⟩ := Reads.argSlice rd_acts.down (slB_spec ty_sl_52).1 (hval 1 52 v1 rfl rfl) h1
    have hasm := hasm _ _ 1 hsz rfl rfl
    dsimp only at hac harow haall hasm
    have haz : ∀ a ∈ az, AcOk a := fun a ha => by
      obtain ⟨⟨x1, x2, x3, x4, x5⟩, _⟩ := haall a ha
      exact ⟨x2, le_of_small (hasm.2 a ha), x3, x4, x5⟩
    obtain ⟨⟨base1, c1, l1⟩, rfl, ⟨hc1, _, hrow1, hall1⟩, _, hsm1⟩ := Reads.argSlice rd_list.down (slB_spec ty_sl_22).1 (hval 2 22 v2 rfl rfl) h2
    have hsm1 := (hsm1 _ _ 2 hsz rfl rfl).1
    dsimp only at hc1 hrow1 hall1 hsm1
    exact SpecV.calls (councilTwice_walk (gl := gl) base c l hc (le_of_small hsm) (fun m hm => (hall m hm).1) ab ac az hac haz (ac_small hasm.1) base1 c1 l1 hc1 (le_of_small hsm1) fun m hm => (hall1 m hm).1) hok ⟨hrow, harow, fun a ha => (haall a ha).1.1, hrow1⟩
  refine key.mono fun e W' ⟨he, bel⟩ => ?_
  subst he
  have hlt := hW'.lt
  exact ⟨_, rfl, _, _, _, [], _, [], hW', trodAll_mk1 (shut_bool Try.underlying4 true), below_trodAll (by kernel_rfl) bel (by kernel_rfl) hAk (fun x hx => hlt x (List.mem_append_left _ hx)), rfl, bel.frame _, fun h => by cases h⟩
theorem councilTwice_over : Rows.councilTwiceRow.holds Try.pinned (OpenSpec.ofChange Rows.councilTwiceSpec) :=
  OpenClaim.holds_of_wide 12 Try.f12 rfl rfl rfl rfl rfl rfl rfl ⟨rfl, rfl, rfl, rfl, rfl⟩ rfl rfl rfl rfl rfl (by kernel_rfl) Try.func12 (by kernel_rfl)
    (of_decide_eq_true (by kernel_rfl)) (by unfold Func.isWrapper; first | (rw [if_pos (by decide +kernel)]; kernel_rfl) | (rw [if_neg (by decide +kernel)]; exact ⟨rfl, rfl⟩))
    (fun os started H enc _ => councilTwice_lifted os started H enc)
/-- The statement's proof. -/
theorem councilTwice_holds : Rows.CouncilTwiceSaid := councilTwice_over
#print axioms councilTwice_holds
end Go.Proofs.Ytjhhpagcejgclaa
