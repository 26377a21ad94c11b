/- SealOwn holds for every script whose bulk is at most 1048576: no condition beyond the second form's own. -/
import Derived.Test.YtnaadddnbfnahaaDoorTie
import Derived.Test.YtnaadddnbfnahaaDoorCards
import Derived.SevenTiedAt
import Derived.JoinedCond
import Derived.Deep.DeepHandedRow
import Derived.Deep.DeepWitnessRowRef
import Derived.Test.YtnaadddnbfnahaaDoorW5
import Derived.Test.YtnaadddnbfnahaaDoorSRd2
set_option linter.unusedVariables false
set_option linter.unusedSimpArgs false
namespace Go.Proofs.YtnaadddnbfnahaaDoor
open Go Go.RowKit Go.ChangeShapes Go.WideShapes Go.ChangeAt
set_option maxRecDepth 100000
theorem sealOwnUpto_laid (os : Os) : laidMet Tryd.prog Rows.sealOwnUptoRow.laid ((World.doorLaid Tryd.prog 400 os).forCall (fun _ _ => 0) ⟨#[], #[.slice none 0 0], []⟩).memory :=
  laidMet_of_run' 8 (by kernel_rfl) (by kernel_rfl)
theorem sealOwnUpto_reads (os : Os) {H : Type} (enc : TypeId × Value → H) : ∃ places, DataW.whole enc Tryd.prog ((World.doorLaid Tryd.prog 400 os).forCall (fun _ _ => 0) ⟨#[], #[.slice none 0 0], []⟩).memory Tryd.f13.params.toList Rows.sealOwnSpec.vars false #[.slice none 0 0].toList 8 = some ([.nil], [], places) :=
  ⟨[], by kernel_rfl⟩
theorem sealOwnUpto_lifted (os : Os) (started : os.Started) (H : Type) (enc : TypeId × Value → H) (F : Stop.Interp) :
    ReturnsInHanded {} Tryd.checked os 13 .any ((Rows.OpenSpec.upto Rows.sealOwnSpec).preRow enc Tryd.prog Tryd.f13 Rows.sealOwnUptoRow.domain false Rows.sealOwnUptoRow.laid) (((Rows.OpenSpec.upto Rows.sealOwnSpec).at F).post enc Tryd.prog Tryd.f13 false true false false) := by
  obtain ⟨places, hx⟩ := sealOwnUpto_reads os enc
  refine returnsInHanded_of_row (C := Tryd.checked) (s := (Rows.OpenSpec.upto Rows.sealOwnSpec)) ownNone started (by kernel_rfl) Tryd.func13
    (witness_row_atRef (enc := enc) (C := Tryd.checked) false (World.doorLaid Tryd.prog 400 os) #[.slice none 0 0] rfl (by kernel_rfl) (by kernel_rfl) (by kernel_rfl)
      (OpenSpec.preRow_of_cond 8 hx (by kernel_rfl) (fun k hk => by cases hk; kernel_rfl) (by kernel_rfl) (sealOwnUpto_laid os))) ?_
  intro W base args ds gs before hval0 hW _ hcond hsz0 hL _ _
  have hsz : (DataW.weightsEach Tryd.prog (Tryd.f13.params.toList ++ Rows.sealOwnSpec.plain.varTypes Tryd.prog) (ds ++ gs)).all (· ≤ reachBytes) = true := hsz0
  have hval : ∀ (j : Nat) t v, Tryd.f13.params[j]? = some t → args[j]? = some v → Value.okWide Tryd.prog W .any base t v := hval0
  have hW' := hW
  obtain ⟨p, q, hA0, hV, rfl, hfz, hnd⟩ := hW
  have hA : DataW.TrodAll enc Tryd.prog W 0 (fun _ => true) true Tryd.f13.params.toList args.toList ds p := hA0
  have hAk := hA
  rw [Tryd.params13] at hA hval hsz hAk
  obtain ⟨v0, d0, rfl, rfl, h0⟩ := trodAll_one hA
  obtain ⟨rfl, rfl⟩ := trodVars_none hV
  have hbulk : Rows.uptoBulkAll [d0] ≤ 1048576 := by
    have h := hcond _ rfl
    rw [List.append_nil] at h
    exact of_decide_eq_true h
  obtain ⟨gl, hG, hok⟩ := globs_of_laid hL
  have key : Calls Tryd.prog 13 #[v0] W (fun e W' => e = .returned (.bool true) ∧ Below W.heap.size W W') := by
    obtain ⟨⟨base, c, ops⟩, rfl, ⟨hc, _, hrow, hall⟩, hbk, hsm⟩ := Reads.argSlice rd_script.down (slB_spec ty_sl_39).1 (hval 0 39 v0 rfl rfl) h0
    have hsm := hsm _ _ 0 hsz rfl rfl
    simp only [Rows.uptoBulkAll] at hbulk
    dsimp only at hbk
    rw [sum_ones'] at hbk
    exact SpecV.calls (sealOwn_walk hG base c ops (by omega) hsm.2) hok ⟨hrow, fun o ho => (hall o ho).1⟩
  refine key.mono fun e W' ⟨he, bel⟩ => ?_
  subst he
  have hlt := hW'.lt
  exact ⟨_, rfl, _, _, _, [], _, [], hW', trodAll_mk1 (shut_bool Tryd.underlying4 true), below_trodAll (by kernel_rfl) bel (by kernel_rfl) hAk (fun x hx => hlt x (List.mem_append_left _ hx)), rfl, bel.frame _, fun h => by cases h⟩
theorem sealOwnUpto_over : Rows.sealOwnUptoRow.holds Tryd.pinned (Rows.OpenSpec.upto Rows.sealOwnSpec) :=
  OpenClaim.holds_of_cond 13 Tryd.f13 rfl rfl rfl rfl rfl rfl rfl ⟨rfl, rfl, rfl, rfl, rfl⟩ rfl rfl rfl rfl rfl (by kernel_rfl) Tryd.func13 (by kernel_rfl)
    (of_decide_eq_true (by kernel_rfl)) (by unfold Func.isWrapper; first | (rw [if_pos (by decide +kernel)]; kernel_rfl) | (rw [if_neg (by decide +kernel)]; exact ⟨rfl, rfl⟩))
    (fun os started H enc _ F => by rw [OpenClaim.pre_eq_preRow]; exact sealOwnUpto_lifted os started H enc F)
/-- The card's proof. -/
theorem sealOwnUpto_holds : Rows.SealOwnUptoCardSaid :=
  Claim7.holds_tied_plain_at .later [] [.data, .data, .data] true (true, "d776f8285a95ca950801cb983e97306b70b2d9438c079d99e3ff1c6f3e7459f0") false
    sealOwnUpto_over (fun _ h => by cases h) (by kernel_rfl) (fun _ h => by cases h) sealOwnUpto_row_tie rfl ⟨rfl, rfl⟩ (by kernel_rfl) rfl
    (fun f fn hf hfn => by
      obtain rfl : f = 13 := Option.some.inj ((show Tryd.prog.funcNamed "assent/assentlaw03.SealOwn" = some 13 by kernel_rfl).symm.trans hf) |>.symm
      obtain rfl : fn = Tryd.f13 := (Option.some.inj (Tryd.func13.symm.trans hfn)).symm
      exact ⟨by kernel_rfl, fun j t ht => by
        rw [Tryd.params13] at ht
        have hm : t ∈ [39] := by simpa using Array.mem_of_getElem? ht
        have hall : ([39].all fun u => !Tryd.prog.wantsStandIn u) = true := by kernel_rfl
        exact (show Tryd.prog.wantsStandIn t = false by simpa using List.all_eq_true.1 hall t hm)⟩)
    (by kernel_rfl)
#print axioms sealOwnUpto_holds
end Go.Proofs.YtnaadddnbfnahaaDoor
