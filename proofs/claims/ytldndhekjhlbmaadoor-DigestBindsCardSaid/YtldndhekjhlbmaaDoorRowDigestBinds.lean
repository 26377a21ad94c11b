/- DigestBinds holds for every list, proof and item: no condition beyond the card's own. -/
import Derived.Test.YtldndhekjhlbmaaDoorTie
import Derived.Test.YtldndhekjhlbmaaDoorCards
import Derived.SevenTiedAt
import Derived.Test.YtldndhekjhlbmaaDoorD20
import Derived.Test.YtldndhekjhlbmaaDoorL3
set_option linter.unusedVariables false
set_option linter.unusedSimpArgs false
namespace Go.Proofs.YtldndhekjhlbmaaDoor
open Go Go.RowKit Go.ChangeShapes Go.WideShapes Go.ChangeAt
set_option maxRecDepth 100000
theorem digestBinds_lifted (os : Os) (started : os.Started) (H : Type) (enc : TypeId × Value → H) :
    ReturnsInHanded {} Tryd.checked os 10 .any (fun w args => (Rows.digestBindsSpec.pre enc Tryd.prog Tryd.f10 [] false w args ∧ laidMetH Tryd.prog laid3 w) ∧ sizedMet enc Tryd.prog Tryd.f10 (OpenSpec.ofChange Rows.digestBindsSpec) false w args)
      (Rows.digestBindsSpec.post enc Tryd.prog Tryd.f10 false true false false) := by
  refine returnsInHanded_of_change_and (C := Tryd.checked) (X := fun w _ => laidMetH Tryd.prog laid3 w) (fun _ _ _ hh h => h.of_heap hh) ownNone started (by kernel_rfl) Tryd.func10
    (ChangeSpec.witness_shaped (enc := enc) (C := Tryd.checked) (os := os) (X := fun w _ => laidMetH Tryd.prog laid3 w) false (World.doorLaid Tryd.prog 400 os) #[.slice none 0 0, .agg [.int .i64 0, .int .i64 0, .slice none 0 0].toArray, .slice none 0 0] 8 rfl (World.shaped_of_RefB (by kernel_rfl) (by kernel_rfl)) (by kernel_rfl) (by kernel_rfl) (by kernel_rfl) (laid3_door os _)) ?_
  intro W base args ds gs before hval0 hW hcnd hsz0 hL _
  have hsz : (DataW.weightsEach Tryd.prog (Tryd.f10.params.toList ++ Rows.digestBindsSpec.plain.varTypes Tryd.prog) (ds ++ gs)).all (· ≤ reachBytes) = true := hsz0
  have hval : ∀ (j : Nat) t v, Tryd.f10.params[j]? = some t → args[j]? = some v → Value.okWide Tryd.prog W .any base t v := hval0
  have hW' := hW
  obtain ⟨p, q, hA0, hV, rfl, hfz, hnd⟩ := hW
  have hA : DataW.TrodAll enc Tryd.prog W 0 (fun _ => true) true Tryd.f10.params.toList args.toList ds p := hA0
  have hAk := hA
  rw [Tryd.params10] at hA hval hsz hAk
  obtain ⟨v0, v1, v2, d0, d1, d2, p0, p1, p2, rfl, rfl, rfl, h0, h1, h2⟩ := trodAll_three hA
  obtain ⟨rfl, rfl⟩ := trodVars_none hV
  obtain ⟨gl, hG, hok⟩ := globs_of_laid hL
  have key : Calls Tryd.prog 10 #[v0, v1, v2] W (fun e W' => e = .returned (.bool true) ∧ Below W.heap.size W W') := by
    obtain ⟨ba, ca, va, xss, rfl, hca, _, hvx, hi1, hb1, hd1⟩ := open_items (hval 0 36 v0 rfl rfl) h0
    obtain ⟨total, index, a, c, hs, rfl, hc, hr, hh, hhb, hw⟩ := open_proof (hval 1 57 v1 rfl rfl) h1
    obtain ⟨ib, ic, item, rfl, hic, _, hb, hri, hd⟩ := open_bytes (hval 2 26 v2 rfl rfl) h2
    have hs0 := size_items hsz (j := 0) rfl rfl hd1
    have hs1 := hw _ _ 1 hsz rfl rfl
    exact SpecV.calls (digestBinds_walk hG ba ca va xss hvx hca hb1 (by omega) total index a c hs ib ic item hh hhb hc hic hb hs1) hok ⟨hi1, hr, hri⟩
  refine key.mono fun e W' ⟨he, bel⟩ => ?_
  subst he
  have hlt := hW'.lt
  exact ⟨_, rfl, _, _, _, [], _, [], hW', trodAll_mk1 (shut_bool Tryd.underlying4 true), below_trodAll (by kernel_rfl) bel (by kernel_rfl) hAk (fun x hx => hlt x (List.mem_append_left _ hx)), rfl, bel.frame _, fun h => by cases h⟩
theorem digestBinds_over : Rows.digestBindsRow.holds Tryd.pinned (OpenSpec.ofChange Rows.digestBindsSpec) :=
  OpenClaim.holds_of_wide 10 Tryd.f10 rfl rfl rfl rfl rfl rfl rfl ⟨rfl, rfl, rfl, rfl, rfl⟩ rfl rfl rfl rfl rfl (by kernel_rfl) Tryd.func10 (by kernel_rfl)
    (of_decide_eq_true (by kernel_rfl)) (by unfold Func.isWrapper; first | (rw [if_pos (by decide +kernel)]; kernel_rfl) | (rw [if_neg (by decide +kernel)]; exact ⟨rfl, rfl⟩))
    (fun os started H enc _ => digestBinds_lifted os started H enc)
/-- The card's proof. -/
theorem digestBinds_holds : Rows.DigestBindsCardSaid :=
  Claim7.holds_tied_plain_at .later [] [.data, .data, .data] true (true, "697af0b0996a04bc786a4d4eaa2cf3193379f635cfacf4b7a65fd0ef70c15a54") false
    digestBinds_over (fun _ h => by cases h) (by kernel_rfl) (fun _ h => by cases h) digestBinds_row_tie rfl ⟨rfl, rfl⟩ (by kernel_rfl) rfl
    (fun f fn hf hfn => by
      obtain rfl : f = 10 := Option.some.inj ((show Tryd.prog.funcNamed "assent/assentlaw02.DigestBinds" = some 10 by kernel_rfl).symm.trans hf) |>.symm
      obtain rfl : fn = Tryd.f10 := (Option.some.inj (Tryd.func10.symm.trans hfn)).symm
      exact ⟨by kernel_rfl, fun j t ht => by
        rw [Tryd.params10] at ht
        have hm : t ∈ [36, 57, 26] := by simpa using Array.mem_of_getElem? ht
        have hall : ([36, 57, 26].all fun u => !Tryd.prog.wantsStandIn u) = true := by kernel_rfl
        exact (show Tryd.prog.wantsStandIn t = false by simpa using List.all_eq_true.1 hall t hm)⟩)
    (by kernel_rfl)
#print axioms digestBinds_holds
end Go.Proofs.YtldndhekjhlbmaaDoor
