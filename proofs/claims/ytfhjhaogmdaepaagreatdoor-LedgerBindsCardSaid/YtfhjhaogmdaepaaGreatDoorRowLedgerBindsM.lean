/- LedgerBinds holds for every such input: no condition beyond the card's own. -/
import Derived.Test.YtfhjhaogmdaepaaGreatDoorTie
import Derived.Test.YtfhjhaogmdaepaaGreatDoorCards
import Derived.SevenTiedAt
import Derived.Test.YtfhjhaogmdaepaaGreatDoorMb6
set_option linter.unusedVariables false
set_option linter.unusedSimpArgs false
namespace Go.Proofs.YtfhjhaogmdaepaaGreatDoor
open Go Go.RowKit Go.ChangeShapes Go.WideShapes Go.ChangeAt
set_option maxRecDepth 100000
theorem ledgerBinds_lifted (os : Os) (started : os.Started) (H : Type) (enc : TypeId × Value → H) :
    ReturnsInHanded {} Tryz.checked os 3 .any (fun w args => (Rows.ledgerBindsSpec.pre enc Tryz.prog Tryz.f3 [] false w args ∧ laidMetH Tryz.prog laid3 w) ∧ sizedMet enc Tryz.prog Tryz.f3 (OpenSpec.ofChange Rows.ledgerBindsSpec) false w args)
      (Rows.ledgerBindsSpec.post enc Tryz.prog Tryz.f3 false true false false) := by
  refine returnsInHanded_of_change_and (C := Tryz.checked) (X := fun w _ => laidMetH Tryz.prog laid3 w) (fun _ _ _ hh h => h.of_heap hh) ownNone started (by kernel_rfl) Tryz.func3
    (ChangeSpec.witness_shaped (enc := enc) (C := Tryz.checked) (os := os) (X := fun w _ => laidMetH Tryz.prog laid3 w) false (World.doorLaid Tryz.prog 400 os) #[.agg #[.slice none 0 0, .slice none 0 0, .int .u64 0, .int .u64 0], .int .u64 0, .agg #[.int .u8 0, .int .u8 0, .int .u8 0, .int .u8 0, .int .u8 0, .int .u8 0, .int .u8 0, .int .u8 0, .int .u8 0, .int .u8 0, .int .u8 0, .int .u8 0, .int .u8 0, .int .u8 0, .int .u8 0, .int .u8 0, .int .u8 0, .int .u8 0, .int .u8 0, .int .u8 0, .int .u8 0, .int .u8 0, .int .u8 0, .int .u8 0, .int .u8 0, .int .u8 0, .int .u8 0, .int .u8 0, .int .u8 0, .int .u8 0, .int .u8 0, .int .u8 0, .slice none 0 0, .slice none 0 0]] 8 rfl (World.shaped_of_RefB (by kernel_rfl) (by kernel_rfl)) (by kernel_rfl) (by kernel_rfl) (by kernel_rfl) (laid3_door os _)) ?_
  intro W base args ds gs before hval0 hW hcnd hsz0 hL _
  have hsz : (DataW.weightsEach Tryz.prog (Tryz.f3.params.toList ++ Rows.ledgerBindsSpec.plain.varTypes Tryz.prog) (ds ++ gs)).all (· ≤ reachBytes) = true := hsz0
  have hval : ∀ (j : Nat) t v, Tryz.f3.params[j]? = some t → args[j]? = some v → Value.okWide Tryz.prog W .any base t v := hval0
  have hW' := hW
  obtain ⟨p, q, hA0, hV, rfl, hfz, hnd⟩ := hW
  have hA : DataW.TrodAll enc Tryz.prog W 0 (fun _ => true) true Tryz.f3.params.toList args.toList ds p := hA0
  have hAk := hA
  rw [Tryz.params3] at hA hval hsz hAk
  obtain ⟨v0, v1, v2, d0, d1, d2, p0, p1, p2, rfl, rfl, rfl, h0, h1, h2⟩ := trodAll_three hA
  obtain ⟨rfl, rfl⟩ := trodVars_none hV
  obtain ⟨gl, hG, hok⟩ := globs_of_laid hL
  have key : Calls Tryz.prog 3 #[v0, v1, v2] W (fun e W' => e = .returned (.bool true) ∧ Below W.heap.size W W') := by
    obtain ⟨l, rfl, hl, _, hsl⟩ := Reads.argStruct rd_led.down (fs := _) rfl (hval 0 26 v0 rfl rfl) h0
    obtain ⟨a, rfl⟩ := okWide_int ty_int_27 (hval 1 27 v1 rfl rfl)
    obtain ⟨x, rfl, hx, _, hsx⟩ := Reads.argStruct rd_wit.down (fs := _) rfl (hval 2 32 v2 rfl rfl) h2
    have hsm := hsl _ _ 0 hsz rfl rfl
    have hsy := hsx _ _ 2 hsz rfl rfl
    simp only [reachBytes] at hsm hsy
    exact SpecV.calls (ledgerBinds_walk hG l.s.b l.s.c l.s.xs hl.hc hl.ok l.r.b l.r.c l.r.xs hl.hc' hl.ok' l.bu l.su hl.bu hl.su (by omega) (by omega) a x.R hx.len x.s.b x.q.b x.s.c x.q.c x.s.xs x.q.xs hx.hc hx.hc' (fun p hp => ⟨fun h hh => ((hx.pf p hp).len h hh).1, by have := hsy p hp; omega, (hx.pf p hp).cap⟩) (fun p hp h hh => ((hx.pf p hp).len h hh).2) hx.isB hx.ok) hok ⟨⟨hl.row, hl.row'⟩, hx.row, hx.row', fun p hp => (hx.pf p hp).row⟩
  refine key.mono fun e W' ⟨he, bel⟩ => ?_
  subst he
  have hlt := hW'.lt
  exact ⟨_, rfl, _, _, _, [], _, [], hW', trodAll_mk1 (shut_bool Tryz.underlying4 true), below_trodAll (by kernel_rfl) bel (by kernel_rfl) hAk (fun x hx => hlt x (List.mem_append_left _ hx)), rfl, bel.frame _, fun h => by cases h⟩
theorem ledgerBinds_over : Rows.ledgerBindsRow.holds Tryz.pinned (OpenSpec.ofChange Rows.ledgerBindsSpec) :=
  OpenClaim.holds_of_wide 3 Tryz.f3 rfl rfl rfl rfl rfl rfl rfl ⟨rfl, rfl, rfl, rfl, rfl⟩ rfl rfl rfl rfl rfl (by kernel_rfl) Tryz.func3 (by kernel_rfl)
    (of_decide_eq_true (by kernel_rfl)) (by unfold Func.isWrapper; first | (rw [if_pos (by decide +kernel)]; kernel_rfl) | (rw [if_neg (by decide +kernel)]; exact ⟨rfl, rfl⟩))
    (fun os started H enc _ => ledgerBinds_lifted os started H enc)
/-- The card's proof. -/
theorem ledgerBinds_holds : Rows.LedgerBindsCardSaid :=
  Claim7.holds_tied_plain_at .later [] [.data, .data, .data] true (true, "af32f7fc40b47ddb13b0aced95391368661d7a9d934d2a0203db78232028d781") false
    ledgerBinds_over (fun _ h => by cases h) (by kernel_rfl) (fun _ h => by cases h) ledgerBinds_row_tie rfl ⟨rfl, rfl⟩ (by kernel_rfl) rfl
    (fun f fn hf hfn => by
      obtain rfl : f = 3 := Option.some.inj ((show Tryz.prog.funcNamed "assent/assentlaw08.LedgerBinds" = some 3 by kernel_rfl).symm.trans hf) |>.symm
      obtain rfl : fn = Tryz.f3 := (Option.some.inj (Tryz.func3.symm.trans hfn)).symm
      exact ⟨by kernel_rfl, fun j t ht => by
        rw [Tryz.params3] at ht
        have hm : t ∈ [26, 27, 32] := by simpa using Array.mem_of_getElem? ht
        have hall : ([26, 27, 32].all fun u => !Tryz.prog.wantsStandIn u) = true := by kernel_rfl
        exact (show Tryz.prog.wantsStandIn t = false by simpa using List.all_eq_true.1 hall t hm)⟩)
    (by kernel_rfl)
#print axioms ledgerBinds_holds
end Go.Proofs.YtfhjhaogmdaepaaGreatDoor
