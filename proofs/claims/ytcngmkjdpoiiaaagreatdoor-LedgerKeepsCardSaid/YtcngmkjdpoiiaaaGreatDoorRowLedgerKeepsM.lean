/- LedgerKeeps holds for every such input: no condition beyond the card's own. -/
import Derived.Test.YtcngmkjdpoiiaaaGreatDoorTie
import Derived.Test.YtcngmkjdpoiiaaaGreatDoorCards
import Derived.SevenTiedAt
import Derived.Test.YtcngmkjdpoiiaaaGreatDoorJfLedgerKeeps
import Derived.Test.YtcngmkjdpoiiaaaGreatDoorMk6
set_option linter.unusedVariables false
set_option linter.unusedSimpArgs false
namespace Go.Proofs.YtcngmkjdpoiiaaaGreatDoor
open Go Go.RowKit Go.ChangeShapes Go.WideShapes Go.ChangeAt
set_option maxRecDepth 100000
theorem ledgerKeeps_lifted (os : Os) (started : os.Started) (H : Type) (enc : TypeId × Value → H) :
    ReturnsInHanded {} Tryz.checked os 13 .any (fun w args => (Rows.ledgerKeepsSpec.pre enc Tryz.prog Tryz.f13 [] false w args ∧ laidMetH Tryz.prog laid3 w) ∧ sizedMet enc Tryz.prog Tryz.f13 (OpenSpec.ofChange Rows.ledgerKeepsSpec) false w args)
      (Rows.ledgerKeepsSpec.post enc Tryz.prog Tryz.f13 false true false false) := by
  refine returnsInHanded_of_change_and (C := Tryz.checked) (X := fun w _ => laidMetH Tryz.prog laid3 w) (fun _ _ _ hh h => h.of_heap hh) ownNone started (by kernel_rfl) Tryz.func13
    (ChangeSpec.witness_shaped (enc := enc) (C := Tryz.checked) (os := os) (X := fun w _ => laidMetH Tryz.prog laid3 w) false (World.doorLaid Tryz.prog 400 os) #[.slice none 0 0, .agg #[.int .u64 0, .int .i64 0, .int .u64 0, .int .u64 0, .int .u64 0, .int .i64 0, .int .u64 0, .int .u64 0, .int .u64 0, .int .u64 0, .int .u64 0, .int .u64 0], .string ⟨#[]⟩, .slice none 0 0] 8 rfl (World.shaped_of_RefB (by kernel_rfl) (by kernel_rfl)) (by kernel_rfl) (by kernel_rfl) (by kernel_rfl) (laid3_door os _)) ?_
  intro W base args ds gs before hval0 hW hcnd hsz0 hL _
  have hsz : (DataW.weightsEach Tryz.prog (Tryz.f13.params.toList ++ Rows.ledgerKeepsSpec.plain.varTypes Tryz.prog) (ds ++ gs)).all (· ≤ reachBytes) = true := hsz0
  have hval : ∀ (j : Nat) t v, Tryz.f13.params[j]? = some t → args[j]? = some v → Value.okWide Tryz.prog W .any base t v := hval0
  have hW' := hW
  obtain ⟨p, q, hA0, hV, rfl, hfz, hnd⟩ := hW
  have hA : DataW.TrodAll enc Tryz.prog W 0 (fun _ => true) true Tryz.f13.params.toList args.toList ds p := hA0
  have hAk := hA
  rw [Tryz.params13] at hA hval hsz hAk
  obtain ⟨v0, v1, v2, v3, d0, d1, d2, d3, p0, p1, p2, p3, rfl, rfl, rfl, h0, h1, h2, h3⟩ := trodAll_4 hA
  obtain ⟨rfl, rfl⟩ := trodVars_none hV
  obtain ⟨gl, hG, hok⟩ := globs_of_laid hL
  have key : Calls Tryz.prog 13 #[v0, v1, v2, v3] W (fun e W' => e = .returned (.bool true) ∧ Below W.heap.size W W') := by
    obtain ⟨s, rfl, ⟨hc, _, hrow, hall⟩, _, hsl⟩ := Reads.argSlice rd_accs.down (Tryz.underlying22) (hval 0 22 v0 rfl rfl) h0
    obtain ⟨p, rfl, hp, _, hsp⟩ := Reads.argStruct rd_par.down (fs := _) rfl (hval 1 25 v1 rfl rfl) h1
    obtain ⟨cs, rfl⟩ := okWide_string Tryz.underlying9 (hval 2 9 v2 rfl rfl)
    obtain ⟨ch, hcb, rfl, _⟩ := str_nums cs
    obtain ⟨z, rfl, ⟨hcz, _, hrowz, hallz⟩, _, hslz⟩ := Reads.argSlice rd_stps.down (Tryz.underlying141) (hval 3 141 v3 rfl rfl) h3
    have hsm := (hsl _ _ 0 hsz rfl rfl).1
    simp only [reachBytes] at hsm
    have hsmz := (hslz _ _ 3 hsz rfl rfl).1
    simp only [reachBytes] at hsmz
    obtain ⟨st, e1, e2⟩ := stps_of fun x hx => (hallz x hx).1
    rw [← e1] at hcz hsmz
    rw [← e2] at hrowz
    rw [show z.val = .slice z.b st.length z.c by rw [e1]; rfl]
    exact SpecV.calls (ledgerKeeps_walk hG s.b s.c s.xs hc (by omega) (fun y hy => (hall y hy).1) p hp.p2.1 hp.p3 ch hcb z.b z.c st hcz (by omega)) hok ⟨hrow, hrowz⟩
  refine key.mono fun e W' ⟨he, bel⟩ => ?_
  subst he
  have hlt := hW'.lt
  exact ⟨_, rfl, _, _, _, [], _, [], hW', trodAll_mk1 (shut_bool Tryz.underlying4 true), below_trodAll (by kernel_rfl) bel (by kernel_rfl) hAk (fun x hx => hlt x (List.mem_append_left _ hx)), rfl, bel.frame _, fun h => by cases h⟩
theorem ledgerKeeps_over : Rows.ledgerKeepsRow.holds Tryz.pinned (OpenSpec.ofChange Rows.ledgerKeepsSpec) :=
  OpenClaim.holds_of_wide 13 Tryz.f13 rfl rfl rfl rfl rfl rfl rfl ⟨rfl, rfl, rfl, rfl, rfl⟩ rfl rfl rfl rfl rfl (by kernel_rfl) Tryz.func13 ledgerKeeps_joined
    (of_decide_eq_true (by kernel_rfl)) (by unfold Func.isWrapper; first | (rw [if_pos (by decide +kernel)]; kernel_rfl) | (rw [if_neg (by decide +kernel)]; exact ⟨rfl, rfl⟩))
    (fun os started H enc _ => ledgerKeeps_lifted os started H enc)
/-- The card's proof. -/
theorem ledgerKeeps_holds : Rows.LedgerKeepsCardSaid :=
  Claim7.holds_tied_plain_at .later [] [.data, .data, .data] true (true, "461d3ce827348458da61411a6a7796fa7ee1ffe975effe38f040e65474931a9b") false
    ledgerKeeps_over (fun _ h => by cases h) (by kernel_rfl) (fun _ h => by cases h) ledgerKeeps_row_tie rfl ⟨rfl, rfl⟩ ledgerKeeps_main rfl
    (fun f fn hf hfn => by
      obtain rfl : f = 13 := Option.some.inj (ledgerKeeps_named.symm.trans hf) |>.symm
      obtain rfl : fn = Tryz.f13 := (Option.some.inj (Tryz.func13.symm.trans hfn)).symm
      exact ⟨ledgerKeeps_looks, fun j t ht => by
        rw [Tryz.params13] at ht
        have hm : t ∈ [22, 25, 9, 141] := by simpa using Array.mem_of_getElem? ht
        have hall : ([22, 25, 9, 141].all fun u => !Tryz.prog.wantsStandIn u) = true := ledgerKeeps_stand
        exact (show Tryz.prog.wantsStandIn t = false by simpa using List.all_eq_true.1 hall t hm)⟩)
    ledgerKeeps_goes
#print axioms ledgerKeeps_holds
end Go.Proofs.YtcngmkjdpoiiaaaGreatDoor
