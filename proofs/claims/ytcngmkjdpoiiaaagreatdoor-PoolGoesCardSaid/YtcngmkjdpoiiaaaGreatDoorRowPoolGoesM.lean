/- PoolGoes holds for every such input: no condition beyond the card's own. -/
import Derived.Test.YtcngmkjdpoiiaaaGreatDoorTie
import Derived.Test.YtcngmkjdpoiiaaaGreatDoorCards
import Derived.SevenTiedAt
import Derived.Test.YtcngmkjdpoiiaaaGreatDoorJfPoolGoes
import Derived.Test.YtcngmkjdpoiiaaaGreatDoorMr5
set_option linter.unusedVariables false
set_option linter.unusedSimpArgs false
namespace Go.Proofs.YtcngmkjdpoiiaaaGreatDoor
open Go Go.RowKit Go.ChangeShapes Go.WideShapes Go.ChangeAt
set_option maxRecDepth 100000
theorem poolGoes_lifted (os : Os) (started : os.Started) (H : Type) (enc : TypeId × Value → H) :
    ReturnsInHanded {} Tryz.checked os 14 .any (fun w args => (Rows.poolGoesSpec.pre enc Tryz.prog Tryz.f14 [] false w args ∧ laidMetH Tryz.prog laid2 w) ∧ sizedMet enc Tryz.prog Tryz.f14 (OpenSpec.ofChange Rows.poolGoesSpec) false w args)
      (Rows.poolGoesSpec.post enc Tryz.prog Tryz.f14 false true false false) := by
  refine returnsInHanded_of_change_and (C := Tryz.checked) (X := fun w _ => laidMetH Tryz.prog laid2 w) (fun _ _ _ hh h => h.of_heap hh) ownNone started (by kernel_rfl) Tryz.func14
    (ChangeSpec.witness_shaped (enc := enc) (C := Tryz.checked) (os := os) (X := fun w _ => laidMetH Tryz.prog laid2 w) false (World.doorLaid Tryz.prog 400 os) #[.agg #[.int .i64 0, .slice none 0 0, .slice none 0 0]] 8 rfl (World.shaped_of_RefB (by kernel_rfl) (by kernel_rfl)) (by kernel_rfl) (by kernel_rfl) (by kernel_rfl) (laid2_door os _)) ?_
  intro W base args ds gs before hval0 hW hcnd hsz0 hL _
  have hsz : (DataW.weightsEach Tryz.prog (Tryz.f14.params.toList ++ Rows.poolGoesSpec.plain.varTypes Tryz.prog) (ds ++ gs)).all (· ≤ reachBytes) = true := hsz0
  have hval : ∀ (j : Nat) t v, Tryz.f14.params[j]? = some t → args[j]? = some v → Value.okWide Tryz.prog W .any base t v := hval0
  have hW' := hW
  obtain ⟨p, q, hA0, hV, rfl, hfz, hnd⟩ := hW
  have hA : DataW.TrodAll enc Tryz.prog W 0 (fun _ => true) true Tryz.f14.params.toList args.toList ds p := hA0
  have hAk := hA
  rw [Tryz.params14] at hA hval hsz hAk
  obtain ⟨v0, d0, rfl, rfl, h0⟩ := trodAll_one hA
  obtain ⟨rfl, rfl⟩ := trodVars_none hV
  obtain ⟨gl, hG, hok⟩ := globs2_of_laid hL
  have key : Calls Tryz.prog 14 #[v0] W (fun e W' => e = .returned (.bool true) ∧ Below W.heap.size W W') := by
    obtain ⟨m, rfl, hm, _, hsm⟩ := Reads.argStruct rd_play.down (fs := _) rfl (hval 0 98 v0 rfl rfl) h0
    obtain ⟨⟨hm1m, hm2m⟩, hm3m⟩ := hsm _ _ 0 hsz rfl rfl
    simp only [reachBytes] at hm1m hm3m
    obtain ⟨stsm, e1m, e2m, e3m⟩ := sts_of hm.st hm2m
    obtain ⟨opsm, e4m, e5m⟩ := ops_of hm.op
    have r1m := hm.rs
    have r2m := hm.ro
    rw [← e2m] at r1m
    rw [← e5m] at r2m
    have c1m := hm.hs
    have c2m := hm.ho
    rw [← e1m] at c1m hm1m
    rw [← e4m] at c2m hm3m
    rw [show m.cells = [.int .i64 m.most, .slice m.s.b stsm.length m.s.c, .slice m.o.b opsm.length m.o.c] by rw [e1m, e4m]; rfl]
    exact SpecV.calls (poolGoes_walk hG m.most m.s.b m.s.c stsm c1m (by omega) m.o.b m.o.c opsm c2m (by omega)) hok ⟨r1m, e3m, r2m⟩
  refine key.mono fun e W' ⟨he, bel⟩ => ?_
  subst he
  have hlt := hW'.lt
  exact ⟨_, rfl, _, _, _, [], _, [], hW', trodAll_mk1 (shut_bool Tryz.underlying4 true), below_trodAll (by kernel_rfl) bel (by kernel_rfl) hAk (fun x hx => hlt x (List.mem_append_left _ hx)), rfl, bel.frame _, fun h => by cases h⟩
theorem poolGoes_over : Rows.poolGoesRow.holds Tryz.pinned (OpenSpec.ofChange Rows.poolGoesSpec) :=
  OpenClaim.holds_of_wide 14 Tryz.f14 rfl rfl rfl rfl rfl rfl rfl ⟨rfl, rfl, rfl, rfl, rfl⟩ rfl rfl rfl rfl rfl (by kernel_rfl) Tryz.func14 poolGoes_joined
    (of_decide_eq_true (by kernel_rfl)) (by unfold Func.isWrapper; first | (rw [if_pos (by decide +kernel)]; kernel_rfl) | (rw [if_neg (by decide +kernel)]; exact ⟨rfl, rfl⟩))
    (fun os started H enc _ => poolGoes_lifted os started H enc)
/-- The card's proof. -/
theorem poolGoes_holds : Rows.PoolGoesCardSaid :=
  Claim7.holds_tied_plain_at .later [] [.data, .data] true (true, "461d3ce827348458da61411a6a7796fa7ee1ffe975effe38f040e65474931a9b") false
    poolGoes_over (fun _ h => by cases h) (by kernel_rfl) (fun _ h => by cases h) poolGoes_row_tie rfl ⟨rfl, rfl⟩ poolGoes_main rfl
    (fun f fn hf hfn => by
      obtain rfl : f = 14 := Option.some.inj (poolGoes_named.symm.trans hf) |>.symm
      obtain rfl : fn = Tryz.f14 := (Option.some.inj (Tryz.func14.symm.trans hfn)).symm
      exact ⟨poolGoes_looks, fun j t ht => by
        rw [Tryz.params14] at ht
        have hm : t ∈ [98] := by simpa using Array.mem_of_getElem? ht
        have hall : ([98].all fun u => !Tryz.prog.wantsStandIn u) = true := poolGoes_stand
        exact (show Tryz.prog.wantsStandIn t = false by simpa using List.all_eq_true.1 hall t hm)⟩)
    poolGoes_goes
#print axioms poolGoes_holds
end Go.Proofs.YtcngmkjdpoiiaaaGreatDoor
