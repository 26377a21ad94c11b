/- PoolChain holds for every play whose bulk is at most 1048576: no condition beyond the second form's own. -/
import Derived.Test.YtcngmkjdpoiiaaaGreatDoorTie
import Derived.Test.YtcngmkjdpoiiaaaGreatDoorCards
import Derived.SevenTiedAt
import Derived.JoinedCond
import Derived.Deep.DeepHandedRow
import Derived.Deep.DeepWitnessRowRef
import Derived.Test.YtcngmkjdpoiiaaaGreatDoorJfPoolChain
import Derived.Test.YtcngmkjdpoiiaaaGreatDoorMs6
set_option linter.unusedVariables false
set_option linter.unusedSimpArgs false
namespace Go.Proofs.YtcngmkjdpoiiaaaGreatDoor
open Go Go.RowKit Go.ChangeShapes Go.WideShapes Go.ChangeAt
set_option maxRecDepth 100000
theorem poolChainUpto_laid (os : Os) : laidMet Tryz.prog Rows.poolChainUptoRow.laid ((World.doorLaid Tryz.prog 400 os).forCall (fun _ _ => 0) ⟨#[], #[.agg #[.int .i64 0, .slice none 0 0, .slice none 0 0], .int .i64 0], []⟩).memory :=
  laidMet_of_run' 8 (by kernel_rfl) (by kernel_rfl)
theorem poolChainUpto_reads (os : Os) {H : Type} (enc : TypeId × Value → H) : ∃ places, DataW.whole enc Tryz.prog ((World.doorLaid Tryz.prog 400 os).forCall (fun _ _ => 0) ⟨#[], #[.agg #[.int .i64 0, .slice none 0 0, .slice none 0 0], .int .i64 0], []⟩).memory Tryz.f15.params.toList Rows.poolChainSpec.vars false #[.agg #[.int .i64 0, .slice none 0 0, .slice none 0 0], .int .i64 0].toList 8 = some ([.agg [.lit (.int .i64 0), .nil, .nil], .lit (.int .i64 0)], [], places) :=
  ⟨[], by kernel_rfl⟩
theorem poolChainUpto_lifted (os : Os) (started : os.Started) (H : Type) (enc : TypeId × Value → H) (F : Stop.Interp) :
    ReturnsInHanded {} Tryz.checked os 15 .any ((Rows.OpenSpec.upto Rows.poolChainSpec).preRow enc Tryz.prog Tryz.f15 Rows.poolChainUptoRow.domain false Rows.poolChainUptoRow.laid) (((Rows.OpenSpec.upto Rows.poolChainSpec).at F).post enc Tryz.prog Tryz.f15 false true false false) := by
  obtain ⟨places, hx⟩ := poolChainUpto_reads os enc
  refine returnsInHanded_of_row (C := Tryz.checked) (s := (Rows.OpenSpec.upto Rows.poolChainSpec)) ownNone started (by kernel_rfl) Tryz.func15
    (witness_row_atRef (enc := enc) (C := Tryz.checked) false (World.doorLaid Tryz.prog 400 os) #[.agg #[.int .i64 0, .slice none 0 0, .slice none 0 0], .int .i64 0] rfl (by kernel_rfl) (by kernel_rfl) (by kernel_rfl)
      (OpenSpec.preRow_of_cond 8 hx (by kernel_rfl) (fun k hk => by cases hk; kernel_rfl) (by kernel_rfl) (poolChainUpto_laid os))) ?_
  intro W base args ds gs before hval0 hW _ hcond hsz0 hL _ _
  have hsz : (DataW.weightsEach Tryz.prog (Tryz.f15.params.toList ++ Rows.poolChainSpec.plain.varTypes Tryz.prog) (ds ++ gs)).all (· ≤ reachBytes) = true := hsz0
  have hval : ∀ (j : Nat) t v, Tryz.f15.params[j]? = some t → args[j]? = some v → Value.okWide Tryz.prog W .any base t v := hval0
  have hW' := hW
  obtain ⟨p, q, hA0, hV, rfl, hfz, hnd⟩ := hW
  have hA : DataW.TrodAll enc Tryz.prog W 0 (fun _ => true) true Tryz.f15.params.toList args.toList ds p := hA0
  have hAk := hA
  rw [Tryz.params15] at hA hval hsz hAk
  obtain ⟨v0, v1, d0, d1, p0, p1, rfl, rfl, rfl, h0, h1⟩ := trodAll_two hA
  obtain ⟨rfl, rfl⟩ := trodVars_none hV
  have hbulk : Rows.uptoBulkAll [d0, d1] ≤ 1048576 := by
    have h := hcond _ rfl
    rw [List.append_nil] at h
    exact of_decide_eq_true h
  obtain ⟨gl, hG, hok⟩ := globs2_of_laid hL
  have key : Calls Tryz.prog 15 #[v0, v1] W (fun e W' => e = .returned (.bool true) ∧ Below W.heap.size W W') := by
    simp only [Rows.uptoBulkAll] at hbulk
    obtain ⟨z, rfl⟩ := okWide_int ty_int_3 (hval 1 3 v1 rfl rfl)
    obtain ⟨m, rfl, hm, hbm, hsm⟩ := Reads.argStruct rd_playB.down (fs := _) rfl (hval 0 98 v0 rfl rfl) h0
    obtain ⟨⟨hm1m, hm2m⟩, hm3m⟩ := hsm _ _ 0 hsz rfl rfl
    simp only [reachBytes] at hm1m hm3m
    obtain ⟨stsm, e1m, e2m, e3m⟩ := sts_of hm.st hm2m
    obtain ⟨opsm, e4m, e5m⟩ := ops_of hm.op
    have r1m := hm.rs
    have r2m := hm.ro
    rw [← e2m] at r1m
    rw [← e5m] at r2m
    have c1m := hm.hs
    have c2m := hm.ho
    rw [← e1m] at c1m hm1m
    rw [← e4m] at c2m hm3m
    rw [show m.cells = [.int .i64 m.most, .slice m.s.b stsm.length m.s.c, .slice m.o.b opsm.length m.o.c] by rw [e1m, e4m]; rfl]
    exact SpecV.calls (poolChain_walk hG m.most m.s.b m.s.c stsm c1m (by omega) m.o.b m.o.c opsm c2m (by omega) z) hok ⟨r1m, e3m, r2m⟩
  refine key.mono fun e W' ⟨he, bel⟩ => ?_
  subst he
  have hlt := hW'.lt
  exact ⟨_, rfl, _, _, _, [], _, [], hW', trodAll_mk1 (shut_bool Tryz.underlying4 true), below_trodAll (by kernel_rfl) bel (by kernel_rfl) hAk (fun x hx => hlt x (List.mem_append_left _ hx)), rfl, bel.frame _, fun h => by cases h⟩
theorem poolChainUpto_over : Rows.poolChainUptoRow.holds Tryz.pinned (Rows.OpenSpec.upto Rows.poolChainSpec) :=
  OpenClaim.holds_of_cond 15 Tryz.f15 rfl rfl rfl rfl rfl rfl rfl ⟨rfl, rfl, rfl, rfl, rfl⟩ rfl rfl rfl rfl rfl (by kernel_rfl) Tryz.func15 poolChainUpto_joined
    (of_decide_eq_true (by kernel_rfl)) (by unfold Func.isWrapper; first | (rw [if_pos (by decide +kernel)]; kernel_rfl) | (rw [if_neg (by decide +kernel)]; exact ⟨rfl, rfl⟩))
    (fun os started H enc _ F => by rw [OpenClaim.pre_eq_preRow]; exact poolChainUpto_lifted os started H enc F)
/-- The card's proof. -/
theorem poolChainUpto_holds : Rows.PoolChainUptoCardSaid :=
  Claim7.holds_tied_plain_at .later [] [.data, .data] true (true, "461d3ce827348458da61411a6a7796fa7ee1ffe975effe38f040e65474931a9b") false
    poolChainUpto_over (fun _ h => by cases h) (by kernel_rfl) (fun _ h => by cases h) poolChainUpto_row_tie rfl ⟨rfl, rfl⟩ poolChainUpto_main rfl
    (fun f fn hf hfn => by
      obtain rfl : f = 15 := Option.some.inj (poolChainUpto_named.symm.trans hf) |>.symm
      obtain rfl : fn = Tryz.f15 := (Option.some.inj (Tryz.func15.symm.trans hfn)).symm
      exact ⟨poolChainUpto_looks, fun j t ht => by
        rw [Tryz.params15] at ht
        have hm : t ∈ [98, 3] := by simpa using Array.mem_of_getElem? ht
        have hall : ([98, 3].all fun u => !Tryz.prog.wantsStandIn u) = true := poolChainUpto_stand
        exact (show Tryz.prog.wantsStandIn t = false by simpa using List.all_eq_true.1 hall t hm)⟩)
    poolChainUpto_goes
#print axioms poolChainUpto_holds
end Go.Proofs.YtcngmkjdpoiiaaaGreatDoor
