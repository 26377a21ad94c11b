/- DigestPieces holds for every script whose bulk is at most 1048576: no condition beyond the second form's own. -/
import Derived.Test.YtldndhekjhlbmaaDoorTie
import Derived.Test.YtldndhekjhlbmaaDoorCards
import Derived.SevenTiedAt
import Derived.JoinedCond
import Derived.Deep.DeepHandedRow
import Derived.Deep.DeepWitnessRowRef
import Derived.Test.YtldndhekjhlbmaaDoorD29
import Derived.Test.YtldndhekjhlbmaaDoorL5
set_option linter.unusedVariables false
set_option linter.unusedSimpArgs false
namespace Go.Proofs.YtldndhekjhlbmaaDoor
open Go Go.RowKit Go.ChangeShapes Go.WideShapes Go.ChangeAt
set_option maxRecDepth 100000
theorem digestPiecesUpto_laid (os : Os) : laidMet Tryd.prog Rows.digestPiecesUptoRow.laid ((World.doorLaid Tryd.prog 400 os).forCall (fun _ _ => 0) ⟨#[], #[.slice none 0 0], []⟩).memory :=
  laidMet_of_run' 8 (by kernel_rfl) (by kernel_rfl)
theorem digestPiecesUpto_reads (os : Os) {H : Type} (enc : TypeId × Value → H) : ∃ places, DataW.whole enc Tryd.prog ((World.doorLaid Tryd.prog 400 os).forCall (fun _ _ => 0) ⟨#[], #[.slice none 0 0], []⟩).memory Tryd.f5.params.toList Rows.digestPiecesSpec.vars false #[.slice none 0 0].toList 8 = some ([.nil], [], places) :=
  ⟨[], by kernel_rfl⟩
theorem digestPiecesUpto_lifted (os : Os) (started : os.Started) (H : Type) (enc : TypeId × Value → H) (F : Stop.Interp) :
    ReturnsInHanded {} Tryd.checked os 5 .any ((Rows.OpenSpec.upto Rows.digestPiecesSpec).preRow enc Tryd.prog Tryd.f5 Rows.digestPiecesUptoRow.domain false Rows.digestPiecesUptoRow.laid) (((Rows.OpenSpec.upto Rows.digestPiecesSpec).at F).post enc Tryd.prog Tryd.f5 false true false false) := by
  obtain ⟨places, hx⟩ := digestPiecesUpto_reads os enc
  refine returnsInHanded_of_row (C := Tryd.checked) (s := (Rows.OpenSpec.upto Rows.digestPiecesSpec)) ownNone started (by kernel_rfl) Tryd.func5
    (witness_row_atRef (enc := enc) (C := Tryd.checked) false (World.doorLaid Tryd.prog 400 os) #[.slice none 0 0] rfl (by kernel_rfl) (by kernel_rfl) (by kernel_rfl)
      (OpenSpec.preRow_of_cond 8 hx (by kernel_rfl) (fun k hk => by cases hk; kernel_rfl) (by kernel_rfl) (digestPiecesUpto_laid os))) ?_
  intro W base args ds gs before hval0 hW _ hcond hsz0 hL _ _
  have hsz : (DataW.weightsEach Tryd.prog (Tryd.f5.params.toList ++ Rows.digestPiecesSpec.plain.varTypes Tryd.prog) (ds ++ gs)).all (· ≤ reachBytes) = true := hsz0
  have hval : ∀ (j : Nat) t v, Tryd.f5.params[j]? = some t → args[j]? = some v → Value.okWide Tryd.prog W .any base t v := hval0
  have hW' := hW
  obtain ⟨p, q, hA0, hV, rfl, hfz, hnd⟩ := hW
  have hA : DataW.TrodAll enc Tryd.prog W 0 (fun _ => true) true Tryd.f5.params.toList args.toList ds p := hA0
  have hAk := hA
  rw [Tryd.params5] at hA hval hsz hAk
  obtain ⟨v0, d0, rfl, rfl, h0⟩ := trodAll_one hA
  obtain ⟨rfl, rfl⟩ := trodVars_none hV
  have hbulk : Rows.uptoBulkAll [d0] ≤ 1048576 := by
    have h := hcond _ rfl
    rw [List.append_nil] at h
    exact of_decide_eq_true h
  obtain ⟨gl, hG, hok⟩ := globs_of_laid hL
  have key : Calls Tryd.prog 5 #[v0] W (fun e W' => e = .returned (.bool true) ∧ Below W.heap.size W W') := by
    obtain ⟨⟨b, c, l⟩, rfl, ⟨hc, hcm, hrow, hall⟩, hbk, _⟩ := Reads.argSlice rd_script.down (slB_spec ty_sl_31).1 (hval 0 31 v0 rfl rfl) h0
    simp only [Rows.uptoBulkAll] at hbulk
    dsimp only at hc hcm hrow hall hbk
    have hg := given_le_bulk l _ (fun a ha => by show a.2.2.1.xs.length + 1 ≤ 1 + (1 + (((a.2.2.1.xs.map fun _ => 1).sum + 1) + 0)) + 1; rw [sum_ones]; omega)
    have hcells : ∀ a : Int × Int × Sl Int × Unit, [Value.int .i64 a.1] ++ ([Value.int .i64 a.2.1] ++ ([Value.slice a.2.2.1.b a.2.2.1.xs.length a.2.2.1.c] ++ [])) = (stpOf a).cells := fun _ => rfl
    have key := digestPieces_walk hG b c (l.map stpOf) (by rw [List.length_map]; exact hc) (by rw [List.length_map]; omega) (by omega) (fun s hs => by
      obtain ⟨a, ha, rfl⟩ := List.mem_map.1 hs
      obtain ⟨⟨⟨_, _, ⟨⟨h1, _, _, h2⟩, _⟩, _⟩, _⟩, _⟩ := hall a ha
      exact ⟨h1, fun z hz => by have := (h2 z hz).1; simpa [fits] using this⟩)
    rw [List.length_map] at key
    exact SpecV.calls key hok ⟨by rw [List.flatMap_map]; exact hrow, fun s hs => by
      obtain ⟨a, ha, rfl⟩ := List.mem_map.1 hs
      obtain ⟨⟨⟨_, _, ⟨⟨_, _, h1, _⟩, _⟩, _⟩, _⟩, _⟩ := hall a ha
      rw [ints_flat] at h1; exact h1⟩
  refine key.mono fun e W' ⟨he, bel⟩ => ?_
  subst he
  have hlt := hW'.lt
  exact ⟨_, rfl, _, _, _, [], _, [], hW', trodAll_mk1 (shut_bool Tryd.underlying4 true), below_trodAll (by kernel_rfl) bel (by kernel_rfl) hAk (fun x hx => hlt x (List.mem_append_left _ hx)), rfl, bel.frame _, fun h => by cases h⟩
theorem digestPiecesUpto_over : Rows.digestPiecesUptoRow.holds Tryd.pinned (Rows.OpenSpec.upto Rows.digestPiecesSpec) :=
  OpenClaim.holds_of_cond 5 Tryd.f5 rfl rfl rfl rfl rfl rfl rfl ⟨rfl, rfl, rfl, rfl, rfl⟩ rfl rfl rfl rfl rfl (by kernel_rfl) Tryd.func5 (by kernel_rfl)
    (of_decide_eq_true (by kernel_rfl)) (by unfold Func.isWrapper; first | (rw [if_pos (by decide +kernel)]; kernel_rfl) | (rw [if_neg (by decide +kernel)]; exact ⟨rfl, rfl⟩))
    (fun os started H enc _ F => by rw [OpenClaim.pre_eq_preRow]; exact digestPiecesUpto_lifted os started H enc F)
/-- The card's proof. -/
theorem digestPiecesUpto_holds : Rows.DigestPiecesUptoCardSaid :=
  Claim7.holds_tied_plain_at .later [] [.data, .data, .data] true (true, "697af0b0996a04bc786a4d4eaa2cf3193379f635cfacf4b7a65fd0ef70c15a54") false
    digestPiecesUpto_over (fun _ h => by cases h) (by kernel_rfl) (fun _ h => by cases h) digestPiecesUpto_row_tie rfl ⟨rfl, rfl⟩ (by kernel_rfl) rfl
    (fun f fn hf hfn => by
      obtain rfl : f = 5 := Option.some.inj ((show Tryd.prog.funcNamed "assent/assentlaw02.DigestPieces" = some 5 by kernel_rfl).symm.trans hf) |>.symm
      obtain rfl : fn = Tryd.f5 := (Option.some.inj (Tryd.func5.symm.trans hfn)).symm
      exact ⟨by kernel_rfl, fun j t ht => by
        rw [Tryd.params5] at ht
        have hm : t ∈ [31] := by simpa using Array.mem_of_getElem? ht
        have hall : ([31].all fun u => !Tryd.prog.wantsStandIn u) = true := by kernel_rfl
        exact (show Tryd.prog.wantsStandIn t = false by simpa using List.all_eq_true.1 hall t hm)⟩)
    (by kernel_rfl)
#print axioms digestPiecesUpto_holds
end Go.Proofs.YtldndhekjhlbmaaDoor
