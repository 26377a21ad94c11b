/- PoolGoes: the closed facts of the row on the program, one by one. -/
import Derived.Test.YtcngmkjdpoiiaaaGreatDoorTie
import Derived.Test.YtcngmkjdpoiiaaaGreatDoorCards
import Derived.SevenTiedAt
set_option linter.unusedVariables false
namespace Go.Proofs.YtcngmkjdpoiiaaaGreatDoor
open Go Go.ChangeShapes Go.WideShapes
set_option maxRecDepth 100000
theorem poolGoes_jf0 : (Rows.poolGoesRow.wf (OpenSpec.ofChange Rows.poolGoesSpec)) = true := by kernel_rfl
theorem poolGoes_jf1 : (laidOutB Tryz.pinned.checked.prog) = true := by kernel_rfl
theorem poolGoes_jf2 : (mapsRowed Tryz.pinned.checked.prog) = true := by kernel_rfl
theorem poolGoes_jf3 : (Tryz.f14.params.all (Tryz.pinned.checked.prog.readableRec ·)) = true := by kernel_rfl
theorem poolGoes_jf4 : (namedTie Tryz.pinned.checked.prog Rows.poolGoesRow.named Rows.poolGoesSpec.vars) = true := by kernel_rfl
theorem poolGoes_jf5 : ((Rows.poolGoesRow.stops == [])) = true := by kernel_rfl
theorem poolGoes_jf6 : ((Tryz.pinned.checked.prog.stops == [])) = true := by kernel_rfl
theorem poolGoes_jf7 : ((Rows.poolGoesRow.knobs == [])) = true := by kernel_rfl
theorem poolGoes_jf8 : ((Tryz.pinned.checked.prog.stopKnobs == [])) = true := by kernel_rfl
theorem poolGoes_jf9 : ((Rows.poolGoesRow.inPlace == Tryz.pinned.checked.prog.inPlace 14)) = true := by kernel_rfl
theorem poolGoes_jf10 : ((Rows.poolGoesRow.unfollowed == Tryz.pinned.checked.prog.unfollowed 14)) = true := by kernel_rfl
theorem poolGoes_jf11 : ((Rows.poolGoesRow.recurses == Tryz.pinned.checked.prog.recurses 14)) = true := by kernel_rfl
theorem poolGoes_jf12 : ((Rows.poolGoesRow.named == Tryz.pinned.checked.prog.varsNamed 14)) = true := by kernel_rfl
theorem poolGoes_jf13 : ((Rows.poolGoesRow.maps == (Tryz.f14.params.toList ++ Rows.poolGoesSpec.plain.varTypes Tryz.pinned.checked.prog).any (Tryz.pinned.checked.prog.mapsRec ·))) = true := by kernel_rfl
theorem poolGoes_jf14 : ((Rows.poolGoesRow.ifaces == (Tryz.f14.params.toList ++ Rows.poolGoesSpec.plain.varTypes Tryz.pinned.checked.prog).any (Tryz.pinned.checked.prog.ifacesRec ·))) = true := by kernel_rfl
theorem poolGoes_jf15 : ((Rows.poolGoesRow.mapsOut == Tryz.pinned.checked.prog.mapsAmong Tryz.f14.resultTypes.toList)) = true := by kernel_rfl
theorem poolGoes_jf16 : ((Rows.poolGoesRow.loops == (Tryz.f14.params.toList ++ Rows.poolGoesSpec.plain.varTypes Tryz.pinned.checked.prog).any (Tryz.pinned.checked.prog.loopsFrom ·))) = true := by kernel_rfl
theorem poolGoes_jf17 : ((Rows.poolGoesRow.wideKeys == (Tryz.f14.params.toList ++ Rows.poolGoesSpec.plain.varTypes Tryz.pinned.checked.prog ++ Tryz.f14.resultTypes.toList).any (Tryz.pinned.checked.prog.wideKeysFrom ·))) = true := by kernel_rfl
theorem poolGoes_jf18 : (Rows.poolGoesSpec.vars.all (Tryz.pinned.checked.prog.varReadable ·)) = true := by kernel_rfl
theorem poolGoes_jf19 : (Tryz.f14.resultTypes.all (fun t => Tryz.pinned.checked.prog.readableRec t && decide (t < Tryz.pinned.checked.prog.types.size))) = true := by kernel_rfl
theorem poolGoes_jf20 : ((Rows.poolGoesRow.ifacesOut == Tryz.f14.resultTypes.toList.any (Tryz.pinned.checked.prog.ifacesRec ·))) = true := by kernel_rfl
theorem poolGoes_jf21 : ((Rows.poolGoesRow.loopsOut == Tryz.f14.resultTypes.toList.any (Tryz.pinned.checked.prog.loopsFrom ·))) = true := by kernel_rfl
theorem poolGoes_jf22 : ((Rows.poolGoesRow.plainKeys == Tryz.pinned.checked.prog.plainKeys)) = true := by kernel_rfl
theorem poolGoes_jf23 : (Rows.poolGoesRow.shortTexts.isNone) = true := by kernel_rfl
theorem poolGoes_jf24 : (Tryz.pinned.checked.prog.stopsHeard) = true := by kernel_rfl
theorem poolGoes_jf25 : (Tryz.pinned.checked.prog.mayEnter) = true := by kernel_rfl
theorem poolGoes_jf26 : ((Rows.poolGoesRow.lifted == Tryz.pinned.checked.prog.liftsFinal)) = true := by kernel_rfl
theorem poolGoes_jf27 : ((Tryz.pinned.checked.prog.make == some Rows.poolGoesRow.make)) = true := by kernel_rfl
theorem poolGoes_jf28 : ((Rows.poolGoesRow.kinds == (if Rows.poolGoesRow.domain.isEmpty then [] else Tryz.f14.params.toList.map fun t => match Tryz.pinned.checked.prog.underlying t with | some (.int k) => some k | _ => none))) = true := by kernel_rfl
theorem poolGoes_jf29 : ((Rows.poolGoesRow.pinned == Rows.poolGoesRow.pinnedBy)) = true := by kernel_rfl
theorem poolGoes_jf30 : ((Rows.poolGoesRow.veiled == (Tryz.f14.params.toList ++ Rows.poolGoesSpec.plain.varTypes Tryz.pinned.checked.prog ++ Tryz.f14.resultTypes.toList).any (Tryz.pinned.checked.prog.veiledRec ·))) = true := by kernel_rfl
theorem poolGoes_jf31 : (Rows.poolGoesRow.veiledFits Tryz.pinned.checked.prog Tryz.f14.params.toList (Tryz.f14.params.toList ++ Rows.poolGoesSpec.plain.varTypes Tryz.pinned.checked.prog ++ Tryz.f14.resultTypes.toList)) = true := by kernel_rfl
theorem poolGoes_bm {a b : Bool} (h : a = true) (k : b = true) : (a && b) = true := by rw [h, k]; rfl
theorem poolGoes_joined : joinedFacts Tryz.pinned.checked.prog 14 Tryz.f14 Rows.poolGoesSpec Rows.poolGoesRow = true := by unfold joinedFacts; exact poolGoes_bm (poolGoes_bm (poolGoes_bm (poolGoes_bm (poolGoes_bm (poolGoes_bm (poolGoes_bm (poolGoes_bm (poolGoes_bm (poolGoes_bm (poolGoes_bm (poolGoes_bm (poolGoes_bm (poolGoes_bm (poolGoes_bm (poolGoes_bm (poolGoes_bm (poolGoes_bm (poolGoes_bm (poolGoes_bm (poolGoes_bm (poolGoes_bm (poolGoes_bm (poolGoes_bm (poolGoes_bm (poolGoes_bm (poolGoes_bm (poolGoes_bm (poolGoes_bm (poolGoes_bm (poolGoes_bm (poolGoes_jf0) poolGoes_jf1) poolGoes_jf2) poolGoes_jf3) poolGoes_jf4) poolGoes_jf5) poolGoes_jf6) poolGoes_jf7) poolGoes_jf8) poolGoes_jf9) poolGoes_jf10) poolGoes_jf11) poolGoes_jf12) poolGoes_jf13) poolGoes_jf14) poolGoes_jf15) poolGoes_jf16) poolGoes_jf17) poolGoes_jf18) poolGoes_jf19) poolGoes_jf20) poolGoes_jf21) poolGoes_jf22) poolGoes_jf23) poolGoes_jf24) poolGoes_jf25) poolGoes_jf26) poolGoes_jf27) poolGoes_jf28) poolGoes_jf29) poolGoes_jf30) poolGoes_jf31
theorem poolGoes_named : Tryz.prog.funcNamed "assent/assentlaw09.PoolGoes" = some 14 := by kernel_rfl
theorem poolGoes_main : Tryz.pinned.checked.prog.mainIs = some (true, String.toList "461d3ce827348458da61411a6a7796fa7ee1ffe975effe38f040e65474931a9b") := by kernel_rfl
theorem poolGoes_looks : false = Tryz.pinned.checked.prog.looks [] := by kernel_rfl
theorem poolGoes_stand : ([98].all fun u => !Tryz.prog.wantsStandIn u) = true := by kernel_rfl
theorem poolGoes_goes : false = Rows.poolGoesRow.goesBy Tryz.pinned.checked.prog := by kernel_rfl
end Go.Proofs.YtcngmkjdpoiiaaaGreatDoor
