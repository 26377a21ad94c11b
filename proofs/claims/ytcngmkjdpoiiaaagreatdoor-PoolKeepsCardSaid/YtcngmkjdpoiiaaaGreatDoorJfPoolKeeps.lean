/- PoolKeeps: the closed facts of the row on the program, one by one. -/
import Derived.Test.YtcngmkjdpoiiaaaGreatDoorTie
import Derived.Test.YtcngmkjdpoiiaaaGreatDoorCards
import Derived.SevenTiedAt
set_option linter.unusedVariables false
namespace Go.Proofs.YtcngmkjdpoiiaaaGreatDoor
open Go Go.ChangeShapes Go.WideShapes
set_option maxRecDepth 100000
theorem poolKeeps_jf0 : (Rows.poolKeepsRow.wf (OpenSpec.ofChange Rows.poolKeepsSpec)) = true := by kernel_rfl
theorem poolKeeps_jf1 : (laidOutB Tryz.pinned.checked.prog) = true := by kernel_rfl
theorem poolKeeps_jf2 : (mapsRowed Tryz.pinned.checked.prog) = true := by kernel_rfl
theorem poolKeeps_jf3 : (Tryz.f12.params.all (Tryz.pinned.checked.prog.readableRec ·)) = true := by kernel_rfl
theorem poolKeeps_jf4 : (namedTie Tryz.pinned.checked.prog Rows.poolKeepsRow.named Rows.poolKeepsSpec.vars) = true := by kernel_rfl
theorem poolKeeps_jf5 : ((Rows.poolKeepsRow.stops == [])) = true := by kernel_rfl
theorem poolKeeps_jf6 : ((Tryz.pinned.checked.prog.stops == [])) = true := by kernel_rfl
theorem poolKeeps_jf7 : ((Rows.poolKeepsRow.knobs == [])) = true := by kernel_rfl
theorem poolKeeps_jf8 : ((Tryz.pinned.checked.prog.stopKnobs == [])) = true := by kernel_rfl
theorem poolKeeps_jf9 : ((Rows.poolKeepsRow.inPlace == Tryz.pinned.checked.prog.inPlace 12)) = true := by kernel_rfl
theorem poolKeeps_jf10 : ((Rows.poolKeepsRow.unfollowed == Tryz.pinned.checked.prog.unfollowed 12)) = true := by kernel_rfl
theorem poolKeeps_jf11 : ((Rows.poolKeepsRow.recurses == Tryz.pinned.checked.prog.recurses 12)) = true := by kernel_rfl
theorem poolKeeps_jf12 : ((Rows.poolKeepsRow.named == Tryz.pinned.checked.prog.varsNamed 12)) = true := by kernel_rfl
theorem poolKeeps_jf13 : ((Rows.poolKeepsRow.maps == (Tryz.f12.params.toList ++ Rows.poolKeepsSpec.plain.varTypes Tryz.pinned.checked.prog).any (Tryz.pinned.checked.prog.mapsRec ·))) = true := by kernel_rfl
theorem poolKeeps_jf14 : ((Rows.poolKeepsRow.ifaces == (Tryz.f12.params.toList ++ Rows.poolKeepsSpec.plain.varTypes Tryz.pinned.checked.prog).any (Tryz.pinned.checked.prog.ifacesRec ·))) = true := by kernel_rfl
theorem poolKeeps_jf15 : ((Rows.poolKeepsRow.mapsOut == Tryz.pinned.checked.prog.mapsAmong Tryz.f12.resultTypes.toList)) = true := by kernel_rfl
theorem poolKeeps_jf16 : ((Rows.poolKeepsRow.loops == (Tryz.f12.params.toList ++ Rows.poolKeepsSpec.plain.varTypes Tryz.pinned.checked.prog).any (Tryz.pinned.checked.prog.loopsFrom ·))) = true := by kernel_rfl
theorem poolKeeps_jf17 : ((Rows.poolKeepsRow.wideKeys == (Tryz.f12.params.toList ++ Rows.poolKeepsSpec.plain.varTypes Tryz.pinned.checked.prog ++ Tryz.f12.resultTypes.toList).any (Tryz.pinned.checked.prog.wideKeysFrom ·))) = true := by kernel_rfl
theorem poolKeeps_jf18 : (Rows.poolKeepsSpec.vars.all (Tryz.pinned.checked.prog.varReadable ·)) = true := by kernel_rfl
theorem poolKeeps_jf19 : (Tryz.f12.resultTypes.all (fun t => Tryz.pinned.checked.prog.readableRec t && decide (t < Tryz.pinned.checked.prog.types.size))) = true := by kernel_rfl
theorem poolKeeps_jf20 : ((Rows.poolKeepsRow.ifacesOut == Tryz.f12.resultTypes.toList.any (Tryz.pinned.checked.prog.ifacesRec ·))) = true := by kernel_rfl
theorem poolKeeps_jf21 : ((Rows.poolKeepsRow.loopsOut == Tryz.f12.resultTypes.toList.any (Tryz.pinned.checked.prog.loopsFrom ·))) = true := by kernel_rfl
theorem poolKeeps_jf22 : ((Rows.poolKeepsRow.plainKeys == Tryz.pinned.checked.prog.plainKeys)) = true := by kernel_rfl
theorem poolKeeps_jf23 : (Rows.poolKeepsRow.shortTexts.isNone) = true := by kernel_rfl
theorem poolKeeps_jf24 : (Tryz.pinned.checked.prog.stopsHeard) = true := by kernel_rfl
theorem poolKeeps_jf25 : (Tryz.pinned.checked.prog.mayEnter) = true := by kernel_rfl
theorem poolKeeps_jf26 : ((Rows.poolKeepsRow.lifted == Tryz.pinned.checked.prog.liftsFinal)) = true := by kernel_rfl
theorem poolKeeps_jf27 : ((Tryz.pinned.checked.prog.make == some Rows.poolKeepsRow.make)) = true := by kernel_rfl
theorem poolKeeps_jf28 : ((Rows.poolKeepsRow.kinds == (if Rows.poolKeepsRow.domain.isEmpty then [] else Tryz.f12.params.toList.map fun t => match Tryz.pinned.checked.prog.underlying t with | some (.int k) => some k | _ => none))) = true := by kernel_rfl
theorem poolKeeps_jf29 : ((Rows.poolKeepsRow.pinned == Rows.poolKeepsRow.pinnedBy)) = true := by kernel_rfl
theorem poolKeeps_jf30 : ((Rows.poolKeepsRow.veiled == (Tryz.f12.params.toList ++ Rows.poolKeepsSpec.plain.varTypes Tryz.pinned.checked.prog ++ Tryz.f12.resultTypes.toList).any (Tryz.pinned.checked.prog.veiledRec ·))) = true := by kernel_rfl
theorem poolKeeps_jf31 : (Rows.poolKeepsRow.veiledFits Tryz.pinned.checked.prog Tryz.f12.params.toList (Tryz.f12.params.toList ++ Rows.poolKeepsSpec.plain.varTypes Tryz.pinned.checked.prog ++ Tryz.f12.resultTypes.toList)) = true := by kernel_rfl
theorem poolKeeps_bm {a b : Bool} (h : a = true) (k : b = true) : (a && b) = true := by rw [h, k]; rfl
theorem poolKeeps_joined : joinedFacts Tryz.pinned.checked.prog 12 Tryz.f12 Rows.poolKeepsSpec Rows.poolKeepsRow = true := by unfold joinedFacts; exact poolKeeps_bm (poolKeeps_bm (poolKeeps_bm (poolKeeps_bm (poolKeeps_bm (poolKeeps_bm (poolKeeps_bm (poolKeeps_bm (poolKeeps_bm (poolKeeps_bm (poolKeeps_bm (poolKeeps_bm (poolKeeps_bm (poolKeeps_bm (poolKeeps_bm (poolKeeps_bm (poolKeeps_bm (poolKeeps_bm (poolKeeps_bm (poolKeeps_bm (poolKeeps_bm (poolKeeps_bm (poolKeeps_bm (poolKeeps_bm (poolKeeps_bm (poolKeeps_bm (poolKeeps_bm (poolKeeps_bm (poolKeeps_bm (poolKeeps_bm (poolKeeps_bm (poolKeeps_jf0) poolKeeps_jf1) poolKeeps_jf2) poolKeeps_jf3) poolKeeps_jf4) poolKeeps_jf5) poolKeeps_jf6) poolKeeps_jf7) poolKeeps_jf8) poolKeeps_jf9) poolKeeps_jf10) poolKeeps_jf11) poolKeeps_jf12) poolKeeps_jf13) poolKeeps_jf14) poolKeeps_jf15) poolKeeps_jf16) poolKeeps_jf17) poolKeeps_jf18) poolKeeps_jf19) poolKeeps_jf20) poolKeeps_jf21) poolKeeps_jf22) poolKeeps_jf23) poolKeeps_jf24) poolKeeps_jf25) poolKeeps_jf26) poolKeeps_jf27) poolKeeps_jf28) poolKeeps_jf29) poolKeeps_jf30) poolKeeps_jf31
theorem poolKeeps_named : Tryz.prog.funcNamed "assent/assentlaw09.PoolKeeps" = some 12 := by kernel_rfl
theorem poolKeeps_main : Tryz.pinned.checked.prog.mainIs = some (true, String.toList "461d3ce827348458da61411a6a7796fa7ee1ffe975effe38f040e65474931a9b") := by kernel_rfl
theorem poolKeeps_looks : false = Tryz.pinned.checked.prog.looks [] := by kernel_rfl
theorem poolKeeps_stand : ([98].all fun u => !Tryz.prog.wantsStandIn u) = true := by kernel_rfl
theorem poolKeeps_goes : false = Rows.poolKeepsRow.goesBy Tryz.pinned.checked.prog := by kernel_rfl
end Go.Proofs.YtcngmkjdpoiiaaaGreatDoor
