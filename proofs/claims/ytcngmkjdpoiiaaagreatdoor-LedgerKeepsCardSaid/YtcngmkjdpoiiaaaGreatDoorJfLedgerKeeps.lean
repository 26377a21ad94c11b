/- LedgerKeeps: the closed facts of the row on the program, one by one. -/
import Derived.Test.YtcngmkjdpoiiaaaGreatDoorTie
import Derived.Test.YtcngmkjdpoiiaaaGreatDoorCards
import Derived.SevenTiedAt
set_option linter.unusedVariables false
namespace Go.Proofs.YtcngmkjdpoiiaaaGreatDoor
open Go Go.ChangeShapes Go.WideShapes
set_option maxRecDepth 100000
theorem ledgerKeeps_jf0 : (Rows.ledgerKeepsRow.wf (OpenSpec.ofChange Rows.ledgerKeepsSpec)) = true := by kernel_rfl
theorem ledgerKeeps_jf1 : (laidOutB Tryz.pinned.checked.prog) = true := by kernel_rfl
theorem ledgerKeeps_jf2 : (mapsRowed Tryz.pinned.checked.prog) = true := by kernel_rfl
theorem ledgerKeeps_jf3 : (Tryz.f13.params.all (Tryz.pinned.checked.prog.readableRec ·)) = true := by kernel_rfl
theorem ledgerKeeps_jf4 : (namedTie Tryz.pinned.checked.prog Rows.ledgerKeepsRow.named Rows.ledgerKeepsSpec.vars) = true := by kernel_rfl
theorem ledgerKeeps_jf5 : ((Rows.ledgerKeepsRow.stops == [])) = true := by kernel_rfl
theorem ledgerKeeps_jf6 : ((Tryz.pinned.checked.prog.stops == [])) = true := by kernel_rfl
theorem ledgerKeeps_jf7 : ((Rows.ledgerKeepsRow.knobs == [])) = true := by kernel_rfl
theorem ledgerKeeps_jf8 : ((Tryz.pinned.checked.prog.stopKnobs == [])) = true := by kernel_rfl
theorem ledgerKeeps_jf9 : ((Rows.ledgerKeepsRow.inPlace == Tryz.pinned.checked.prog.inPlace 13)) = true := by kernel_rfl
theorem ledgerKeeps_jf10 : ((Rows.ledgerKeepsRow.unfollowed == Tryz.pinned.checked.prog.unfollowed 13)) = true := by kernel_rfl
theorem ledgerKeeps_jf11 : ((Rows.ledgerKeepsRow.recurses == Tryz.pinned.checked.prog.recurses 13)) = true := by kernel_rfl
theorem ledgerKeeps_jf12 : ((Rows.ledgerKeepsRow.named == Tryz.pinned.checked.prog.varsNamed 13)) = true := by kernel_rfl
theorem ledgerKeeps_jf13 : ((Rows.ledgerKeepsRow.maps == (Tryz.f13.params.toList ++ Rows.ledgerKeepsSpec.plain.varTypes Tryz.pinned.checked.prog).any (Tryz.pinned.checked.prog.mapsRec ·))) = true := by kernel_rfl
theorem ledgerKeeps_jf14 : ((Rows.ledgerKeepsRow.ifaces == (Tryz.f13.params.toList ++ Rows.ledgerKeepsSpec.plain.varTypes Tryz.pinned.checked.prog).any (Tryz.pinned.checked.prog.ifacesRec ·))) = true := by kernel_rfl
theorem ledgerKeeps_jf15 : ((Rows.ledgerKeepsRow.mapsOut == Tryz.pinned.checked.prog.mapsAmong Tryz.f13.resultTypes.toList)) = true := by kernel_rfl
theorem ledgerKeeps_jf16 : ((Rows.ledgerKeepsRow.loops == (Tryz.f13.params.toList ++ Rows.ledgerKeepsSpec.plain.varTypes Tryz.pinned.checked.prog).any (Tryz.pinned.checked.prog.loopsFrom ·))) = true := by kernel_rfl
theorem ledgerKeeps_jf17 : ((Rows.ledgerKeepsRow.wideKeys == (Tryz.f13.params.toList ++ Rows.ledgerKeepsSpec.plain.varTypes Tryz.pinned.checked.prog ++ Tryz.f13.resultTypes.toList).any (Tryz.pinned.checked.prog.wideKeysFrom ·))) = true := by kernel_rfl
theorem ledgerKeeps_jf18 : (Rows.ledgerKeepsSpec.vars.all (Tryz.pinned.checked.prog.varReadable ·)) = true := by kernel_rfl
theorem ledgerKeeps_jf19 : (Tryz.f13.resultTypes.all (fun t => Tryz.pinned.checked.prog.readableRec t && decide (t < Tryz.pinned.checked.prog.types.size))) = true := by kernel_rfl
theorem ledgerKeeps_jf20 : ((Rows.ledgerKeepsRow.ifacesOut == Tryz.f13.resultTypes.toList.any (Tryz.pinned.checked.prog.ifacesRec ·))) = true := by kernel_rfl
theorem ledgerKeeps_jf21 : ((Rows.ledgerKeepsRow.loopsOut == Tryz.f13.resultTypes.toList.any (Tryz.pinned.checked.prog.loopsFrom ·))) = true := by kernel_rfl
theorem ledgerKeeps_jf22 : ((Rows.ledgerKeepsRow.plainKeys == Tryz.pinned.checked.prog.plainKeys)) = true := by kernel_rfl
theorem ledgerKeeps_jf23 : (Rows.ledgerKeepsRow.shortTexts.isNone) = true := by kernel_rfl
theorem ledgerKeeps_jf24 : (Tryz.pinned.checked.prog.stopsHeard) = true := by kernel_rfl
theorem ledgerKeeps_jf25 : (Tryz.pinned.checked.prog.mayEnter) = true := by kernel_rfl
theorem ledgerKeeps_jf26 : ((Rows.ledgerKeepsRow.lifted == Tryz.pinned.checked.prog.liftsFinal)) = true := by kernel_rfl
theorem ledgerKeeps_jf27 : ((Tryz.pinned.checked.prog.make == some Rows.ledgerKeepsRow.make)) = true := by kernel_rfl
theorem ledgerKeeps_jf28 : ((Rows.ledgerKeepsRow.kinds == (if Rows.ledgerKeepsRow.domain.isEmpty then [] else Tryz.f13.params.toList.map fun t => match Tryz.pinned.checked.prog.underlying t with | some (.int k) => some k | _ => none))) = true := by kernel_rfl
theorem ledgerKeeps_jf29 : ((Rows.ledgerKeepsRow.pinned == Rows.ledgerKeepsRow.pinnedBy)) = true := by kernel_rfl
theorem ledgerKeeps_jf30 : ((Rows.ledgerKeepsRow.veiled == (Tryz.f13.params.toList ++ Rows.ledgerKeepsSpec.plain.varTypes Tryz.pinned.checked.prog ++ Tryz.f13.resultTypes.toList).any (Tryz.pinned.checked.prog.veiledRec ·))) = true := by kernel_rfl
theorem ledgerKeeps_jf31 : (Rows.ledgerKeepsRow.veiledFits Tryz.pinned.checked.prog Tryz.f13.params.toList (Tryz.f13.params.toList ++ Rows.ledgerKeepsSpec.plain.varTypes Tryz.pinned.checked.prog ++ Tryz.f13.resultTypes.toList)) = true := by kernel_rfl
theorem ledgerKeeps_bm {a b : Bool} (h : a = true) (k : b = true) : (a && b) = true := by rw [h, k]; rfl
theorem ledgerKeeps_joined : joinedFacts Tryz.pinned.checked.prog 13 Tryz.f13 Rows.ledgerKeepsSpec Rows.ledgerKeepsRow = true := by unfold joinedFacts; exact ledgerKeeps_bm (ledgerKeeps_bm (ledgerKeeps_bm (ledgerKeeps_bm (ledgerKeeps_bm (ledgerKeeps_bm (ledgerKeeps_bm (ledgerKeeps_bm (ledgerKeeps_bm (ledgerKeeps_bm (ledgerKeeps_bm (ledgerKeeps_bm (ledgerKeeps_bm (ledgerKeeps_bm (ledgerKeeps_bm (ledgerKeeps_bm (ledgerKeeps_bm (ledgerKeeps_bm (ledgerKeeps_bm (ledgerKeeps_bm (ledgerKeeps_bm (ledgerKeeps_bm (ledgerKeeps_bm (ledgerKeeps_bm (ledgerKeeps_bm (ledgerKeeps_bm (ledgerKeeps_bm (ledgerKeeps_bm (ledgerKeeps_bm (ledgerKeeps_bm (ledgerKeeps_bm (ledgerKeeps_jf0) ledgerKeeps_jf1) ledgerKeeps_jf2) ledgerKeeps_jf3) ledgerKeeps_jf4) ledgerKeeps_jf5) ledgerKeeps_jf6) ledgerKeeps_jf7) ledgerKeeps_jf8) ledgerKeeps_jf9) ledgerKeeps_jf10) ledgerKeeps_jf11) ledgerKeeps_jf12) ledgerKeeps_jf13) ledgerKeeps_jf14) ledgerKeeps_jf15) ledgerKeeps_jf16) ledgerKeeps_jf17) ledgerKeeps_jf18) ledgerKeeps_jf19) ledgerKeeps_jf20) ledgerKeeps_jf21) ledgerKeeps_jf22) ledgerKeeps_jf23) ledgerKeeps_jf24) ledgerKeeps_jf25) ledgerKeeps_jf26) ledgerKeeps_jf27) ledgerKeeps_jf28) ledgerKeeps_jf29) ledgerKeeps_jf30) ledgerKeeps_jf31
theorem ledgerKeeps_named : Tryz.prog.funcNamed "assent/assentlaw08.LedgerKeeps" = some 13 := by kernel_rfl
theorem ledgerKeeps_main : Tryz.pinned.checked.prog.mainIs = some (true, String.toList "461d3ce827348458da61411a6a7796fa7ee1ffe975effe38f040e65474931a9b") := by kernel_rfl
theorem ledgerKeeps_looks : false = Tryz.pinned.checked.prog.looks [] := by kernel_rfl
theorem ledgerKeeps_stand : ([22, 25, 9, 141].all fun u => !Tryz.prog.wantsStandIn u) = true := by kernel_rfl
theorem ledgerKeeps_goes : false = Rows.ledgerKeepsRow.goesBy Tryz.pinned.checked.prog := by kernel_rfl
end Go.Proofs.YtcngmkjdpoiiaaaGreatDoor
