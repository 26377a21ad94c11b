/- PoolNil: the closed facts of the row on the program, one by one. -/
import Derived.Test.YtcngmkjdpoiiaaaGreatDoorTie
import Derived.Test.YtcngmkjdpoiiaaaGreatDoorCards
import Derived.SevenTiedAt
set_option linter.unusedVariables false
namespace Go.Proofs.YtcngmkjdpoiiaaaGreatDoor
open Go Go.ChangeShapes Go.WideShapes
set_option maxRecDepth 100000
theorem poolNil_jf0 : (Rows.poolNilRow.wf (OpenSpec.ofChange Rows.poolNilSpec)) = true := by kernel_rfl
theorem poolNil_jf1 : (laidOutB Tryz.pinned.checked.prog) = true := by kernel_rfl
theorem poolNil_jf2 : (mapsRowed Tryz.pinned.checked.prog) = true := by kernel_rfl
theorem poolNil_jf3 : (Tryz.f4.params.all (Tryz.pinned.checked.prog.readableRec ·)) = true := by kernel_rfl
theorem poolNil_jf4 : (namedTie Tryz.pinned.checked.prog Rows.poolNilRow.named Rows.poolNilSpec.vars) = true := by kernel_rfl
theorem poolNil_jf5 : ((Rows.poolNilRow.stops == [])) = true := by kernel_rfl
theorem poolNil_jf6 : ((Tryz.pinned.checked.prog.stops == [])) = true := by kernel_rfl
theorem poolNil_jf7 : ((Rows.poolNilRow.knobs == [])) = true := by kernel_rfl
theorem poolNil_jf8 : ((Tryz.pinned.checked.prog.stopKnobs == [])) = true := by kernel_rfl
theorem poolNil_jf9 : ((Rows.poolNilRow.inPlace == Tryz.pinned.checked.prog.inPlace 4)) = true := by kernel_rfl
theorem poolNil_jf10 : ((Rows.poolNilRow.unfollowed == Tryz.pinned.checked.prog.unfollowed 4)) = true := by kernel_rfl
theorem poolNil_jf11 : ((Rows.poolNilRow.recurses == Tryz.pinned.checked.prog.recurses 4)) = true := by kernel_rfl
theorem poolNil_jf12 : ((Rows.poolNilRow.named == Tryz.pinned.checked.prog.varsNamed 4)) = true := by kernel_rfl
theorem poolNil_jf13 : ((Rows.poolNilRow.maps == (Tryz.f4.params.toList ++ Rows.poolNilSpec.plain.varTypes Tryz.pinned.checked.prog).any (Tryz.pinned.checked.prog.mapsRec ·))) = true := by kernel_rfl
theorem poolNil_jf14 : ((Rows.poolNilRow.ifaces == (Tryz.f4.params.toList ++ Rows.poolNilSpec.plain.varTypes Tryz.pinned.checked.prog).any (Tryz.pinned.checked.prog.ifacesRec ·))) = true := by kernel_rfl
theorem poolNil_jf15 : ((Rows.poolNilRow.mapsOut == Tryz.pinned.checked.prog.mapsAmong Tryz.f4.resultTypes.toList)) = true := by kernel_rfl
theorem poolNil_jf16 : ((Rows.poolNilRow.loops == (Tryz.f4.params.toList ++ Rows.poolNilSpec.plain.varTypes Tryz.pinned.checked.prog).any (Tryz.pinned.checked.prog.loopsFrom ·))) = true := by kernel_rfl
theorem poolNil_jf17 : ((Rows.poolNilRow.wideKeys == (Tryz.f4.params.toList ++ Rows.poolNilSpec.plain.varTypes Tryz.pinned.checked.prog ++ Tryz.f4.resultTypes.toList).any (Tryz.pinned.checked.prog.wideKeysFrom ·))) = true := by kernel_rfl
theorem poolNil_jf18 : (Rows.poolNilSpec.vars.all (Tryz.pinned.checked.prog.varReadable ·)) = true := by kernel_rfl
theorem poolNil_jf19 : (Tryz.f4.resultTypes.all (fun t => Tryz.pinned.checked.prog.readableRec t && decide (t < Tryz.pinned.checked.prog.types.size))) = true := by kernel_rfl
theorem poolNil_jf20 : ((Rows.poolNilRow.ifacesOut == Tryz.f4.resultTypes.toList.any (Tryz.pinned.checked.prog.ifacesRec ·))) = true := by kernel_rfl
theorem poolNil_jf21 : ((Rows.poolNilRow.loopsOut == Tryz.f4.resultTypes.toList.any (Tryz.pinned.checked.prog.loopsFrom ·))) = true := by kernel_rfl
theorem poolNil_jf22 : ((Rows.poolNilRow.plainKeys == Tryz.pinned.checked.prog.plainKeys)) = true := by kernel_rfl
theorem poolNil_jf23 : (Rows.poolNilRow.shortTexts.isNone) = true := by kernel_rfl
theorem poolNil_jf24 : (Tryz.pinned.checked.prog.stopsHeard) = true := by kernel_rfl
theorem poolNil_jf25 : (Tryz.pinned.checked.prog.mayEnter) = true := by kernel_rfl
theorem poolNil_jf26 : ((Rows.poolNilRow.lifted == Tryz.pinned.checked.prog.liftsFinal)) = true := by kernel_rfl
theorem poolNil_jf27 : ((Tryz.pinned.checked.prog.make == some Rows.poolNilRow.make)) = true := by kernel_rfl
theorem poolNil_jf28 : ((Rows.poolNilRow.kinds == (if Rows.poolNilRow.domain.isEmpty then [] else Tryz.f4.params.toList.map fun t => match Tryz.pinned.checked.prog.underlying t with | some (.int k) => some k | _ => none))) = true := by kernel_rfl
theorem poolNil_jf29 : ((Rows.poolNilRow.pinned == Rows.poolNilRow.pinnedBy)) = true := by kernel_rfl
theorem poolNil_jf30 : ((Rows.poolNilRow.veiled == (Tryz.f4.params.toList ++ Rows.poolNilSpec.plain.varTypes Tryz.pinned.checked.prog ++ Tryz.f4.resultTypes.toList).any (Tryz.pinned.checked.prog.veiledRec ·))) = true := by kernel_rfl
theorem poolNil_jf31 : (Rows.poolNilRow.veiledFits Tryz.pinned.checked.prog Tryz.f4.params.toList (Tryz.f4.params.toList ++ Rows.poolNilSpec.plain.varTypes Tryz.pinned.checked.prog ++ Tryz.f4.resultTypes.toList)) = true := by kernel_rfl
theorem poolNil_bm {a b : Bool} (h : a = true) (k : b = true) : (a && b) = true := by rw [h, k]; rfl
theorem poolNil_joined : joinedFacts Tryz.pinned.checked.prog 4 Tryz.f4 Rows.poolNilSpec Rows.poolNilRow = true := by unfold joinedFacts; exact poolNil_bm (poolNil_bm (poolNil_bm (poolNil_bm (poolNil_bm (poolNil_bm (poolNil_bm (poolNil_bm (poolNil_bm (poolNil_bm (poolNil_bm (poolNil_bm (poolNil_bm (poolNil_bm (poolNil_bm (poolNil_bm (poolNil_bm (poolNil_bm (poolNil_bm (poolNil_bm (poolNil_bm (poolNil_bm (poolNil_bm (poolNil_bm (poolNil_bm (poolNil_bm (poolNil_bm (poolNil_bm (poolNil_bm (poolNil_bm (poolNil_bm (poolNil_jf0) poolNil_jf1) poolNil_jf2) poolNil_jf3) poolNil_jf4) poolNil_jf5) poolNil_jf6) poolNil_jf7) poolNil_jf8) poolNil_jf9) poolNil_jf10) poolNil_jf11) poolNil_jf12) poolNil_jf13) poolNil_jf14) poolNil_jf15) poolNil_jf16) poolNil_jf17) poolNil_jf18) poolNil_jf19) poolNil_jf20) poolNil_jf21) poolNil_jf22) poolNil_jf23) poolNil_jf24) poolNil_jf25) poolNil_jf26) poolNil_jf27) poolNil_jf28) poolNil_jf29) poolNil_jf30) poolNil_jf31
theorem poolNil_named : Tryz.prog.funcNamed "assent/assentlaw09.PoolNil" = some 4 := by kernel_rfl
theorem poolNil_main : Tryz.pinned.checked.prog.mainIs = some (true, String.toList "461d3ce827348458da61411a6a7796fa7ee1ffe975effe38f040e65474931a9b") := by kernel_rfl
theorem poolNil_looks : false = Tryz.pinned.checked.prog.looks [] := by kernel_rfl
theorem poolNil_stand : ([63, 67, 26].all fun u => !Tryz.prog.wantsStandIn u) = true := by kernel_rfl
theorem poolNil_goes : false = Rows.poolNilRow.goesBy Tryz.pinned.checked.prog := by kernel_rfl
end Go.Proofs.YtcngmkjdpoiiaaaGreatDoor
