/- PoolChain: the closed facts of the row on the program, one by one. -/
import Derived.Test.YtcngmkjdpoiiaaaGreatDoorTie
import Derived.Test.YtcngmkjdpoiiaaaGreatDoorCards
import Derived.SevenTiedAt
set_option linter.unusedVariables false
namespace Go.Proofs.YtcngmkjdpoiiaaaGreatDoor
open Go Go.ChangeShapes Go.WideShapes
set_option maxRecDepth 100000
theorem poolChainUpto_jf0 : (Rows.poolChainUptoRow.wf (OpenSpec.ofChange (Rows.OpenSpec.upto Rows.poolChainSpec).bare)) = true := by kernel_rfl
theorem poolChainUpto_jf1 : (laidOutB Tryz.pinned.checked.prog) = true := by kernel_rfl
theorem poolChainUpto_jf2 : (mapsRowed Tryz.pinned.checked.prog) = true := by kernel_rfl
theorem poolChainUpto_jf3 : (Tryz.f15.params.all (Tryz.pinned.checked.prog.readableRec ·)) = true := by kernel_rfl
theorem poolChainUpto_jf4 : (namedTie Tryz.pinned.checked.prog Rows.poolChainUptoRow.named (Rows.OpenSpec.upto Rows.poolChainSpec).bare.vars) = true := by kernel_rfl
theorem poolChainUpto_jf5 : ((Rows.poolChainUptoRow.stops == [])) = true := by kernel_rfl
theorem poolChainUpto_jf6 : ((Tryz.pinned.checked.prog.stops == [])) = true := by kernel_rfl
theorem poolChainUpto_jf7 : ((Rows.poolChainUptoRow.knobs == [])) = true := by kernel_rfl
theorem poolChainUpto_jf8 : ((Tryz.pinned.checked.prog.stopKnobs == [])) = true := by kernel_rfl
theorem poolChainUpto_jf9 : ((Rows.poolChainUptoRow.inPlace == Tryz.pinned.checked.prog.inPlace 15)) = true := by kernel_rfl
theorem poolChainUpto_jf10 : ((Rows.poolChainUptoRow.unfollowed == Tryz.pinned.checked.prog.unfollowed 15)) = true := by kernel_rfl
theorem poolChainUpto_jf11 : ((Rows.poolChainUptoRow.recurses == Tryz.pinned.checked.prog.recurses 15)) = true := by kernel_rfl
theorem poolChainUpto_jf12 : ((Rows.poolChainUptoRow.named == Tryz.pinned.checked.prog.varsNamed 15)) = true := by kernel_rfl
theorem poolChainUpto_jf13 : ((Rows.poolChainUptoRow.maps == (Tryz.f15.params.toList ++ (Rows.OpenSpec.upto Rows.poolChainSpec).bare.plain.varTypes Tryz.pinned.checked.prog).any (Tryz.pinned.checked.prog.mapsRec ·))) = true := by kernel_rfl
theorem poolChainUpto_jf14 : ((Rows.poolChainUptoRow.ifaces == (Tryz.f15.params.toList ++ (Rows.OpenSpec.upto Rows.poolChainSpec).bare.plain.varTypes Tryz.pinned.checked.prog).any (Tryz.pinned.checked.prog.ifacesRec ·))) = true := by kernel_rfl
theorem poolChainUpto_jf15 : ((Rows.poolChainUptoRow.mapsOut == Tryz.pinned.checked.prog.mapsAmong Tryz.f15.resultTypes.toList)) = true := by kernel_rfl
theorem poolChainUpto_jf16 : ((Rows.poolChainUptoRow.loops == (Tryz.f15.params.toList ++ (Rows.OpenSpec.upto Rows.poolChainSpec).bare.plain.varTypes Tryz.pinned.checked.prog).any (Tryz.pinned.checked.prog.loopsFrom ·))) = true := by kernel_rfl
theorem poolChainUpto_jf17 : ((Rows.poolChainUptoRow.wideKeys == (Tryz.f15.params.toList ++ (Rows.OpenSpec.upto Rows.poolChainSpec).bare.plain.varTypes Tryz.pinned.checked.prog ++ Tryz.f15.resultTypes.toList).any (Tryz.pinned.checked.prog.wideKeysFrom ·))) = true := by kernel_rfl
theorem poolChainUpto_jf18 : ((Rows.OpenSpec.upto Rows.poolChainSpec).bare.vars.all (Tryz.pinned.checked.prog.varReadable ·)) = true := by kernel_rfl
theorem poolChainUpto_jf19 : (Tryz.f15.resultTypes.all (fun t => Tryz.pinned.checked.prog.readableRec t && decide (t < Tryz.pinned.checked.prog.types.size))) = true := by kernel_rfl
theorem poolChainUpto_jf20 : ((Rows.poolChainUptoRow.ifacesOut == Tryz.f15.resultTypes.toList.any (Tryz.pinned.checked.prog.ifacesRec ·))) = true := by kernel_rfl
theorem poolChainUpto_jf21 : ((Rows.poolChainUptoRow.loopsOut == Tryz.f15.resultTypes.toList.any (Tryz.pinned.checked.prog.loopsFrom ·))) = true := by kernel_rfl
theorem poolChainUpto_jf22 : ((Rows.poolChainUptoRow.plainKeys == Tryz.pinned.checked.prog.plainKeys)) = true := by kernel_rfl
theorem poolChainUpto_jf23 : (Rows.poolChainUptoRow.shortTexts.isNone) = true := by kernel_rfl
theorem poolChainUpto_jf24 : (Tryz.pinned.checked.prog.stopsHeard) = true := by kernel_rfl
theorem poolChainUpto_jf25 : (Tryz.pinned.checked.prog.mayEnter) = true := by kernel_rfl
theorem poolChainUpto_jf26 : ((Rows.poolChainUptoRow.lifted == Tryz.pinned.checked.prog.liftsFinal)) = true := by kernel_rfl
theorem poolChainUpto_jf27 : ((Tryz.pinned.checked.prog.make == some Rows.poolChainUptoRow.make)) = true := by kernel_rfl
theorem poolChainUpto_jf28 : ((Rows.poolChainUptoRow.kinds == (if Rows.poolChainUptoRow.domain.isEmpty then [] else Tryz.f15.params.toList.map fun t => match Tryz.pinned.checked.prog.underlying t with | some (.int k) => some k | _ => none))) = true := by kernel_rfl
theorem poolChainUpto_jf29 : ((Rows.poolChainUptoRow.pinned == Rows.poolChainUptoRow.pinnedBy)) = true := by kernel_rfl
theorem poolChainUpto_jf30 : ((Rows.poolChainUptoRow.veiled == (Tryz.f15.params.toList ++ (Rows.OpenSpec.upto Rows.poolChainSpec).bare.plain.varTypes Tryz.pinned.checked.prog ++ Tryz.f15.resultTypes.toList).any (Tryz.pinned.checked.prog.veiledRec ·))) = true := by kernel_rfl
theorem poolChainUpto_jf31 : (Rows.poolChainUptoRow.veiledFits Tryz.pinned.checked.prog Tryz.f15.params.toList (Tryz.f15.params.toList ++ (Rows.OpenSpec.upto Rows.poolChainSpec).bare.plain.varTypes Tryz.pinned.checked.prog ++ Tryz.f15.resultTypes.toList)) = true := by kernel_rfl
theorem poolChainUpto_bm {a b : Bool} (h : a = true) (k : b = true) : (a && b) = true := by rw [h, k]; rfl
theorem poolChainUpto_joined : joinedFacts Tryz.pinned.checked.prog 15 Tryz.f15 (Rows.OpenSpec.upto Rows.poolChainSpec).bare Rows.poolChainUptoRow = true := by unfold joinedFacts; exact poolChainUpto_bm (poolChainUpto_bm (poolChainUpto_bm (poolChainUpto_bm (poolChainUpto_bm (poolChainUpto_bm (poolChainUpto_bm (poolChainUpto_bm (poolChainUpto_bm (poolChainUpto_bm (poolChainUpto_bm (poolChainUpto_bm (poolChainUpto_bm (poolChainUpto_bm (poolChainUpto_bm (poolChainUpto_bm (poolChainUpto_bm (poolChainUpto_bm (poolChainUpto_bm (poolChainUpto_bm (poolChainUpto_bm (poolChainUpto_bm (poolChainUpto_bm (poolChainUpto_bm (poolChainUpto_bm (poolChainUpto_bm (poolChainUpto_bm (poolChainUpto_bm (poolChainUpto_bm (poolChainUpto_bm (poolChainUpto_bm (poolChainUpto_jf0) poolChainUpto_jf1) poolChainUpto_jf2) poolChainUpto_jf3) poolChainUpto_jf4) poolChainUpto_jf5) poolChainUpto_jf6) poolChainUpto_jf7) poolChainUpto_jf8) poolChainUpto_jf9) poolChainUpto_jf10) poolChainUpto_jf11) poolChainUpto_jf12) poolChainUpto_jf13) poolChainUpto_jf14) poolChainUpto_jf15) poolChainUpto_jf16) poolChainUpto_jf17) poolChainUpto_jf18) poolChainUpto_jf19) poolChainUpto_jf20) poolChainUpto_jf21) poolChainUpto_jf22) poolChainUpto_jf23) poolChainUpto_jf24) poolChainUpto_jf25) poolChainUpto_jf26) poolChainUpto_jf27) poolChainUpto_jf28) poolChainUpto_jf29) poolChainUpto_jf30) poolChainUpto_jf31
theorem poolChainUpto_named : Tryz.prog.funcNamed "assent/assentlaw09.PoolChain" = some 15 := by kernel_rfl
theorem poolChainUpto_main : Tryz.pinned.checked.prog.mainIs = some (true, String.toList "461d3ce827348458da61411a6a7796fa7ee1ffe975effe38f040e65474931a9b") := by kernel_rfl
theorem poolChainUpto_looks : false = Tryz.pinned.checked.prog.looks [] := by kernel_rfl
theorem poolChainUpto_stand : ([98, 3].all fun u => !Tryz.prog.wantsStandIn u) = true := by kernel_rfl
theorem poolChainUpto_goes : false = Rows.poolChainUptoRow.goesBy Tryz.pinned.checked.prog := by kernel_rfl
end Go.Proofs.YtcngmkjdpoiiaaaGreatDoor
