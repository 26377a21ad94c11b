/-
  DERIVED. GIVEN WITH THE SEED: THE CARDS: each row of YtcngmkjdpoiiaaaGreatDoorRows.lean that lists a variable, with what it lists TIED to the program's text (the seventh form; the later family's looks); each row that meets fmt, with fmt's text TOLD by the authors' own Lean function (tested against real Go, not proved from fmt's source: count such statements apart). THE CARD IS WHAT COUNTS. Prove the row's statement (the work); the ties are given (YtcngmkjdpoiiaaaGreatDoorTie.lean); close each card by the builder's one call (the guide's Derived/Test/ToyasCard.lean, 'card_holds'). Laid BY PROGRAM, IN A SANDBOX (cutbox-door.mjs). By AI agents, Wed Nov 11 2026. No macro, syntax, notation, axiom, sorry.
-/
import Derived.Test.YtcngmkjdpoiiaaaGreatDoorRows
import GoSem.ClaimSeven
namespace Go.Proofs.YtcngmkjdpoiiaaaGreatDoor
namespace Rows

/-- THE TIED CARD OF 'assentlaw08.LedgerFresh'. -/
def ledgerFreshCard : Claim7 := { stood := { row := ledgerFreshRow, standIns := [], harness := (true, "461d3ce827348458da61411a6a7796fa7ee1ffe975effe38f040e65474931a9b"), looks := false }, kinds := [], alts := [], laidByText := true, laidKinds := [.data, .data, .data], laidTests := true, laidLooks := .later }
def LedgerFreshCardSaid : Prop := Claim7.holds Tryz.pinned (.plain (OpenSpec.ofChange ledgerFreshSpec)) ledgerFreshCard

/-- THE TIED CARD OF 'assentlaw09.PoolNil'. -/
def poolNilCard : Claim7 := { stood := { row := poolNilRow, standIns := [], harness := (true, "461d3ce827348458da61411a6a7796fa7ee1ffe975effe38f040e65474931a9b"), looks := false }, kinds := [], alts := [], laidByText := true, laidKinds := [.data, .data], laidTests := true, laidLooks := .later }
def PoolNilCardSaid : Prop := Claim7.holds Tryz.pinned (.plain (OpenSpec.ofChange poolNilSpec)) poolNilCard

/-- THE TIED CARD OF 'assentlaw09.PoolTurns'. -/
def poolTurnsCard : Claim7 := { stood := { row := poolTurnsRow, standIns := [], harness := (true, "461d3ce827348458da61411a6a7796fa7ee1ffe975effe38f040e65474931a9b"), looks := false }, kinds := [], alts := [], laidByText := true, laidKinds := [.data, .data, .data], laidTests := true, laidLooks := .later }
def PoolTurnsCardSaid : Prop := Claim7.holds Tryz.pinned (.plain (OpenSpec.ofChange poolTurnsSpec)) poolTurnsCard

/-- THE TIED CARD OF 'assentlaw09.PoolAdds'. -/
def poolAddsCard : Claim7 := { stood := { row := poolAddsRow, standIns := [], harness := (true, "461d3ce827348458da61411a6a7796fa7ee1ffe975effe38f040e65474931a9b"), looks := false }, kinds := [], alts := [], laidByText := true, laidKinds := [.data, .data, .data], laidTests := true, laidLooks := .later }
def PoolAddsCardSaid : Prop := Claim7.holds Tryz.pinned (.plain (OpenSpec.ofChange poolAddsSpec)) poolAddsCard

/-- THE TIED CARD OF 'assentlaw09.PoolPicks'. -/
def poolPicksCard : Claim7 := { stood := { row := poolPicksRow, standIns := [], harness := (true, "461d3ce827348458da61411a6a7796fa7ee1ffe975effe38f040e65474931a9b"), looks := false }, kinds := [], alts := [], laidByText := true, laidKinds := [.data, .data, .data], laidTests := true, laidLooks := .later }
def PoolPicksCardSaid : Prop := Claim7.holds Tryz.pinned (.plain (OpenSpec.ofChange poolPicksSpec)) poolPicksCard

/-- THE TIED CARD OF 'assentlaw09.PoolTells'. -/
def poolTellsCard : Claim7 := { stood := { row := poolTellsRow, standIns := [], harness := (true, "461d3ce827348458da61411a6a7796fa7ee1ffe975effe38f040e65474931a9b"), looks := false }, kinds := [], alts := [], laidByText := true, laidKinds := [.data, .data, .data], laidTests := true, laidLooks := .later }
def PoolTellsCardSaid : Prop := Claim7.holds Tryz.pinned (.plain (OpenSpec.ofChange poolTellsSpec)) poolTellsCard

/-- THE TIED CARD OF 'assentlaw09.PoolAll'. -/
def poolAllCard : Claim7 := { stood := { row := poolAllRow, standIns := [], harness := (true, "461d3ce827348458da61411a6a7796fa7ee1ffe975effe38f040e65474931a9b"), looks := false }, kinds := [], alts := [], laidByText := true, laidKinds := [.data, .data, .data], laidTests := true, laidLooks := .later }
def PoolAllCardSaid : Prop := Claim7.holds Tryz.pinned (.plain (OpenSpec.ofChange poolAllSpec)) poolAllCard

/-- THE TIED CARD OF 'assentlaw09.PoolTwo'. -/
def poolTwoCard : Claim7 := { stood := { row := poolTwoRow, standIns := [], harness := (true, "461d3ce827348458da61411a6a7796fa7ee1ffe975effe38f040e65474931a9b"), looks := false }, kinds := [], alts := [], laidByText := true, laidKinds := [.data, .data, .data], laidTests := true, laidLooks := .later }
def PoolTwoCardSaid : Prop := Claim7.holds Tryz.pinned (.plain (OpenSpec.ofChange poolTwoSpec)) poolTwoCard

/-- THE TIED CARD OF 'assentlaw09.PoolOwn'. -/
def poolOwnCard : Claim7 := { stood := { row := poolOwnRow, standIns := [], harness := (true, "461d3ce827348458da61411a6a7796fa7ee1ffe975effe38f040e65474931a9b"), looks := false }, kinds := [], alts := [], laidByText := true, laidKinds := [.data, .data, .data], laidTests := true, laidLooks := .later }
def PoolOwnCardSaid : Prop := Claim7.holds Tryz.pinned (.plain (OpenSpec.ofChange poolOwnSpec)) poolOwnCard

/-- THE TIED CARD OF 'assentlaw09.PoolKeeps'. -/
def poolKeepsCard : Claim7 := { stood := { row := poolKeepsRow, standIns := [], harness := (true, "461d3ce827348458da61411a6a7796fa7ee1ffe975effe38f040e65474931a9b"), looks := false }, kinds := [], alts := [], laidByText := true, laidKinds := [.data, .data], laidTests := true, laidLooks := .later }
def PoolKeepsCardSaid : Prop := Claim7.holds Tryz.pinned (.plain (OpenSpec.ofChange poolKeepsSpec)) poolKeepsCard

/-- THE TIED CARD OF 'assentlaw08.LedgerKeeps'. -/
def ledgerKeepsCard : Claim7 := { stood := { row := ledgerKeepsRow, standIns := [], harness := (true, "461d3ce827348458da61411a6a7796fa7ee1ffe975effe38f040e65474931a9b"), looks := false }, kinds := [], alts := [], laidByText := true, laidKinds := [.data, .data, .data], laidTests := true, laidLooks := .later }
def LedgerKeepsCardSaid : Prop := Claim7.holds Tryz.pinned (.plain (OpenSpec.ofChange ledgerKeepsSpec)) ledgerKeepsCard

/-- THE TIED CARD OF 'assentlaw09.PoolGoes'. -/
def poolGoesCard : Claim7 := { stood := { row := poolGoesRow, standIns := [], harness := (true, "461d3ce827348458da61411a6a7796fa7ee1ffe975effe38f040e65474931a9b"), looks := false }, kinds := [], alts := [], laidByText := true, laidKinds := [.data, .data], laidTests := true, laidLooks := .later }
def PoolGoesCardSaid : Prop := Claim7.holds Tryz.pinned (.plain (OpenSpec.ofChange poolGoesSpec)) poolGoesCard

/-- THE TIED CARD OF 'assentlaw09.PoolChain'. -/
def poolChainCard : Claim7 := { stood := { row := poolChainRow, standIns := [], harness := (true, "461d3ce827348458da61411a6a7796fa7ee1ffe975effe38f040e65474931a9b"), looks := false }, kinds := [], alts := [], laidByText := true, laidKinds := [.data, .data], laidTests := true, laidLooks := .later }
def PoolChainCardSaid : Prop := Claim7.holds Tryz.pinned (.plain (OpenSpec.ofChange poolChainSpec)) poolChainCard

/-- THE SECOND FORM's CARD OF 'assentlaw08.LedgerFresh'. -/
def ledgerFreshUptoCard : Claim7 := { stood := { row := ledgerFreshUptoRow, standIns := [], harness := (true, "461d3ce827348458da61411a6a7796fa7ee1ffe975effe38f040e65474931a9b"), looks := false }, kinds := [], alts := [], laidByText := true, laidKinds := [.data, .data, .data], laidTests := true, laidLooks := .later }
def LedgerFreshUptoCardSaid : Prop := Claim7.holds Tryz.pinned (.plain (OpenSpec.upto ledgerFreshSpec)) ledgerFreshUptoCard

/-- THE SECOND FORM's CARD OF 'assentlaw09.PoolNil'. -/
def poolNilUptoCard : Claim7 := { stood := { row := poolNilUptoRow, standIns := [], harness := (true, "461d3ce827348458da61411a6a7796fa7ee1ffe975effe38f040e65474931a9b"), looks := false }, kinds := [], alts := [], laidByText := true, laidKinds := [.data, .data], laidTests := true, laidLooks := .later }
def PoolNilUptoCardSaid : Prop := Claim7.holds Tryz.pinned (.plain (OpenSpec.upto poolNilSpec)) poolNilUptoCard

/-- THE SECOND FORM's CARD OF 'assentlaw09.PoolTurns'. -/
def poolTurnsUptoCard : Claim7 := { stood := { row := poolTurnsUptoRow, standIns := [], harness := (true, "461d3ce827348458da61411a6a7796fa7ee1ffe975effe38f040e65474931a9b"), looks := false }, kinds := [], alts := [], laidByText := true, laidKinds := [.data, .data, .data], laidTests := true, laidLooks := .later }
def PoolTurnsUptoCardSaid : Prop := Claim7.holds Tryz.pinned (.plain (OpenSpec.upto poolTurnsSpec)) poolTurnsUptoCard

/-- THE SECOND FORM's CARD OF 'assentlaw09.PoolAdds'. -/
def poolAddsUptoCard : Claim7 := { stood := { row := poolAddsUptoRow, standIns := [], harness := (true, "461d3ce827348458da61411a6a7796fa7ee1ffe975effe38f040e65474931a9b"), looks := false }, kinds := [], alts := [], laidByText := true, laidKinds := [.data, .data, .data], laidTests := true, laidLooks := .later }
def PoolAddsUptoCardSaid : Prop := Claim7.holds Tryz.pinned (.plain (OpenSpec.upto poolAddsSpec)) poolAddsUptoCard

/-- THE SECOND FORM's CARD OF 'assentlaw09.PoolPicks'. -/
def poolPicksUptoCard : Claim7 := { stood := { row := poolPicksUptoRow, standIns := [], harness := (true, "461d3ce827348458da61411a6a7796fa7ee1ffe975effe38f040e65474931a9b"), looks := false }, kinds := [], alts := [], laidByText := true, laidKinds := [.data, .data, .data], laidTests := true, laidLooks := .later }
def PoolPicksUptoCardSaid : Prop := Claim7.holds Tryz.pinned (.plain (OpenSpec.upto poolPicksSpec)) poolPicksUptoCard

/-- THE SECOND FORM's CARD OF 'assentlaw09.PoolTells'. -/
def poolTellsUptoCard : Claim7 := { stood := { row := poolTellsUptoRow, standIns := [], harness := (true, "461d3ce827348458da61411a6a7796fa7ee1ffe975effe38f040e65474931a9b"), looks := false }, kinds := [], alts := [], laidByText := true, laidKinds := [.data, .data, .data], laidTests := true, laidLooks := .later }
def PoolTellsUptoCardSaid : Prop := Claim7.holds Tryz.pinned (.plain (OpenSpec.upto poolTellsSpec)) poolTellsUptoCard

/-- THE SECOND FORM's CARD OF 'assentlaw09.PoolAll'. -/
def poolAllUptoCard : Claim7 := { stood := { row := poolAllUptoRow, standIns := [], harness := (true, "461d3ce827348458da61411a6a7796fa7ee1ffe975effe38f040e65474931a9b"), looks := false }, kinds := [], alts := [], laidByText := true, laidKinds := [.data, .data, .data], laidTests := true, laidLooks := .later }
def PoolAllUptoCardSaid : Prop := Claim7.holds Tryz.pinned (.plain (OpenSpec.upto poolAllSpec)) poolAllUptoCard

/-- THE SECOND FORM's CARD OF 'assentlaw09.PoolTwo'. -/
def poolTwoUptoCard : Claim7 := { stood := { row := poolTwoUptoRow, standIns := [], harness := (true, "461d3ce827348458da61411a6a7796fa7ee1ffe975effe38f040e65474931a9b"), looks := false }, kinds := [], alts := [], laidByText := true, laidKinds := [.data, .data, .data], laidTests := true, laidLooks := .later }
def PoolTwoUptoCardSaid : Prop := Claim7.holds Tryz.pinned (.plain (OpenSpec.upto poolTwoSpec)) poolTwoUptoCard

/-- THE SECOND FORM's CARD OF 'assentlaw09.PoolOwn'. -/
def poolOwnUptoCard : Claim7 := { stood := { row := poolOwnUptoRow, standIns := [], harness := (true, "461d3ce827348458da61411a6a7796fa7ee1ffe975effe38f040e65474931a9b"), looks := false }, kinds := [], alts := [], laidByText := true, laidKinds := [.data, .data, .data], laidTests := true, laidLooks := .later }
def PoolOwnUptoCardSaid : Prop := Claim7.holds Tryz.pinned (.plain (OpenSpec.upto poolOwnSpec)) poolOwnUptoCard

/-- THE SECOND FORM's CARD OF 'assentlaw09.PoolKeeps'. -/
def poolKeepsUptoCard : Claim7 := { stood := { row := poolKeepsUptoRow, standIns := [], harness := (true, "461d3ce827348458da61411a6a7796fa7ee1ffe975effe38f040e65474931a9b"), looks := false }, kinds := [], alts := [], laidByText := true, laidKinds := [.data, .data], laidTests := true, laidLooks := .later }
def PoolKeepsUptoCardSaid : Prop := Claim7.holds Tryz.pinned (.plain (OpenSpec.upto poolKeepsSpec)) poolKeepsUptoCard

/-- THE SECOND FORM's CARD OF 'assentlaw08.LedgerKeeps'. -/
def ledgerKeepsUptoCard : Claim7 := { stood := { row := ledgerKeepsUptoRow, standIns := [], harness := (true, "461d3ce827348458da61411a6a7796fa7ee1ffe975effe38f040e65474931a9b"), looks := false }, kinds := [], alts := [], laidByText := true, laidKinds := [.data, .data, .data], laidTests := true, laidLooks := .later }
def LedgerKeepsUptoCardSaid : Prop := Claim7.holds Tryz.pinned (.plain (OpenSpec.upto ledgerKeepsSpec)) ledgerKeepsUptoCard

/-- THE SECOND FORM's CARD OF 'assentlaw09.PoolGoes'. -/
def poolGoesUptoCard : Claim7 := { stood := { row := poolGoesUptoRow, standIns := [], harness := (true, "461d3ce827348458da61411a6a7796fa7ee1ffe975effe38f040e65474931a9b"), looks := false }, kinds := [], alts := [], laidByText := true, laidKinds := [.data, .data], laidTests := true, laidLooks := .later }
def PoolGoesUptoCardSaid : Prop := Claim7.holds Tryz.pinned (.plain (OpenSpec.upto poolGoesSpec)) poolGoesUptoCard

/-- THE SECOND FORM's CARD OF 'assentlaw09.PoolChain'. -/
def poolChainUptoCard : Claim7 := { stood := { row := poolChainUptoRow, standIns := [], harness := (true, "461d3ce827348458da61411a6a7796fa7ee1ffe975effe38f040e65474931a9b"), looks := false }, kinds := [], alts := [], laidByText := true, laidKinds := [.data, .data], laidTests := true, laidLooks := .later }
def PoolChainUptoCardSaid : Prop := Claim7.holds Tryz.pinned (.plain (OpenSpec.upto poolChainSpec)) poolChainUptoCard
end Rows
end Go.Proofs.YtcngmkjdpoiiaaaGreatDoor
