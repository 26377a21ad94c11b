/-
  DERIVED. GIVEN WITH THE SEED: THE CARDS: each row of YtfhjhaogmdaepaaGreatDoorRows.lean that lists a variable, with what it lists TIED to the program's text (the seventh form; the later family's looks); each row that meets fmt, with fmt's text TOLD by the authors' own Lean function (tested against real Go, not proved from fmt's source: count such statements apart). THE CARD IS WHAT COUNTS. Prove the row's statement (the work); the ties are given (YtfhjhaogmdaepaaGreatDoorTie.lean); close each card by the builder's one call (the guide's Derived/Test/ToyasCard.lean, 'card_holds'). Laid BY PROGRAM, IN A SANDBOX (cutbox-door.mjs). By AI agents, Wed Nov 11 2026. No macro, syntax, notation, axiom, sorry.
-/
import Derived.Test.YtfhjhaogmdaepaaGreatDoorRows
import GoSem.ClaimSeven
namespace Go.Proofs.YtfhjhaogmdaepaaGreatDoor
namespace Rows

/-- THE TIED CARD OF 'assentlaw08.LedgerBinds'. -/
def ledgerBindsCard : Claim7 := { stood := { row := ledgerBindsRow, standIns := [], harness := (true, "af32f7fc40b47ddb13b0aced95391368661d7a9d934d2a0203db78232028d781"), looks := false }, kinds := [], alts := [], laidByText := true, laidKinds := [.data, .data, .data], laidTests := true, laidLooks := .later }
def LedgerBindsCardSaid : Prop := Claim7.holds Tryz.pinned (.plain (OpenSpec.ofChange ledgerBindsSpec)) ledgerBindsCard

/-- THE TIED CARD OF 'assentlaw08.LedgerFresh'. -/
def ledgerFreshCard : Claim7 := { stood := { row := ledgerFreshRow, standIns := [], harness := (true, "af32f7fc40b47ddb13b0aced95391368661d7a9d934d2a0203db78232028d781"), looks := false }, kinds := [], alts := [], laidByText := true, laidKinds := [.data, .data, .data], laidTests := true, laidLooks := .later }
def LedgerFreshCardSaid : Prop := Claim7.holds Tryz.pinned (.plain (OpenSpec.ofChange ledgerFreshSpec)) ledgerFreshCard

/-- THE TIED CARD OF 'assentlaw08.LedgerKeeps'. -/
def ledgerKeepsCard : Claim7 := { stood := { row := ledgerKeepsRow, standIns := [], harness := (true, "af32f7fc40b47ddb13b0aced95391368661d7a9d934d2a0203db78232028d781"), looks := false }, kinds := [], alts := [], laidByText := true, laidKinds := [.data, .data, .data], laidTests := true, laidLooks := .later }
def LedgerKeepsCardSaid : Prop := Claim7.holds Tryz.pinned (.plain (OpenSpec.ofChange ledgerKeepsSpec)) ledgerKeepsCard

/-- THE TIED CARD OF 'assentlaw08.LedgerNil'. -/
def ledgerNilCard : Claim7 := { stood := { row := ledgerNilRow, standIns := [], harness := (true, "af32f7fc40b47ddb13b0aced95391368661d7a9d934d2a0203db78232028d781"), looks := false }, kinds := [], alts := [], laidByText := true, laidKinds := [.data, .data], laidTests := true, laidLooks := .later }
def LedgerNilCardSaid : Prop := Claim7.holds Tryz.pinned (.plain (OpenSpec.ofChange ledgerNilSpec)) ledgerNilCard

/-- THE TIED CARD OF 'assentlaw08.LedgerProves'. -/
def ledgerProvesCard : Claim7 := { stood := { row := ledgerProvesRow, standIns := [], harness := (true, "af32f7fc40b47ddb13b0aced95391368661d7a9d934d2a0203db78232028d781"), looks := false }, kinds := [], alts := [], laidByText := true, laidKinds := [.data, .data, .data], laidTests := true, laidLooks := .later }
def LedgerProvesCardSaid : Prop := Claim7.holds Tryz.pinned (.plain (OpenSpec.ofChange ledgerProvesSpec)) ledgerProvesCard

/-- THE TIED CARD OF 'assentlaw08.LedgerTurns'. -/
def ledgerTurnsCard : Claim7 := { stood := { row := ledgerTurnsRow, standIns := [], harness := (true, "af32f7fc40b47ddb13b0aced95391368661d7a9d934d2a0203db78232028d781"), looks := false }, kinds := [], alts := [], laidByText := true, laidKinds := [.data, .data, .data], laidTests := true, laidLooks := .later }
def LedgerTurnsCardSaid : Prop := Claim7.holds Tryz.pinned (.plain (OpenSpec.ofChange ledgerTurnsSpec)) ledgerTurnsCard

/-- THE SECOND FORM's CARD OF 'assentlaw08.LedgerBinds'. -/
def ledgerBindsUptoCard : Claim7 := { stood := { row := ledgerBindsUptoRow, standIns := [], harness := (true, "af32f7fc40b47ddb13b0aced95391368661d7a9d934d2a0203db78232028d781"), looks := false }, kinds := [], alts := [], laidByText := true, laidKinds := [.data, .data, .data], laidTests := true, laidLooks := .later }
def LedgerBindsUptoCardSaid : Prop := Claim7.holds Tryz.pinned (.plain (OpenSpec.upto ledgerBindsSpec)) ledgerBindsUptoCard

/-- THE SECOND FORM's CARD OF 'assentlaw08.LedgerFresh'. -/
def ledgerFreshUptoCard : Claim7 := { stood := { row := ledgerFreshUptoRow, standIns := [], harness := (true, "af32f7fc40b47ddb13b0aced95391368661d7a9d934d2a0203db78232028d781"), looks := false }, kinds := [], alts := [], laidByText := true, laidKinds := [.data, .data, .data], laidTests := true, laidLooks := .later }
def LedgerFreshUptoCardSaid : Prop := Claim7.holds Tryz.pinned (.plain (OpenSpec.upto ledgerFreshSpec)) ledgerFreshUptoCard

/-- THE SECOND FORM's CARD OF 'assentlaw08.LedgerKeeps'. -/
def ledgerKeepsUptoCard : Claim7 := { stood := { row := ledgerKeepsUptoRow, standIns := [], harness := (true, "af32f7fc40b47ddb13b0aced95391368661d7a9d934d2a0203db78232028d781"), looks := false }, kinds := [], alts := [], laidByText := true, laidKinds := [.data, .data, .data], laidTests := true, laidLooks := .later }
def LedgerKeepsUptoCardSaid : Prop := Claim7.holds Tryz.pinned (.plain (OpenSpec.upto ledgerKeepsSpec)) ledgerKeepsUptoCard

/-- THE SECOND FORM's CARD OF 'assentlaw08.LedgerNil'. -/
def ledgerNilUptoCard : Claim7 := { stood := { row := ledgerNilUptoRow, standIns := [], harness := (true, "af32f7fc40b47ddb13b0aced95391368661d7a9d934d2a0203db78232028d781"), looks := false }, kinds := [], alts := [], laidByText := true, laidKinds := [.data, .data], laidTests := true, laidLooks := .later }
def LedgerNilUptoCardSaid : Prop := Claim7.holds Tryz.pinned (.plain (OpenSpec.upto ledgerNilSpec)) ledgerNilUptoCard

/-- THE SECOND FORM's CARD OF 'assentlaw08.LedgerProves'. -/
def ledgerProvesUptoCard : Claim7 := { stood := { row := ledgerProvesUptoRow, standIns := [], harness := (true, "af32f7fc40b47ddb13b0aced95391368661d7a9d934d2a0203db78232028d781"), looks := false }, kinds := [], alts := [], laidByText := true, laidKinds := [.data, .data, .data], laidTests := true, laidLooks := .later }
def LedgerProvesUptoCardSaid : Prop := Claim7.holds Tryz.pinned (.plain (OpenSpec.upto ledgerProvesSpec)) ledgerProvesUptoCard

/-- THE SECOND FORM's CARD OF 'assentlaw08.LedgerTurns'. -/
def ledgerTurnsUptoCard : Claim7 := { stood := { row := ledgerTurnsUptoRow, standIns := [], harness := (true, "af32f7fc40b47ddb13b0aced95391368661d7a9d934d2a0203db78232028d781"), looks := false }, kinds := [], alts := [], laidByText := true, laidKinds := [.data, .data, .data], laidTests := true, laidLooks := .later }
def LedgerTurnsUptoCardSaid : Prop := Claim7.holds Tryz.pinned (.plain (OpenSpec.upto ledgerTurnsSpec)) ledgerTurnsUptoCard
end Rows
end Go.Proofs.YtfhjhaogmdaepaaGreatDoor
