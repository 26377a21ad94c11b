/-
  DERIVED. GIVEN WITH THE SEED: THE CARDS: each row of YtnaadddnbfnahaaDoorRows.lean that lists a variable, with what it lists TIED to the program's text (the seventh form; the later family's looks); each row that meets fmt, with fmt's text TOLD by the authors' own Lean function (tested against real Go, not proved from fmt's source: count such statements apart). THE CARD IS WHAT COUNTS. Prove the row's statement (the work); the ties are given (YtnaadddnbfnahaaDoorTie.lean); close each card by the builder's one call (the guide's Derived/Test/ToyasCard.lean, 'card_holds'). Laid BY PROGRAM, IN A SANDBOX (cutbox-door.mjs). By AI agents, Wed Nov 11 2026. No macro, syntax, notation, axiom, sorry.
-/
import Derived.Test.YtnaadddnbfnahaaDoorRows
import GoSem.ClaimSeven
namespace Go.Proofs.YtnaadddnbfnahaaDoor
namespace Rows

/-- THE TIED CARD OF 'assentlaw03.SealTurns'. -/
def sealTurnsCard : Claim7 := { stood := { row := sealTurnsRow, standIns := [], harness := (true, "d776f8285a95ca950801cb983e97306b70b2d9438c079d99e3ff1c6f3e7459f0"), looks := false }, kinds := [], alts := [], laidByText := true, laidKinds := [.data, .data, .data], laidTests := true, laidLooks := .later }
def SealTurnsCardSaid : Prop := Claim7.holds Tryd.pinned (.plain (OpenSpec.ofChange sealTurnsSpec)) sealTurnsCard

/-- THE TIED CARD OF 'assentlaw03.SealTruth'. -/
def sealTruthCard : Claim7 := { stood := { row := sealTruthRow, standIns := [], harness := (true, "d776f8285a95ca950801cb983e97306b70b2d9438c079d99e3ff1c6f3e7459f0"), looks := false }, kinds := [], alts := [], laidByText := true, laidKinds := [.data, .data], laidTests := true, laidLooks := .later }
def SealTruthCardSaid : Prop := Claim7.holds Tryd.pinned (.plain (OpenSpec.ofChange sealTruthSpec)) sealTruthCard

/-- THE TIED CARD OF 'assentlaw03.SealLimits'. -/
def sealLimitsCard : Claim7 := { stood := { row := sealLimitsRow, standIns := [], harness := (true, "d776f8285a95ca950801cb983e97306b70b2d9438c079d99e3ff1c6f3e7459f0"), looks := false }, kinds := [], alts := [], laidByText := true, laidKinds := [.data, .data], laidTests := true, laidLooks := .later }
def SealLimitsCardSaid : Prop := Claim7.holds Tryd.pinned (.plain (OpenSpec.ofChange sealLimitsSpec)) sealLimitsCard

/-- THE TIED CARD OF 'assentlaw03.SealStrange'. -/
def sealStrangeCard : Claim7 := { stood := { row := sealStrangeRow, standIns := [], harness := (true, "d776f8285a95ca950801cb983e97306b70b2d9438c079d99e3ff1c6f3e7459f0"), looks := false }, kinds := [], alts := [], laidByText := true, laidKinds := [.data, .data], laidTests := true, laidLooks := .later }
def SealStrangeCardSaid : Prop := Claim7.holds Tryd.pinned (.plain (OpenSpec.ofChange sealStrangeSpec)) sealStrangeCard

/-- THE TIED CARD OF 'assentlaw03.SealOnce'. -/
def sealOnceCard : Claim7 := { stood := { row := sealOnceRow, standIns := [], harness := (true, "d776f8285a95ca950801cb983e97306b70b2d9438c079d99e3ff1c6f3e7459f0"), looks := false }, kinds := [], alts := [], laidByText := true, laidKinds := [.data, .data], laidTests := true, laidLooks := .later }
def SealOnceCardSaid : Prop := Claim7.holds Tryd.pinned (.plain (OpenSpec.ofChange sealOnceSpec)) sealOnceCard

/-- THE TIED CARD OF 'assentlaw03.SealEnters'. -/
def sealEntersCard : Claim7 := { stood := { row := sealEntersRow, standIns := [], harness := (true, "d776f8285a95ca950801cb983e97306b70b2d9438c079d99e3ff1c6f3e7459f0"), looks := false }, kinds := [], alts := [], laidByText := true, laidKinds := [.data, .data, .data], laidTests := true, laidLooks := .later }
def SealEntersCardSaid : Prop := Claim7.holds Tryd.pinned (.plain (OpenSpec.ofChange sealEntersSpec)) sealEntersCard

/-- THE TIED CARD OF 'assentlaw03.SealSigns'. -/
def sealSignsCard : Claim7 := { stood := { row := sealSignsRow, standIns := [], harness := (true, "d776f8285a95ca950801cb983e97306b70b2d9438c079d99e3ff1c6f3e7459f0"), looks := false }, kinds := [], alts := [], laidByText := true, laidKinds := [.data, .data, .data], laidTests := true, laidLooks := .later }
def SealSignsCardSaid : Prop := Claim7.holds Tryd.pinned (.plain (OpenSpec.ofChange sealSignsSpec)) sealSignsCard

/-- THE TIED CARD OF 'assentlaw03.SealChecks'. -/
def sealChecksCard : Claim7 := { stood := { row := sealChecksRow, standIns := [], harness := (true, "d776f8285a95ca950801cb983e97306b70b2d9438c079d99e3ff1c6f3e7459f0"), looks := false }, kinds := [], alts := [], laidByText := true, laidKinds := [.data, .data, .data], laidTests := true, laidLooks := .later }
def SealChecksCardSaid : Prop := Claim7.holds Tryd.pinned (.plain (OpenSpec.ofChange sealChecksSpec)) sealChecksCard

/-- THE TIED CARD OF 'assentlaw03.SealTells'. -/
def sealTellsCard : Claim7 := { stood := { row := sealTellsRow, standIns := [], harness := (true, "d776f8285a95ca950801cb983e97306b70b2d9438c079d99e3ff1c6f3e7459f0"), looks := false }, kinds := [], alts := [], laidByText := true, laidKinds := [.data, .data, .data], laidTests := true, laidLooks := .later }
def SealTellsCardSaid : Prop := Claim7.holds Tryd.pinned (.plain (OpenSpec.ofChange sealTellsSpec)) sealTellsCard

/-- THE TIED CARD OF 'assentlaw03.SealAll'. -/
def sealAllCard : Claim7 := { stood := { row := sealAllRow, standIns := [], harness := (true, "d776f8285a95ca950801cb983e97306b70b2d9438c079d99e3ff1c6f3e7459f0"), looks := false }, kinds := [], alts := [], laidByText := true, laidKinds := [.data, .data, .data], laidTests := true, laidLooks := .later }
def SealAllCardSaid : Prop := Claim7.holds Tryd.pinned (.plain (OpenSpec.ofChange sealAllSpec)) sealAllCard

/-- THE TIED CARD OF 'assentlaw03.SealOwn'. -/
def sealOwnCard : Claim7 := { stood := { row := sealOwnRow, standIns := [], harness := (true, "d776f8285a95ca950801cb983e97306b70b2d9438c079d99e3ff1c6f3e7459f0"), looks := false }, kinds := [], alts := [], laidByText := true, laidKinds := [.data, .data, .data], laidTests := true, laidLooks := .later }
def SealOwnCardSaid : Prop := Claim7.holds Tryd.pinned (.plain (OpenSpec.ofChange sealOwnSpec)) sealOwnCard

/-- THE TIED CARD OF 'assentlaw03.SealNil'. -/
def sealNilCard : Claim7 := { stood := { row := sealNilRow, standIns := [], harness := (true, "d776f8285a95ca950801cb983e97306b70b2d9438c079d99e3ff1c6f3e7459f0"), looks := false }, kinds := [], alts := [], laidByText := true, laidKinds := [.data, .data], laidTests := true, laidLooks := .later }
def SealNilCardSaid : Prop := Claim7.holds Tryd.pinned (.plain (OpenSpec.ofChange sealNilSpec)) sealNilCard

/-- THE SECOND FORM's CARD OF 'assentlaw03.SealTurns'. -/
def sealTurnsUptoCard : Claim7 := { stood := { row := sealTurnsUptoRow, standIns := [], harness := (true, "d776f8285a95ca950801cb983e97306b70b2d9438c079d99e3ff1c6f3e7459f0"), looks := false }, kinds := [], alts := [], laidByText := true, laidKinds := [.data, .data, .data], laidTests := true, laidLooks := .later }
def SealTurnsUptoCardSaid : Prop := Claim7.holds Tryd.pinned (.plain (OpenSpec.upto sealTurnsSpec)) sealTurnsUptoCard

/-- THE SECOND FORM's CARD OF 'assentlaw03.SealTruth'. -/
def sealTruthUptoCard : Claim7 := { stood := { row := sealTruthUptoRow, standIns := [], harness := (true, "d776f8285a95ca950801cb983e97306b70b2d9438c079d99e3ff1c6f3e7459f0"), looks := false }, kinds := [], alts := [], laidByText := true, laidKinds := [.data, .data], laidTests := true, laidLooks := .later }
def SealTruthUptoCardSaid : Prop := Claim7.holds Tryd.pinned (.plain (OpenSpec.upto sealTruthSpec)) sealTruthUptoCard

/-- THE SECOND FORM's CARD OF 'assentlaw03.SealLimits'. -/
def sealLimitsUptoCard : Claim7 := { stood := { row := sealLimitsUptoRow, standIns := [], harness := (true, "d776f8285a95ca950801cb983e97306b70b2d9438c079d99e3ff1c6f3e7459f0"), looks := false }, kinds := [], alts := [], laidByText := true, laidKinds := [.data, .data], laidTests := true, laidLooks := .later }
def SealLimitsUptoCardSaid : Prop := Claim7.holds Tryd.pinned (.plain (OpenSpec.upto sealLimitsSpec)) sealLimitsUptoCard

/-- THE SECOND FORM's CARD OF 'assentlaw03.SealStrange'. -/
def sealStrangeUptoCard : Claim7 := { stood := { row := sealStrangeUptoRow, standIns := [], harness := (true, "d776f8285a95ca950801cb983e97306b70b2d9438c079d99e3ff1c6f3e7459f0"), looks := false }, kinds := [], alts := [], laidByText := true, laidKinds := [.data, .data], laidTests := true, laidLooks := .later }
def SealStrangeUptoCardSaid : Prop := Claim7.holds Tryd.pinned (.plain (OpenSpec.upto sealStrangeSpec)) sealStrangeUptoCard

/-- THE SECOND FORM's CARD OF 'assentlaw03.SealOnce'. -/
def sealOnceUptoCard : Claim7 := { stood := { row := sealOnceUptoRow, standIns := [], harness := (true, "d776f8285a95ca950801cb983e97306b70b2d9438c079d99e3ff1c6f3e7459f0"), looks := false }, kinds := [], alts := [], laidByText := true, laidKinds := [.data, .data], laidTests := true, laidLooks := .later }
def SealOnceUptoCardSaid : Prop := Claim7.holds Tryd.pinned (.plain (OpenSpec.upto sealOnceSpec)) sealOnceUptoCard

/-- THE SECOND FORM's CARD OF 'assentlaw03.SealEnters'. -/
def sealEntersUptoCard : Claim7 := { stood := { row := sealEntersUptoRow, standIns := [], harness := (true, "d776f8285a95ca950801cb983e97306b70b2d9438c079d99e3ff1c6f3e7459f0"), looks := false }, kinds := [], alts := [], laidByText := true, laidKinds := [.data, .data, .data], laidTests := true, laidLooks := .later }
def SealEntersUptoCardSaid : Prop := Claim7.holds Tryd.pinned (.plain (OpenSpec.upto sealEntersSpec)) sealEntersUptoCard

/-- THE SECOND FORM's CARD OF 'assentlaw03.SealSigns'. -/
def sealSignsUptoCard : Claim7 := { stood := { row := sealSignsUptoRow, standIns := [], harness := (true, "d776f8285a95ca950801cb983e97306b70b2d9438c079d99e3ff1c6f3e7459f0"), looks := false }, kinds := [], alts := [], laidByText := true, laidKinds := [.data, .data, .data], laidTests := true, laidLooks := .later }
def SealSignsUptoCardSaid : Prop := Claim7.holds Tryd.pinned (.plain (OpenSpec.upto sealSignsSpec)) sealSignsUptoCard

/-- THE SECOND FORM's CARD OF 'assentlaw03.SealChecks'. -/
def sealChecksUptoCard : Claim7 := { stood := { row := sealChecksUptoRow, standIns := [], harness := (true, "d776f8285a95ca950801cb983e97306b70b2d9438c079d99e3ff1c6f3e7459f0"), looks := false }, kinds := [], alts := [], laidByText := true, laidKinds := [.data, .data, .data], laidTests := true, laidLooks := .later }
def SealChecksUptoCardSaid : Prop := Claim7.holds Tryd.pinned (.plain (OpenSpec.upto sealChecksSpec)) sealChecksUptoCard

/-- THE SECOND FORM's CARD OF 'assentlaw03.SealTells'. -/
def sealTellsUptoCard : Claim7 := { stood := { row := sealTellsUptoRow, standIns := [], harness := (true, "d776f8285a95ca950801cb983e97306b70b2d9438c079d99e3ff1c6f3e7459f0"), looks := false }, kinds := [], alts := [], laidByText := true, laidKinds := [.data, .data, .data], laidTests := true, laidLooks := .later }
def SealTellsUptoCardSaid : Prop := Claim7.holds Tryd.pinned (.plain (OpenSpec.upto sealTellsSpec)) sealTellsUptoCard

/-- THE SECOND FORM's CARD OF 'assentlaw03.SealAll'. -/
def sealAllUptoCard : Claim7 := { stood := { row := sealAllUptoRow, standIns := [], harness := (true, "d776f8285a95ca950801cb983e97306b70b2d9438c079d99e3ff1c6f3e7459f0"), looks := false }, kinds := [], alts := [], laidByText := true, laidKinds := [.data, .data, .data], laidTests := true, laidLooks := .later }
def SealAllUptoCardSaid : Prop := Claim7.holds Tryd.pinned (.plain (OpenSpec.upto sealAllSpec)) sealAllUptoCard

/-- THE SECOND FORM's CARD OF 'assentlaw03.SealOwn'. -/
def sealOwnUptoCard : Claim7 := { stood := { row := sealOwnUptoRow, standIns := [], harness := (true, "d776f8285a95ca950801cb983e97306b70b2d9438c079d99e3ff1c6f3e7459f0"), looks := false }, kinds := [], alts := [], laidByText := true, laidKinds := [.data, .data, .data], laidTests := true, laidLooks := .later }
def SealOwnUptoCardSaid : Prop := Claim7.holds Tryd.pinned (.plain (OpenSpec.upto sealOwnSpec)) sealOwnUptoCard

/-- THE SECOND FORM's CARD OF 'assentlaw03.SealNil'. -/
def sealNilUptoCard : Claim7 := { stood := { row := sealNilUptoRow, standIns := [], harness := (true, "d776f8285a95ca950801cb983e97306b70b2d9438c079d99e3ff1c6f3e7459f0"), looks := false }, kinds := [], alts := [], laidByText := true, laidKinds := [.data, .data], laidTests := true, laidLooks := .later }
def SealNilUptoCardSaid : Prop := Claim7.holds Tryd.pinned (.plain (OpenSpec.upto sealNilSpec)) sealNilUptoCard
end Rows
end Go.Proofs.YtnaadddnbfnahaaDoor
