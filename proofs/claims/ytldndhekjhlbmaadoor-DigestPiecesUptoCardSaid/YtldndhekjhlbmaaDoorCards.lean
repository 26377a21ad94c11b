/-
  DERIVED. GIVEN WITH THE SEED: THE CARDS: each row of YtldndhekjhlbmaaDoorRows.lean that lists a variable, with what it lists TIED to the program's text (the seventh form; the later family's looks); each row that meets fmt, with fmt's text TOLD by the authors' own Lean function (tested against real Go, not proved from fmt's source: count such statements apart). THE CARD IS WHAT COUNTS. Prove the row's statement (the work); the ties are given (YtldndhekjhlbmaaDoorTie.lean); close each card by the builder's one call (the guide's Derived/Test/ToyasCard.lean, 'card_holds'). Laid BY PROGRAM, IN A SANDBOX (cutbox-door.mjs). By AI agents, Wed Nov 11 2026. No macro, syntax, notation, axiom, sorry.
-/
import Derived.Test.YtldndhekjhlbmaaDoorRows
import GoSem.ClaimSeven
namespace Go.Proofs.YtldndhekjhlbmaaDoor
namespace Rows

/-- THE TIED CARD OF 'assentlaw02.DigestInners'. -/
def digestInnersCard : Claim7 := { stood := { row := digestInnersRow, standIns := [], harness := (true, "697af0b0996a04bc786a4d4eaa2cf3193379f635cfacf4b7a65fd0ef70c15a54"), looks := false }, kinds := [], alts := [], laidByText := true, laidKinds := [.data, .data, .data], laidTests := true, laidLooks := .later }
def DigestInnersCardSaid : Prop := Claim7.holds Tryd.pinned (.plain (OpenSpec.ofChange digestInnersSpec)) digestInnersCard

/-- THE TIED CARD OF 'assentlaw02.DigestSums'. -/
def digestSumsCard : Claim7 := { stood := { row := digestSumsRow, standIns := [], harness := (true, "697af0b0996a04bc786a4d4eaa2cf3193379f635cfacf4b7a65fd0ef70c15a54"), looks := false }, kinds := [], alts := [], laidByText := true, laidKinds := [.data, .data, .data], laidTests := true, laidLooks := .later }
def DigestSumsCardSaid : Prop := Claim7.holds Tryd.pinned (.plain (OpenSpec.ofChange digestSumsSpec)) digestSumsCard

/-- THE TIED CARD OF 'assentlaw02.DigestPieces'. -/
def digestPiecesCard : Claim7 := { stood := { row := digestPiecesRow, standIns := [], harness := (true, "697af0b0996a04bc786a4d4eaa2cf3193379f635cfacf4b7a65fd0ef70c15a54"), looks := false }, kinds := [], alts := [], laidByText := true, laidKinds := [.data, .data, .data], laidTests := true, laidLooks := .later }
def DigestPiecesCardSaid : Prop := Claim7.holds Tryd.pinned (.plain (OpenSpec.ofChange digestPiecesSpec)) digestPiecesCard

/-- THE TIED CARD OF 'assentlaw02.DigestNone'. -/
def digestNoneCard : Claim7 := { stood := { row := digestNoneRow, standIns := [], harness := (true, "697af0b0996a04bc786a4d4eaa2cf3193379f635cfacf4b7a65fd0ef70c15a54"), looks := false }, kinds := [], alts := [], laidByText := true, laidKinds := [.data, .data], laidTests := true, laidLooks := .later }
def DigestNoneCardSaid : Prop := Claim7.holds Tryd.pinned (.plain (OpenSpec.ofChange digestNoneSpec)) digestNoneCard

/-- THE TIED CARD OF 'assentlaw02.DigestLists'. -/
def digestListsCard : Claim7 := { stood := { row := digestListsRow, standIns := [], harness := (true, "697af0b0996a04bc786a4d4eaa2cf3193379f635cfacf4b7a65fd0ef70c15a54"), looks := false }, kinds := [], alts := [], laidByText := true, laidKinds := [.data, .data, .data], laidTests := true, laidLooks := .later }
def DigestListsCardSaid : Prop := Claim7.holds Tryd.pinned (.plain (OpenSpec.ofChange digestListsSpec)) digestListsCard

/-- THE TIED CARD OF 'assentlaw02.DigestPaths'. -/
def digestPathsCard : Claim7 := { stood := { row := digestPathsRow, standIns := [], harness := (true, "697af0b0996a04bc786a4d4eaa2cf3193379f635cfacf4b7a65fd0ef70c15a54"), looks := false }, kinds := [], alts := [], laidByText := true, laidKinds := [.data, .data, .data], laidTests := true, laidLooks := .later }
def DigestPathsCardSaid : Prop := Claim7.holds Tryd.pinned (.plain (OpenSpec.ofChange digestPathsSpec)) digestPathsCard

/-- THE TIED CARD OF 'assentlaw02.DigestFresh'. -/
def digestFreshCard : Claim7 := { stood := { row := digestFreshRow, standIns := [], harness := (true, "697af0b0996a04bc786a4d4eaa2cf3193379f635cfacf4b7a65fd0ef70c15a54"), looks := false }, kinds := [], alts := [], laidByText := true, laidKinds := [.data, .data, .data], laidTests := true, laidLooks := .later }
def DigestFreshCardSaid : Prop := Claim7.holds Tryd.pinned (.plain (OpenSpec.ofChange digestFreshSpec)) digestFreshCard

/-- THE TIED CARD OF 'assentlaw02.DigestBinds'. -/
def digestBindsCard : Claim7 := { stood := { row := digestBindsRow, standIns := [], harness := (true, "697af0b0996a04bc786a4d4eaa2cf3193379f635cfacf4b7a65fd0ef70c15a54"), looks := false }, kinds := [], alts := [], laidByText := true, laidKinds := [.data, .data, .data], laidTests := true, laidLooks := .later }
def DigestBindsCardSaid : Prop := Claim7.holds Tryd.pinned (.plain (OpenSpec.ofChange digestBindsSpec)) digestBindsCard

/-- THE TIED CARD OF 'assentlaw02.DigestProves'. -/
def digestProvesCard : Claim7 := { stood := { row := digestProvesRow, standIns := [], harness := (true, "697af0b0996a04bc786a4d4eaa2cf3193379f635cfacf4b7a65fd0ef70c15a54"), looks := false }, kinds := [], alts := [], laidByText := true, laidKinds := [.data, .data, .data], laidTests := true, laidLooks := .later }
def DigestProvesCardSaid : Prop := Claim7.holds Tryd.pinned (.plain (OpenSpec.ofChange digestProvesSpec)) digestProvesCard

/-- THE SECOND FORM's CARD OF 'assentlaw02.DigestInners'. -/
def digestInnersUptoCard : Claim7 := { stood := { row := digestInnersUptoRow, standIns := [], harness := (true, "697af0b0996a04bc786a4d4eaa2cf3193379f635cfacf4b7a65fd0ef70c15a54"), looks := false }, kinds := [], alts := [], laidByText := true, laidKinds := [.data, .data, .data], laidTests := true, laidLooks := .later }
def DigestInnersUptoCardSaid : Prop := Claim7.holds Tryd.pinned (.plain (OpenSpec.upto digestInnersSpec)) digestInnersUptoCard

/-- THE SECOND FORM's CARD OF 'assentlaw02.DigestSums'. -/
def digestSumsUptoCard : Claim7 := { stood := { row := digestSumsUptoRow, standIns := [], harness := (true, "697af0b0996a04bc786a4d4eaa2cf3193379f635cfacf4b7a65fd0ef70c15a54"), looks := false }, kinds := [], alts := [], laidByText := true, laidKinds := [.data, .data, .data], laidTests := true, laidLooks := .later }
def DigestSumsUptoCardSaid : Prop := Claim7.holds Tryd.pinned (.plain (OpenSpec.upto digestSumsSpec)) digestSumsUptoCard

/-- THE SECOND FORM's CARD OF 'assentlaw02.DigestPieces'. -/
def digestPiecesUptoCard : Claim7 := { stood := { row := digestPiecesUptoRow, standIns := [], harness := (true, "697af0b0996a04bc786a4d4eaa2cf3193379f635cfacf4b7a65fd0ef70c15a54"), looks := false }, kinds := [], alts := [], laidByText := true, laidKinds := [.data, .data, .data], laidTests := true, laidLooks := .later }
def DigestPiecesUptoCardSaid : Prop := Claim7.holds Tryd.pinned (.plain (OpenSpec.upto digestPiecesSpec)) digestPiecesUptoCard

/-- THE SECOND FORM's CARD OF 'assentlaw02.DigestNone'. -/
def digestNoneUptoCard : Claim7 := { stood := { row := digestNoneUptoRow, standIns := [], harness := (true, "697af0b0996a04bc786a4d4eaa2cf3193379f635cfacf4b7a65fd0ef70c15a54"), looks := false }, kinds := [], alts := [], laidByText := true, laidKinds := [.data, .data], laidTests := true, laidLooks := .later }
def DigestNoneUptoCardSaid : Prop := Claim7.holds Tryd.pinned (.plain (OpenSpec.upto digestNoneSpec)) digestNoneUptoCard

/-- THE SECOND FORM's CARD OF 'assentlaw02.DigestLists'. -/
def digestListsUptoCard : Claim7 := { stood := { row := digestListsUptoRow, standIns := [], harness := (true, "697af0b0996a04bc786a4d4eaa2cf3193379f635cfacf4b7a65fd0ef70c15a54"), looks := false }, kinds := [], alts := [], laidByText := true, laidKinds := [.data, .data, .data], laidTests := true, laidLooks := .later }
def DigestListsUptoCardSaid : Prop := Claim7.holds Tryd.pinned (.plain (OpenSpec.upto digestListsSpec)) digestListsUptoCard

/-- THE SECOND FORM's CARD OF 'assentlaw02.DigestPaths'. -/
def digestPathsUptoCard : Claim7 := { stood := { row := digestPathsUptoRow, standIns := [], harness := (true, "697af0b0996a04bc786a4d4eaa2cf3193379f635cfacf4b7a65fd0ef70c15a54"), looks := false }, kinds := [], alts := [], laidByText := true, laidKinds := [.data, .data, .data], laidTests := true, laidLooks := .later }
def DigestPathsUptoCardSaid : Prop := Claim7.holds Tryd.pinned (.plain (OpenSpec.upto digestPathsSpec)) digestPathsUptoCard

/-- THE SECOND FORM's CARD OF 'assentlaw02.DigestFresh'. -/
def digestFreshUptoCard : Claim7 := { stood := { row := digestFreshUptoRow, standIns := [], harness := (true, "697af0b0996a04bc786a4d4eaa2cf3193379f635cfacf4b7a65fd0ef70c15a54"), looks := false }, kinds := [], alts := [], laidByText := true, laidKinds := [.data, .data, .data], laidTests := true, laidLooks := .later }
def DigestFreshUptoCardSaid : Prop := Claim7.holds Tryd.pinned (.plain (OpenSpec.upto digestFreshSpec)) digestFreshUptoCard

/-- THE SECOND FORM's CARD OF 'assentlaw02.DigestBinds'. -/
def digestBindsUptoCard : Claim7 := { stood := { row := digestBindsUptoRow, standIns := [], harness := (true, "697af0b0996a04bc786a4d4eaa2cf3193379f635cfacf4b7a65fd0ef70c15a54"), looks := false }, kinds := [], alts := [], laidByText := true, laidKinds := [.data, .data, .data], laidTests := true, laidLooks := .later }
def DigestBindsUptoCardSaid : Prop := Claim7.holds Tryd.pinned (.plain (OpenSpec.upto digestBindsSpec)) digestBindsUptoCard

/-- THE SECOND FORM's CARD OF 'assentlaw02.DigestProves'. -/
def digestProvesUptoCard : Claim7 := { stood := { row := digestProvesUptoRow, standIns := [], harness := (true, "697af0b0996a04bc786a4d4eaa2cf3193379f635cfacf4b7a65fd0ef70c15a54"), looks := false }, kinds := [], alts := [], laidByText := true, laidKinds := [.data, .data, .data], laidTests := true, laidLooks := .later }
def DigestProvesUptoCardSaid : Prop := Claim7.holds Tryd.pinned (.plain (OpenSpec.upto digestProvesSpec)) digestProvesUptoCard
end Rows
end Go.Proofs.YtldndhekjhlbmaaDoor
