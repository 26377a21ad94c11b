/-
  DERIVED. GIVEN WITH THE SEED: THE CARDS: each row of YtjhhpagcejgclaaDoorRows.lean that lists a variable, with what it lists TIED to the program's text (the seventh form; the later family's looks); each row that meets fmt, with fmt's text TOLD by the authors' own Lean function (tested against real Go, not proved from fmt's source: count such statements apart). THE CARD IS WHAT COUNTS. Prove the row's statement (the work); the ties are given (YtjhhpagcejgclaaDoorTie.lean); close each card by the builder's one call (the guide's Derived/Test/ToyasCard.lean, 'card_holds'). Laid BY PROGRAM, IN A SANDBOX (cutbox-door.mjs). By AI agents, Wed Nov 11 2026. No macro, syntax, notation, axiom, sorry.
-/
import Derived.Test.YtjhhpagcejgclaaDoorRows
import GoSem.ClaimSeven
namespace Go.Proofs.YtjhhpagcejgclaaDoor
namespace Rows

/-- THE TIED CARD OF 'assentlaw05.CouncilDigests'. -/
def councilDigestsCard : Claim7 := { stood := { row := councilDigestsRow, standIns := [], harness := (true, "785d5927f418f40ba9fc1379522946d1f81006cf6cf03d5f4a522b92bf38e958"), looks := false }, kinds := [], alts := [], laidByText := true, laidKinds := [.data, .data, .data], laidTests := true, laidLooks := .later }
def CouncilDigestsCardSaid : Prop := Claim7.holds Tryd.pinned (.plain (OpenSpec.ofChange councilDigestsSpec)) councilDigestsCard

/-- THE SECOND FORM's CARD OF 'assentlaw05.CouncilDigests'. -/
def councilDigestsUptoCard : Claim7 := { stood := { row := councilDigestsUptoRow, standIns := [], harness := (true, "785d5927f418f40ba9fc1379522946d1f81006cf6cf03d5f4a522b92bf38e958"), looks := false }, kinds := [], alts := [], laidByText := true, laidKinds := [.data, .data, .data], laidTests := true, laidLooks := .later }
def CouncilDigestsUptoCardSaid : Prop := Claim7.holds Tryd.pinned (.plain (OpenSpec.upto councilDigestsSpec)) councilDigestsUptoCard
end Rows
end Go.Proofs.YtjhhpagcejgclaaDoor
