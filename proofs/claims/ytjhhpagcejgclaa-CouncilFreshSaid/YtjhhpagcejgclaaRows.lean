/-
  No cell of these rows narrows 'for every input' (looked for: loops, veiled, ifaces, maps, wideKeys, modest, calm, conditions, laid).
  DERIVED. THE GIVEN ROWS OF THIS SEAT. 11 by the template 'for every input the law returns true; each argument reads behind the call as it read before'; 0 by the template 'total and deterministic' (their statements: YtjhhpagcejgclaaTotals.lean).
  GIVEN WITH THE SEED: the statements are not yours to turn. If you find one false, say at which input.
  Laid BY PROGRAM, IN A SANDBOX (cutbox-rows.mjs): the forced cells as the released guide's own fill.sh prints them over the translation fc0fc01d17d79ab1… (all of the seat's roots in one cut). By AI agents, Wed Nov 11 2026. No macro, syntax, notation, axiom, sorry.
-/
import Derived.Test.YtjhhpagcejgclaaChecked
import GoSem.Claim
import GoSem.ClaimJoined
import GoSem.ClaimMapViews
import Derived.JoinedTies
import Derived.KernelRfl
namespace Go.Proofs.Ytjhhpagcejgclaa
/- THE CELL 'sum', in the pinned program and in every row, IS THE sha256 OF THE DUMP (.gsa) THAT YtjhhpagcejgclaaProg.lean LOADS. Nothing in Lean hashes anything: it is a label: what it is worth is what the hold of that sum in a sandbox is worth. -/
noncomputable def Try.pinned : Pinned := { name := "ytjhhpagcejgclaa", sum := "fc0fc01d17d79ab15a28222ba2143b7b61f2eed224928d091d9df0d201d4684e", checked := Try.checked }
namespace Rows
def none {H : Type} : Left H := { results := [], args := [] }

/-- 'assentlaw05.CouncilNews': WHATEVER THE INPUT: true; the input reads as it did. -/
def councilNewsSpec : ChangeSpec := { name := "councilNews", fn := fun _ => fun
  | [d] => { results := [.lit (.bool true)], args := [d] }
  | _ => none }
def councilNewsRow : OpenClaim := { program := "ytjhhpagcejgclaa", sum := "fc0fc01d17d79ab15a28222ba2143b7b61f2eed224928d091d9df0d201d4684e", func := "assent/assentlaw05.CouncilNews", spec := "councilNews", unfollowed := true, recurses := true, apart := false }
def CouncilNewsSaid : Prop := councilNewsRow.holds Try.pinned (OpenSpec.ofChange councilNewsSpec)

/-- ITS FALSE NEIGHBOUR: 'it returns false'. Refute it at one input. -/
def councilNewsWrong : ChangeSpec := { name := "councilNews", fn := fun _ => fun
  | [d] => { results := [.lit (.bool false)], args := [d] }
  | _ => none }
def CouncilNewsWrongFalsely : Prop := councilNewsRow.holds Try.pinned (OpenSpec.ofChange councilNewsWrong)

/-- 'assentlaw05.CouncilOverlaps': WHATEVER THE INPUT: true; the input reads as it did. -/
def councilOverlapsSpec : ChangeSpec := { name := "councilOverlaps", fn := fun _ => fun
  | [d1, d2, d3] => { results := [.lit (.bool true)], args := [d1, d2, d3] }
  | _ => none }
def councilOverlapsRow : OpenClaim := { program := "ytjhhpagcejgclaa", sum := "fc0fc01d17d79ab15a28222ba2143b7b61f2eed224928d091d9df0d201d4684e", func := "assent/assentlaw05.CouncilOverlaps", spec := "councilOverlaps", unfollowed := true, recurses := true, apart := false }
def CouncilOverlapsSaid : Prop := councilOverlapsRow.holds Try.pinned (OpenSpec.ofChange councilOverlapsSpec)

/-- ITS FALSE NEIGHBOUR: 'it returns false'. Refute it at one input. -/
def councilOverlapsWrong : ChangeSpec := { name := "councilOverlaps", fn := fun _ => fun
  | [d1, d2, d3] => { results := [.lit (.bool false)], args := [d1, d2, d3] }
  | _ => none }
def CouncilOverlapsWrongFalsely : Prop := councilOverlapsRow.holds Try.pinned (OpenSpec.ofChange councilOverlapsWrong)

/-- 'assentlaw05.CouncilTurns': WHATEVER THE INPUT: true; the input reads as it did. -/
def councilTurnsSpec : ChangeSpec := { name := "councilTurns", fn := fun _ => fun
  | [d1, d2, d3] => { results := [.lit (.bool true)], args := [d1, d2, d3] }
  | _ => none }
def councilTurnsRow : OpenClaim := { program := "ytjhhpagcejgclaa", sum := "fc0fc01d17d79ab15a28222ba2143b7b61f2eed224928d091d9df0d201d4684e", func := "assent/assentlaw05.CouncilTurns", spec := "councilTurns", unfollowed := true, recurses := true, apart := false }
def CouncilTurnsSaid : Prop := councilTurnsRow.holds Try.pinned (OpenSpec.ofChange councilTurnsSpec)

/-- ITS FALSE NEIGHBOUR: 'it returns false'. Refute it at one input. -/
def councilTurnsWrong : ChangeSpec := { name := "councilTurns", fn := fun _ => fun
  | [d1, d2, d3] => { results := [.lit (.bool false)], args := [d1, d2, d3] }
  | _ => none }
def CouncilTurnsWrongFalsely : Prop := councilTurnsRow.holds Try.pinned (OpenSpec.ofChange councilTurnsWrong)

/-- 'assentlaw05.CouncilAdds': WHATEVER THE INPUT: true; the input reads as it did. -/
def councilAddsSpec : ChangeSpec := { name := "councilAdds", fn := fun _ => fun
  | [d1, d2, d3] => { results := [.lit (.bool true)], args := [d1, d2, d3] }
  | _ => none }
def councilAddsRow : OpenClaim := { program := "ytjhhpagcejgclaa", sum := "fc0fc01d17d79ab15a28222ba2143b7b61f2eed224928d091d9df0d201d4684e", func := "assent/assentlaw05.CouncilAdds", spec := "councilAdds", unfollowed := true, recurses := true, apart := false }
def CouncilAddsSaid : Prop := councilAddsRow.holds Try.pinned (OpenSpec.ofChange councilAddsSpec)

/-- ITS FALSE NEIGHBOUR: 'it returns false'. Refute it at one input. -/
def councilAddsWrong : ChangeSpec := { name := "councilAdds", fn := fun _ => fun
  | [d1, d2, d3] => { results := [.lit (.bool false)], args := [d1, d2, d3] }
  | _ => none }
def CouncilAddsWrongFalsely : Prop := councilAddsRow.holds Try.pinned (OpenSpec.ofChange councilAddsWrong)

/-- 'assentlaw05.CouncilSounds': WHATEVER THE INPUT: true; the input reads as it did. -/
def councilSoundsSpec : ChangeSpec := { name := "councilSounds", fn := fun _ => fun
  | [d1, d2] => { results := [.lit (.bool true)], args := [d1, d2] }
  | _ => none }
def councilSoundsRow : OpenClaim := { program := "ytjhhpagcejgclaa", sum := "fc0fc01d17d79ab15a28222ba2143b7b61f2eed224928d091d9df0d201d4684e", func := "assent/assentlaw05.CouncilSounds", spec := "councilSounds", unfollowed := true, recurses := true, apart := false }
def CouncilSoundsSaid : Prop := councilSoundsRow.holds Try.pinned (OpenSpec.ofChange councilSoundsSpec)

/-- ITS FALSE NEIGHBOUR: 'it returns false'. Refute it at one input. -/
def councilSoundsWrong : ChangeSpec := { name := "councilSounds", fn := fun _ => fun
  | [d1, d2] => { results := [.lit (.bool false)], args := [d1, d2] }
  | _ => none }
def CouncilSoundsWrongFalsely : Prop := councilSoundsRow.holds Try.pinned (OpenSpec.ofChange councilSoundsWrong)

/-- 'assentlaw05.CouncilShares': WHATEVER THE INPUT: true; the input reads as it did. -/
def councilSharesSpec : ChangeSpec := { name := "councilShares", fn := fun _ => fun
  | [d1, d2] => { results := [.lit (.bool true)], args := [d1, d2] }
  | _ => none }
def councilSharesRow : OpenClaim := { program := "ytjhhpagcejgclaa", sum := "fc0fc01d17d79ab15a28222ba2143b7b61f2eed224928d091d9df0d201d4684e", func := "assent/assentlaw05.CouncilShares", spec := "councilShares", unfollowed := true, recurses := true, apart := false }
def CouncilSharesSaid : Prop := councilSharesRow.holds Try.pinned (OpenSpec.ofChange councilSharesSpec)

/-- ITS FALSE NEIGHBOUR: 'it returns false'. Refute it at one input. -/
def councilSharesWrong : ChangeSpec := { name := "councilShares", fn := fun _ => fun
  | [d1, d2] => { results := [.lit (.bool false)], args := [d1, d2] }
  | _ => none }
def CouncilSharesWrongFalsely : Prop := councilSharesRow.holds Try.pinned (OpenSpec.ofChange councilSharesWrong)

/-- 'assentlaw05.CouncilRenews': WHATEVER THE INPUT: true; the input reads as it did. -/
def councilRenewsSpec : ChangeSpec := { name := "councilRenews", fn := fun _ => fun
  | [d1, d2] => { results := [.lit (.bool true)], args := [d1, d2] }
  | _ => none }
def councilRenewsRow : OpenClaim := { program := "ytjhhpagcejgclaa", sum := "fc0fc01d17d79ab15a28222ba2143b7b61f2eed224928d091d9df0d201d4684e", func := "assent/assentlaw05.CouncilRenews", spec := "councilRenews", inPlace := ["math/bits.Add64", "math/bits.Sub64"], unfollowed := true, recurses := true, named := ["math/bits.divideError", "math/bits.overflowError"], apart := false }
def CouncilRenewsSaid : Prop := councilRenewsRow.holds Try.pinned (OpenSpec.ofChange councilRenewsSpec)

/-- ITS FALSE NEIGHBOUR: 'it returns false'. Refute it at one input. -/
def councilRenewsWrong : ChangeSpec := { name := "councilRenews", fn := fun _ => fun
  | [d1, d2] => { results := [.lit (.bool false)], args := [d1, d2] }
  | _ => none }
def CouncilRenewsWrongFalsely : Prop := councilRenewsRow.holds Try.pinned (OpenSpec.ofChange councilRenewsWrong)

/-- 'assentlaw05.CouncilBounds': WHATEVER THE INPUT: true; the input reads as it did. -/
def councilBoundsSpec : ChangeSpec := { name := "councilBounds", fn := fun _ => fun
  | [d1, d2] => { results := [.lit (.bool true)], args := [d1, d2] }
  | _ => none }
def councilBoundsRow : OpenClaim := { program := "ytjhhpagcejgclaa", sum := "fc0fc01d17d79ab15a28222ba2143b7b61f2eed224928d091d9df0d201d4684e", func := "assent/assentlaw05.CouncilBounds", spec := "councilBounds", inPlace := ["math/bits.Add64", "math/bits.Sub64"], unfollowed := true, recurses := true, named := ["math/bits.divideError", "math/bits.overflowError"], apart := false }
def CouncilBoundsSaid : Prop := councilBoundsRow.holds Try.pinned (OpenSpec.ofChange councilBoundsSpec)

/-- ITS FALSE NEIGHBOUR: 'it returns false'. Refute it at one input. -/
def councilBoundsWrong : ChangeSpec := { name := "councilBounds", fn := fun _ => fun
  | [d1, d2] => { results := [.lit (.bool false)], args := [d1, d2] }
  | _ => none }
def CouncilBoundsWrongFalsely : Prop := councilBoundsRow.holds Try.pinned (OpenSpec.ofChange councilBoundsWrong)

/-- 'assentlaw05.CouncilWaits': WHATEVER THE INPUT: true; the input reads as it did. -/
def councilWaitsSpec : ChangeSpec := { name := "councilWaits", fn := fun _ => fun
  | [d1, d2, d3] => { results := [.lit (.bool true)], args := [d1, d2, d3] }
  | _ => none }
def councilWaitsRow : OpenClaim := { program := "ytjhhpagcejgclaa", sum := "fc0fc01d17d79ab15a28222ba2143b7b61f2eed224928d091d9df0d201d4684e", func := "assent/assentlaw05.CouncilWaits", spec := "councilWaits", inPlace := ["math/bits.Add64", "math/bits.Sub64"], unfollowed := true, recurses := true, named := ["math/bits.divideError", "math/bits.overflowError"], apart := false }
def CouncilWaitsSaid : Prop := councilWaitsRow.holds Try.pinned (OpenSpec.ofChange councilWaitsSpec)

/-- ITS FALSE NEIGHBOUR: 'it returns false'. Refute it at one input. -/
def councilWaitsWrong : ChangeSpec := { name := "councilWaits", fn := fun _ => fun
  | [d1, d2, d3] => { results := [.lit (.bool false)], args := [d1, d2, d3] }
  | _ => none }
def CouncilWaitsWrongFalsely : Prop := councilWaitsRow.holds Try.pinned (OpenSpec.ofChange councilWaitsWrong)

/-- 'assentlaw05.CouncilTwice': WHATEVER THE INPUT: true; the input reads as it did. -/
def councilTwiceSpec : ChangeSpec := { name := "councilTwice", fn := fun _ => fun
  | [d1, d2, d3] => { results := [.lit (.bool true)], args := [d1, d2, d3] }
  | _ => none }
def councilTwiceRow : OpenClaim := { program := "ytjhhpagcejgclaa", sum := "fc0fc01d17d79ab15a28222ba2143b7b61f2eed224928d091d9df0d201d4684e", func := "assent/assentlaw05.CouncilTwice", spec := "councilTwice", inPlace := ["math/bits.Add64", "math/bits.Sub64"], unfollowed := true, recurses := true, named := ["math/bits.divideError", "math/bits.overflowError"], apart := false }
def CouncilTwiceSaid : Prop := councilTwiceRow.holds Try.pinned (OpenSpec.ofChange councilTwiceSpec)

/-- ITS FALSE NEIGHBOUR: 'it returns false'. Refute it at one input. -/
def councilTwiceWrong : ChangeSpec := { name := "councilTwice", fn := fun _ => fun
  | [d1, d2, d3] => { results := [.lit (.bool false)], args := [d1, d2, d3] }
  | _ => none }
def CouncilTwiceWrongFalsely : Prop := councilTwiceRow.holds Try.pinned (OpenSpec.ofChange councilTwiceWrong)

/-- 'assentlaw05.CouncilFresh': WHATEVER THE INPUT: true; the input reads as it did. -/
def councilFreshSpec : ChangeSpec := { name := "councilFresh", fn := fun _ => fun
  | [d1, d2, d3] => { results := [.lit (.bool true)], args := [d1, d2, d3] }
  | _ => none }
def councilFreshRow : OpenClaim := { program := "ytjhhpagcejgclaa", sum := "fc0fc01d17d79ab15a28222ba2143b7b61f2eed224928d091d9df0d201d4684e", func := "assent/assentlaw05.CouncilFresh", spec := "councilFresh", inPlace := ["math/bits.Add64", "math/bits.Sub64"], unfollowed := true, recurses := true, named := ["math/bits.divideError", "math/bits.overflowError"], apart := false }
def CouncilFreshSaid : Prop := councilFreshRow.holds Try.pinned (OpenSpec.ofChange councilFreshSpec)

/-- ITS FALSE NEIGHBOUR: 'it returns false'. Refute it at one input. -/
def councilFreshWrong : ChangeSpec := { name := "councilFresh", fn := fun _ => fun
  | [d1, d2, d3] => { results := [.lit (.bool false)], args := [d1, d2, d3] }
  | _ => none }
def CouncilFreshWrongFalsely : Prop := councilFreshRow.holds Try.pinned (OpenSpec.ofChange councilFreshWrong)

/- THE SECOND FORM. 'bulk': how many values and letters a reading holds, each counted each time it is reached (what is shared counts as often as it is met; a slice's spare places count too). A statement '..UptoSaid' is the law's where the arguments, and the package variables that the reading takes, are together of bulk at most 1048576: NARROWER than '..Said'. Prove '..Said' where nothing that the law and all that it calls make is longer than what came in: it says more and counts as full. Else prove '..UptoSaid'. A law counts once. -/
mutual
def uptoBulk {H : Type} : DataW H → Nat
  | .lit (.string bytes) => bytes.length + 1
  | .lit _ => 1
  | .nil => 1
  | .ptr d => uptoBulk d + 1
  | .slice elems spare => uptoBulkAll elems + uptoBulkAll spare + 1
  | .agg parts => uptoBulkAll parts + 1
  | .iface _ d => uptoBulk d + 1
  | .map entries => uptoBulkEntries entries + 1
  | .held _ => 1
def uptoBulkAll {H : Type} : List (DataW H) → Nat
  | [] => 0
  | d :: r => uptoBulk d + uptoBulkAll r
def uptoBulkEntries {H : Type} : List (Lit × DataW H) → Nat
  | [] => 0
  | x :: r => uptoBulkEntry x + uptoBulkEntries r
def uptoBulkEntry {H : Type} : Lit × DataW H → Nat
  | (.string bytes, d) => bytes.length + uptoBulk d + 1
  | (_, d) => uptoBulk d + 1
 end
def uptoSmall : (H : Type) → List (DataW H) → Bool := fun _ ds => decide (uptoBulkAll ds ≤ 1048576)
def OpenSpec.upto (s : _root_.Go.ChangeSpec) : _root_.Go.OpenSpec := { _root_.Go.OpenSpec.ofChange s with cond := some uptoSmall }

/-- 'assentlaw05.CouncilNews', WHERE WHAT IT READS IS OF BULK AT MOST 1048576: true; the input reads as it did. -/
def councilNewsUptoRow : OpenClaim := { program := "ytjhhpagcejgclaa", sum := "fc0fc01d17d79ab15a28222ba2143b7b61f2eed224928d091d9df0d201d4684e", func := "assent/assentlaw05.CouncilNews", spec := "councilNews", unfollowed := true, recurses := true, apart := false, narrowed := true }
def CouncilNewsUptoSaid : Prop := councilNewsUptoRow.holds Try.pinned (OpenSpec.upto councilNewsSpec)

/-- 'assentlaw05.CouncilOverlaps', WHERE WHAT IT READS IS OF BULK AT MOST 1048576: true; the input reads as it did. -/
def councilOverlapsUptoRow : OpenClaim := { program := "ytjhhpagcejgclaa", sum := "fc0fc01d17d79ab15a28222ba2143b7b61f2eed224928d091d9df0d201d4684e", func := "assent/assentlaw05.CouncilOverlaps", spec := "councilOverlaps", unfollowed := true, recurses := true, apart := false, narrowed := true }
def CouncilOverlapsUptoSaid : Prop := councilOverlapsUptoRow.holds Try.pinned (OpenSpec.upto councilOverlapsSpec)

/-- 'assentlaw05.CouncilTurns', WHERE WHAT IT READS IS OF BULK AT MOST 1048576: true; the input reads as it did. -/
def councilTurnsUptoRow : OpenClaim := { program := "ytjhhpagcejgclaa", sum := "fc0fc01d17d79ab15a28222ba2143b7b61f2eed224928d091d9df0d201d4684e", func := "assent/assentlaw05.CouncilTurns", spec := "councilTurns", unfollowed := true, recurses := true, apart := false, narrowed := true }
def CouncilTurnsUptoSaid : Prop := councilTurnsUptoRow.holds Try.pinned (OpenSpec.upto councilTurnsSpec)

/-- 'assentlaw05.CouncilAdds', WHERE WHAT IT READS IS OF BULK AT MOST 1048576: true; the input reads as it did. -/
def councilAddsUptoRow : OpenClaim := { program := "ytjhhpagcejgclaa", sum := "fc0fc01d17d79ab15a28222ba2143b7b61f2eed224928d091d9df0d201d4684e", func := "assent/assentlaw05.CouncilAdds", spec := "councilAdds", unfollowed := true, recurses := true, apart := false, narrowed := true }
def CouncilAddsUptoSaid : Prop := councilAddsUptoRow.holds Try.pinned (OpenSpec.upto councilAddsSpec)

/-- 'assentlaw05.CouncilSounds', WHERE WHAT IT READS IS OF BULK AT MOST 1048576: true; the input reads as it did. -/
def councilSoundsUptoRow : OpenClaim := { program := "ytjhhpagcejgclaa", sum := "fc0fc01d17d79ab15a28222ba2143b7b61f2eed224928d091d9df0d201d4684e", func := "assent/assentlaw05.CouncilSounds", spec := "councilSounds", unfollowed := true, recurses := true, apart := false, narrowed := true }
def CouncilSoundsUptoSaid : Prop := councilSoundsUptoRow.holds Try.pinned (OpenSpec.upto councilSoundsSpec)

/-- 'assentlaw05.CouncilShares', WHERE WHAT IT READS IS OF BULK AT MOST 1048576: true; the input reads as it did. -/
def councilSharesUptoRow : OpenClaim := { program := "ytjhhpagcejgclaa", sum := "fc0fc01d17d79ab15a28222ba2143b7b61f2eed224928d091d9df0d201d4684e", func := "assent/assentlaw05.CouncilShares", spec := "councilShares", unfollowed := true, recurses := true, apart := false, narrowed := true }
def CouncilSharesUptoSaid : Prop := councilSharesUptoRow.holds Try.pinned (OpenSpec.upto councilSharesSpec)

/-- 'assentlaw05.CouncilRenews', WHERE WHAT IT READS IS OF BULK AT MOST 1048576: true; the input reads as it did. -/
def councilRenewsUptoRow : OpenClaim := { program := "ytjhhpagcejgclaa", sum := "fc0fc01d17d79ab15a28222ba2143b7b61f2eed224928d091d9df0d201d4684e", func := "assent/assentlaw05.CouncilRenews", spec := "councilRenews", inPlace := ["math/bits.Add64", "math/bits.Sub64"], unfollowed := true, recurses := true, named := ["math/bits.divideError", "math/bits.overflowError"], apart := false, narrowed := true }
def CouncilRenewsUptoSaid : Prop := councilRenewsUptoRow.holds Try.pinned (OpenSpec.upto councilRenewsSpec)

/-- 'assentlaw05.CouncilBounds', WHERE WHAT IT READS IS OF BULK AT MOST 1048576: true; the input reads as it did. -/
def councilBoundsUptoRow : OpenClaim := { program := "ytjhhpagcejgclaa", sum := "fc0fc01d17d79ab15a28222ba2143b7b61f2eed224928d091d9df0d201d4684e", func := "assent/assentlaw05.CouncilBounds", spec := "councilBounds", inPlace := ["math/bits.Add64", "math/bits.Sub64"], unfollowed := true, recurses := true, named := ["math/bits.divideError", "math/bits.overflowError"], apart := false, narrowed := true }
def CouncilBoundsUptoSaid : Prop := councilBoundsUptoRow.holds Try.pinned (OpenSpec.upto councilBoundsSpec)

/-- 'assentlaw05.CouncilWaits', WHERE WHAT IT READS IS OF BULK AT MOST 1048576: true; the input reads as it did. -/
def councilWaitsUptoRow : OpenClaim := { program := "ytjhhpagcejgclaa", sum := "fc0fc01d17d79ab15a28222ba2143b7b61f2eed224928d091d9df0d201d4684e", func := "assent/assentlaw05.CouncilWaits", spec := "councilWaits", inPlace := ["math/bits.Add64", "math/bits.Sub64"], unfollowed := true, recurses := true, named := ["math/bits.divideError", "math/bits.overflowError"], apart := false, narrowed := true }
def CouncilWaitsUptoSaid : Prop := councilWaitsUptoRow.holds Try.pinned (OpenSpec.upto councilWaitsSpec)

/-- 'assentlaw05.CouncilTwice', WHERE WHAT IT READS IS OF BULK AT MOST 1048576: true; the input reads as it did. -/
def councilTwiceUptoRow : OpenClaim := { program := "ytjhhpagcejgclaa", sum := "fc0fc01d17d79ab15a28222ba2143b7b61f2eed224928d091d9df0d201d4684e", func := "assent/assentlaw05.CouncilTwice", spec := "councilTwice", inPlace := ["math/bits.Add64", "math/bits.Sub64"], unfollowed := true, recurses := true, named := ["math/bits.divideError", "math/bits.overflowError"], apart := false, narrowed := true }
def CouncilTwiceUptoSaid : Prop := councilTwiceUptoRow.holds Try.pinned (OpenSpec.upto councilTwiceSpec)

/-- 'assentlaw05.CouncilFresh', WHERE WHAT IT READS IS OF BULK AT MOST 1048576: true; the input reads as it did. -/
def councilFreshUptoRow : OpenClaim := { program := "ytjhhpagcejgclaa", sum := "fc0fc01d17d79ab15a28222ba2143b7b61f2eed224928d091d9df0d201d4684e", func := "assent/assentlaw05.CouncilFresh", spec := "councilFresh", inPlace := ["math/bits.Add64", "math/bits.Sub64"], unfollowed := true, recurses := true, named := ["math/bits.divideError", "math/bits.overflowError"], apart := false, narrowed := true }
def CouncilFreshUptoSaid : Prop := councilFreshUptoRow.holds Try.pinned (OpenSpec.upto councilFreshSpec)

end Rows
end Go.Proofs.Ytjhhpagcejgclaa
