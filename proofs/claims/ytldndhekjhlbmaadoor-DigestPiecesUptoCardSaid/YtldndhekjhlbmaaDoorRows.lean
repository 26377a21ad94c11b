/-
  NARROWER THAN 'FOR EVERY INPUT', by the rows' own cells (each row's printed sentence says how): DigestInners: laid · DigestSums: laid · DigestPieces: laid · DigestNone: laid · DigestLists: laid · DigestPaths: laid · DigestFresh: laid · DigestBinds: laid · DigestProves: laid.
  DERIVED. THE GIVEN ROWS OF THIS SEAT. 9 by the template 'for every input the law returns true; each argument reads behind the call as it read before'; 0 by the template 'total and deterministic' (their statements: YtldndhekjhlbmaaDoorTotals.lean).
  GIVEN WITH THE SEED: the statements are not yours to turn. If you find one false, say at which input.
  Laid BY PROGRAM, IN A SANDBOX (cutbox-rows.mjs): the forced cells as the released guide's own fill.sh prints them over the translation 8aa91e4c85ba7e95… (all of the seat's roots in one cut). By AI agents, Wed Nov 11 2026. No macro, syntax, notation, axiom, sorry.
-/
import Derived.Test.YtldndhekjhlbmaaDoorChecked
import GoSem.Claim
import GoSem.ClaimJoined
import GoSem.ClaimMapViews
import Derived.JoinedTies
import Derived.KernelRfl
namespace Go.Proofs.YtldndhekjhlbmaaDoor
/- THE CELL 'sum', in the pinned program and in every row, IS THE sha256 OF THE DUMP (.gsa) THAT YtldndhekjhlbmaaDoorProg.lean LOADS. Nothing in Lean hashes anything: it is a label: what it is worth is what the hold of that sum in a sandbox is worth. -/
noncomputable def Tryd.pinned : Pinned := { name := "ytldndhekjhlbmaadoor", sum := "8aa91e4c85ba7e95803cc91b6f45c0c53fb9bc1b8f1e1a4f7b2504dee118de34", checked := Tryd.checked }
namespace Rows
def none {H : Type} : Left H := { results := [], args := [] }

/- WHAT THE LISTED PACKAGE-LEVEL VARIABLES READ AS WHEN THE CALL BEGINS. Each datum BY PROGRAM (the guide's laid-datum.mjs) off the statement by which the dump's own 'gosem.cut.vars' lays the variable. In a bare row this is a premise. The card (YtldndhekjhlbmaaDoorCards.lean) ties it to the program's text. -/
def laid_assent_assentref02_adds {H : Type} : DataW H := .agg [.lit (.int .u32 1116352408), .lit (.int .u32 1899447441), .lit (.int .u32 3049323471), .lit (.int .u32 3921009573), .lit (.int .u32 961987163), .lit (.int .u32 1508970993), .lit (.int .u32 2453635748), .lit (.int .u32 2870763221), .lit (.int .u32 3624381080), .lit (.int .u32 310598401), .lit (.int .u32 607225278), .lit (.int .u32 1426881987), .lit (.int .u32 1925078388), .lit (.int .u32 2162078206), .lit (.int .u32 2614888103), .lit (.int .u32 3248222580), .lit (.int .u32 3835390401), .lit (.int .u32 4022224774), .lit (.int .u32 264347078), .lit (.int .u32 604807628), .lit (.int .u32 770255983), .lit (.int .u32 1249150122), .lit (.int .u32 1555081692), .lit (.int .u32 1996064986), .lit (.int .u32 2554220882), .lit (.int .u32 2821834349), .lit (.int .u32 2952996808), .lit (.int .u32 3210313671), .lit (.int .u32 3336571891), .lit (.int .u32 3584528711), .lit (.int .u32 113926993), .lit (.int .u32 338241895), .lit (.int .u32 666307205), .lit (.int .u32 773529912), .lit (.int .u32 1294757372), .lit (.int .u32 1396182291), .lit (.int .u32 1695183700), .lit (.int .u32 1986661051), .lit (.int .u32 2177026350), .lit (.int .u32 2456956037), .lit (.int .u32 2730485921), .lit (.int .u32 2820302411), .lit (.int .u32 3259730800), .lit (.int .u32 3345764771), .lit (.int .u32 3516065817), .lit (.int .u32 3600352804), .lit (.int .u32 4094571909), .lit (.int .u32 275423344), .lit (.int .u32 430227734), .lit (.int .u32 506948616), .lit (.int .u32 659060556), .lit (.int .u32 883997877), .lit (.int .u32 958139571), .lit (.int .u32 1322822218), .lit (.int .u32 1537002063), .lit (.int .u32 1747873779), .lit (.int .u32 1955562222), .lit (.int .u32 2024104815), .lit (.int .u32 2227730452), .lit (.int .u32 2361852424), .lit (.int .u32 2428436474), .lit (.int .u32 2756734187), .lit (.int .u32 3204031479), .lit (.int .u32 3329325298)]
def laid_assent_digest_adds {H : Type} : DataW H := .agg [.lit (.int .u32 1116352408), .lit (.int .u32 1899447441), .lit (.int .u32 3049323471), .lit (.int .u32 3921009573), .lit (.int .u32 961987163), .lit (.int .u32 1508970993), .lit (.int .u32 2453635748), .lit (.int .u32 2870763221), .lit (.int .u32 3624381080), .lit (.int .u32 310598401), .lit (.int .u32 607225278), .lit (.int .u32 1426881987), .lit (.int .u32 1925078388), .lit (.int .u32 2162078206), .lit (.int .u32 2614888103), .lit (.int .u32 3248222580), .lit (.int .u32 3835390401), .lit (.int .u32 4022224774), .lit (.int .u32 264347078), .lit (.int .u32 604807628), .lit (.int .u32 770255983), .lit (.int .u32 1249150122), .lit (.int .u32 1555081692), .lit (.int .u32 1996064986), .lit (.int .u32 2554220882), .lit (.int .u32 2821834349), .lit (.int .u32 2952996808), .lit (.int .u32 3210313671), .lit (.int .u32 3336571891), .lit (.int .u32 3584528711), .lit (.int .u32 113926993), .lit (.int .u32 338241895), .lit (.int .u32 666307205), .lit (.int .u32 773529912), .lit (.int .u32 1294757372), .lit (.int .u32 1396182291), .lit (.int .u32 1695183700), .lit (.int .u32 1986661051), .lit (.int .u32 2177026350), .lit (.int .u32 2456956037), .lit (.int .u32 2730485921), .lit (.int .u32 2820302411), .lit (.int .u32 3259730800), .lit (.int .u32 3345764771), .lit (.int .u32 3516065817), .lit (.int .u32 3600352804), .lit (.int .u32 4094571909), .lit (.int .u32 275423344), .lit (.int .u32 430227734), .lit (.int .u32 506948616), .lit (.int .u32 659060556), .lit (.int .u32 883997877), .lit (.int .u32 958139571), .lit (.int .u32 1322822218), .lit (.int .u32 1537002063), .lit (.int .u32 1747873779), .lit (.int .u32 1955562222), .lit (.int .u32 2024104815), .lit (.int .u32 2227730452), .lit (.int .u32 2361852424), .lit (.int .u32 2428436474), .lit (.int .u32 2756734187), .lit (.int .u32 3204031479), .lit (.int .u32 3329325298)]
def laid_assent_digest_begin {H : Type} : DataW H := .agg [.lit (.int .u32 1779033703), .lit (.int .u32 3144134277), .lit (.int .u32 1013904242), .lit (.int .u32 2773480762), .lit (.int .u32 1359893119), .lit (.int .u32 2600822924), .lit (.int .u32 528734635), .lit (.int .u32 1541459225)]

/-- 'assentlaw02.DigestInners': WHATEVER THE INPUT: true; the input reads as it did. -/
def digestInnersSpec : ChangeSpec := { name := "digestInners", fn := fun _ => fun
  | [d1, d2] => { results := [.lit (.bool true)], args := [d1, d2] }
  | _ => none }
def digestInnersRow : OpenClaim := { program := "ytldndhekjhlbmaadoor", sum := "8aa91e4c85ba7e95803cc91b6f45c0c53fb9bc1b8f1e1a4f7b2504dee118de34", func := "assent/assentlaw02.DigestInners", spec := "digestInners", named := ["assent/digest.begin", "assent/digest.adds", "assent/assentref02.adds"], apart := false, laid := [("assent/assentref02.adds", laid_assent_assentref02_adds), ("assent/digest.adds", laid_assent_digest_adds), ("assent/digest.begin", laid_assent_digest_begin)] }
def DigestInnersSaid : Prop := digestInnersRow.holds Tryd.pinned (OpenSpec.ofChange digestInnersSpec)

/-- ITS FALSE NEIGHBOUR: 'it returns false'. Refute it at one input. -/
def digestInnersWrong : ChangeSpec := { name := "digestInners", fn := fun _ => fun
  | [d1, d2] => { results := [.lit (.bool false)], args := [d1, d2] }
  | _ => none }
def DigestInnersWrongFalsely : Prop := digestInnersRow.holds Tryd.pinned (OpenSpec.ofChange digestInnersWrong)

/-- 'assentlaw02.DigestSums': WHATEVER THE INPUT: true; the input reads as it did. -/
def digestSumsSpec : ChangeSpec := { name := "digestSums", fn := fun _ => fun
  | [d] => { results := [.lit (.bool true)], args := [d] }
  | _ => none }
def digestSumsRow : OpenClaim := { program := "ytldndhekjhlbmaadoor", sum := "8aa91e4c85ba7e95803cc91b6f45c0c53fb9bc1b8f1e1a4f7b2504dee118de34", func := "assent/assentlaw02.DigestSums", spec := "digestSums", named := ["assent/digest.begin", "assent/digest.adds", "assent/assentref02.adds"], apart := false, laid := [("assent/assentref02.adds", laid_assent_assentref02_adds), ("assent/digest.adds", laid_assent_digest_adds), ("assent/digest.begin", laid_assent_digest_begin)] }
def DigestSumsSaid : Prop := digestSumsRow.holds Tryd.pinned (OpenSpec.ofChange digestSumsSpec)

/-- ITS FALSE NEIGHBOUR: 'it returns false'. Refute it at one input. -/
def digestSumsWrong : ChangeSpec := { name := "digestSums", fn := fun _ => fun
  | [d] => { results := [.lit (.bool false)], args := [d] }
  | _ => none }
def DigestSumsWrongFalsely : Prop := digestSumsRow.holds Tryd.pinned (OpenSpec.ofChange digestSumsWrong)

/-- 'assentlaw02.DigestPieces': WHATEVER THE INPUT: true; the input reads as it did. -/
def digestPiecesSpec : ChangeSpec := { name := "digestPieces", fn := fun _ => fun
  | [d] => { results := [.lit (.bool true)], args := [d] }
  | _ => none }
def digestPiecesRow : OpenClaim := { program := "ytldndhekjhlbmaadoor", sum := "8aa91e4c85ba7e95803cc91b6f45c0c53fb9bc1b8f1e1a4f7b2504dee118de34", func := "assent/assentlaw02.DigestPieces", spec := "digestPieces", named := ["assent/digest.begin", "assent/digest.adds", "assent/assentref02.adds"], apart := false, laid := [("assent/assentref02.adds", laid_assent_assentref02_adds), ("assent/digest.adds", laid_assent_digest_adds), ("assent/digest.begin", laid_assent_digest_begin)] }
def DigestPiecesSaid : Prop := digestPiecesRow.holds Tryd.pinned (OpenSpec.ofChange digestPiecesSpec)

/-- ITS FALSE NEIGHBOUR: 'it returns false'. Refute it at one input. -/
def digestPiecesWrong : ChangeSpec := { name := "digestPieces", fn := fun _ => fun
  | [d] => { results := [.lit (.bool false)], args := [d] }
  | _ => none }
def DigestPiecesWrongFalsely : Prop := digestPiecesRow.holds Tryd.pinned (OpenSpec.ofChange digestPiecesWrong)

/-- 'assentlaw02.DigestNone': WHATEVER THE INPUT: true; the input reads as it did. -/
def digestNoneSpec : ChangeSpec := { name := "digestNone", fn := fun _ => fun
  | [d] => { results := [.lit (.bool true)], args := [d] }
  | _ => none }
def digestNoneRow : OpenClaim := { program := "ytldndhekjhlbmaadoor", sum := "8aa91e4c85ba7e95803cc91b6f45c0c53fb9bc1b8f1e1a4f7b2504dee118de34", func := "assent/assentlaw02.DigestNone", spec := "digestNone", named := ["assent/digest.adds", "assent/digest.begin"], apart := false, laid := [("assent/digest.adds", laid_assent_digest_adds), ("assent/digest.begin", laid_assent_digest_begin)] }
def DigestNoneSaid : Prop := digestNoneRow.holds Tryd.pinned (OpenSpec.ofChange digestNoneSpec)

/-- ITS FALSE NEIGHBOUR: 'it returns false'. Refute it at one input. -/
def digestNoneWrong : ChangeSpec := { name := "digestNone", fn := fun _ => fun
  | [d] => { results := [.lit (.bool false)], args := [d] }
  | _ => none }
def DigestNoneWrongFalsely : Prop := digestNoneRow.holds Tryd.pinned (OpenSpec.ofChange digestNoneWrong)

/-- 'assentlaw02.DigestLists': WHATEVER THE INPUT: true; the input reads as it did. -/
def digestListsSpec : ChangeSpec := { name := "digestLists", fn := fun _ => fun
  | [d1, d2] => { results := [.lit (.bool true)], args := [d1, d2] }
  | _ => none }
def digestListsRow : OpenClaim := { program := "ytldndhekjhlbmaadoor", sum := "8aa91e4c85ba7e95803cc91b6f45c0c53fb9bc1b8f1e1a4f7b2504dee118de34", func := "assent/assentlaw02.DigestLists", spec := "digestLists", unfollowed := true, recurses := true, named := ["assent/digest.begin", "assent/digest.adds", "assent/assentref02.adds"], apart := false, laid := [("assent/assentref02.adds", laid_assent_assentref02_adds), ("assent/digest.adds", laid_assent_digest_adds), ("assent/digest.begin", laid_assent_digest_begin)] }
def DigestListsSaid : Prop := digestListsRow.holds Tryd.pinned (OpenSpec.ofChange digestListsSpec)

/-- ITS FALSE NEIGHBOUR: 'it returns false'. Refute it at one input. -/
def digestListsWrong : ChangeSpec := { name := "digestLists", fn := fun _ => fun
  | [d1, d2] => { results := [.lit (.bool false)], args := [d1, d2] }
  | _ => none }
def DigestListsWrongFalsely : Prop := digestListsRow.holds Tryd.pinned (OpenSpec.ofChange digestListsWrong)

/-- 'assentlaw02.DigestPaths': WHATEVER THE INPUT: true; the input reads as it did. -/
def digestPathsSpec : ChangeSpec := { name := "digestPaths", fn := fun _ => fun
  | [d1, d2, d3] => { results := [.lit (.bool true)], args := [d1, d2, d3] }
  | _ => none }
def digestPathsRow : OpenClaim := { program := "ytldndhekjhlbmaadoor", sum := "8aa91e4c85ba7e95803cc91b6f45c0c53fb9bc1b8f1e1a4f7b2504dee118de34", func := "assent/assentlaw02.DigestPaths", spec := "digestPaths", recurses := true, named := ["assent/digest.begin", "assent/digest.adds", "assent/assentref02.adds"], apart := false, laid := [("assent/assentref02.adds", laid_assent_assentref02_adds), ("assent/digest.adds", laid_assent_digest_adds), ("assent/digest.begin", laid_assent_digest_begin)] }
def DigestPathsSaid : Prop := digestPathsRow.holds Tryd.pinned (OpenSpec.ofChange digestPathsSpec)

/-- ITS FALSE NEIGHBOUR: 'it returns false'. Refute it at one input. -/
def digestPathsWrong : ChangeSpec := { name := "digestPaths", fn := fun _ => fun
  | [d1, d2, d3] => { results := [.lit (.bool false)], args := [d1, d2, d3] }
  | _ => none }
def DigestPathsWrongFalsely : Prop := digestPathsRow.holds Tryd.pinned (OpenSpec.ofChange digestPathsWrong)

/-- 'assentlaw02.DigestFresh': WHATEVER THE INPUT: true; the input reads as it did. -/
def digestFreshSpec : ChangeSpec := { name := "digestFresh", fn := fun _ => fun
  | [d1, d2, d3] => { results := [.lit (.bool true)], args := [d1, d2, d3] }
  | _ => none }
def digestFreshRow : OpenClaim := { program := "ytldndhekjhlbmaadoor", sum := "8aa91e4c85ba7e95803cc91b6f45c0c53fb9bc1b8f1e1a4f7b2504dee118de34", func := "assent/assentlaw02.DigestFresh", spec := "digestFresh", unfollowed := true, recurses := true, named := ["assent/digest.begin", "assent/digest.adds", "assent/assentref02.adds"], apart := false, laid := [("assent/assentref02.adds", laid_assent_assentref02_adds), ("assent/digest.adds", laid_assent_digest_adds), ("assent/digest.begin", laid_assent_digest_begin)] }
def DigestFreshSaid : Prop := digestFreshRow.holds Tryd.pinned (OpenSpec.ofChange digestFreshSpec)

/-- ITS FALSE NEIGHBOUR: 'it returns false'. Refute it at one input. -/
def digestFreshWrong : ChangeSpec := { name := "digestFresh", fn := fun _ => fun
  | [d1, d2, d3] => { results := [.lit (.bool false)], args := [d1, d2, d3] }
  | _ => none }
def DigestFreshWrongFalsely : Prop := digestFreshRow.holds Tryd.pinned (OpenSpec.ofChange digestFreshWrong)

/-- 'assentlaw02.DigestBinds': WHATEVER THE INPUT: true; the input reads as it did. -/
def digestBindsSpec : ChangeSpec := { name := "digestBinds", fn := fun _ => fun
  | [d1, d2, d3] => { results := [.lit (.bool true)], args := [d1, d2, d3] }
  | _ => none }
def digestBindsRow : OpenClaim := { program := "ytldndhekjhlbmaadoor", sum := "8aa91e4c85ba7e95803cc91b6f45c0c53fb9bc1b8f1e1a4f7b2504dee118de34", func := "assent/assentlaw02.DigestBinds", spec := "digestBinds", unfollowed := true, recurses := true, named := ["assent/digest.begin", "assent/digest.adds", "assent/assentref02.adds"], apart := false, laid := [("assent/assentref02.adds", laid_assent_assentref02_adds), ("assent/digest.adds", laid_assent_digest_adds), ("assent/digest.begin", laid_assent_digest_begin)] }
def DigestBindsSaid : Prop := digestBindsRow.holds Tryd.pinned (OpenSpec.ofChange digestBindsSpec)

/-- ITS FALSE NEIGHBOUR: 'it returns false'. Refute it at one input. -/
def digestBindsWrong : ChangeSpec := { name := "digestBinds", fn := fun _ => fun
  | [d1, d2, d3] => { results := [.lit (.bool false)], args := [d1, d2, d3] }
  | _ => none }
def DigestBindsWrongFalsely : Prop := digestBindsRow.holds Tryd.pinned (OpenSpec.ofChange digestBindsWrong)

/-- 'assentlaw02.DigestProves': WHATEVER THE INPUT: true; the input reads as it did. -/
def digestProvesSpec : ChangeSpec := { name := "digestProves", fn := fun _ => fun
  | [d1, d2] => { results := [.lit (.bool true)], args := [d1, d2] }
  | _ => none }
def digestProvesRow : OpenClaim := { program := "ytldndhekjhlbmaadoor", sum := "8aa91e4c85ba7e95803cc91b6f45c0c53fb9bc1b8f1e1a4f7b2504dee118de34", func := "assent/assentlaw02.DigestProves", spec := "digestProves", unfollowed := true, recurses := true, named := ["assent/digest.begin", "assent/digest.adds", "assent/assentref02.adds"], apart := false, laid := [("assent/assentref02.adds", laid_assent_assentref02_adds), ("assent/digest.adds", laid_assent_digest_adds), ("assent/digest.begin", laid_assent_digest_begin)] }
def DigestProvesSaid : Prop := digestProvesRow.holds Tryd.pinned (OpenSpec.ofChange digestProvesSpec)

/-- ITS FALSE NEIGHBOUR: 'it returns false'. Refute it at one input. -/
def digestProvesWrong : ChangeSpec := { name := "digestProves", fn := fun _ => fun
  | [d1, d2] => { results := [.lit (.bool false)], args := [d1, d2] }
  | _ => none }
def DigestProvesWrongFalsely : Prop := digestProvesRow.holds Tryd.pinned (OpenSpec.ofChange digestProvesWrong)

/- THE SECOND FORM. 'bulk': how many values and letters a reading holds, each counted each time it is reached (what is shared counts as often as it is met; a slice's spare places count too). A statement '..UptoSaid' is the law's where the arguments, and the package variables that the reading takes, are together of bulk at most 1048576: NARROWER than '..Said'. Prove '..Said' where nothing that the law and all that it calls make is longer than what came in: it says more and counts as full. Else prove '..UptoSaid'. A law counts once. -/
mutual
def uptoBulk {H : Type} : DataW H → Nat
  | .lit (.string bytes) => bytes.length + 1
  | .lit _ => 1
  | .nil => 1
  | .ptr d => uptoBulk d + 1
  | .slice elems spare => uptoBulkAll elems + uptoBulkAll spare + 1
  | .agg parts => uptoBulkAll parts + 1
  | .iface _ d => uptoBulk d + 1
  | .map entries => uptoBulkEntries entries + 1
  | .held _ => 1
def uptoBulkAll {H : Type} : List (DataW H) → Nat
  | [] => 0
  | d :: r => uptoBulk d + uptoBulkAll r
def uptoBulkEntries {H : Type} : List (Lit × DataW H) → Nat
  | [] => 0
  | x :: r => uptoBulkEntry x + uptoBulkEntries r
def uptoBulkEntry {H : Type} : Lit × DataW H → Nat
  | (.string bytes, d) => bytes.length + uptoBulk d + 1
  | (_, d) => uptoBulk d + 1
 end
def uptoSmall : (H : Type) → List (DataW H) → Bool := fun _ ds => decide (uptoBulkAll ds ≤ 1048576)
def OpenSpec.upto (s : _root_.Go.ChangeSpec) : _root_.Go.OpenSpec := { _root_.Go.OpenSpec.ofChange s with cond := some uptoSmall }

/-- 'assentlaw02.DigestInners', WHERE WHAT IT READS IS OF BULK AT MOST 1048576: true; the input reads as it did. -/
def digestInnersUptoRow : OpenClaim := { program := "ytldndhekjhlbmaadoor", sum := "8aa91e4c85ba7e95803cc91b6f45c0c53fb9bc1b8f1e1a4f7b2504dee118de34", func := "assent/assentlaw02.DigestInners", spec := "digestInners", named := ["assent/digest.begin", "assent/digest.adds", "assent/assentref02.adds"], apart := false, laid := [("assent/assentref02.adds", laid_assent_assentref02_adds), ("assent/digest.adds", laid_assent_digest_adds), ("assent/digest.begin", laid_assent_digest_begin)], narrowed := true }
def DigestInnersUptoSaid : Prop := digestInnersUptoRow.holds Tryd.pinned (OpenSpec.upto digestInnersSpec)

/-- 'assentlaw02.DigestSums', WHERE WHAT IT READS IS OF BULK AT MOST 1048576: true; the input reads as it did. -/
def digestSumsUptoRow : OpenClaim := { program := "ytldndhekjhlbmaadoor", sum := "8aa91e4c85ba7e95803cc91b6f45c0c53fb9bc1b8f1e1a4f7b2504dee118de34", func := "assent/assentlaw02.DigestSums", spec := "digestSums", named := ["assent/digest.begin", "assent/digest.adds", "assent/assentref02.adds"], apart := false, laid := [("assent/assentref02.adds", laid_assent_assentref02_adds), ("assent/digest.adds", laid_assent_digest_adds), ("assent/digest.begin", laid_assent_digest_begin)], narrowed := true }
def DigestSumsUptoSaid : Prop := digestSumsUptoRow.holds Tryd.pinned (OpenSpec.upto digestSumsSpec)

/-- 'assentlaw02.DigestPieces', WHERE WHAT IT READS IS OF BULK AT MOST 1048576: true; the input reads as it did. -/
def digestPiecesUptoRow : OpenClaim := { program := "ytldndhekjhlbmaadoor", sum := "8aa91e4c85ba7e95803cc91b6f45c0c53fb9bc1b8f1e1a4f7b2504dee118de34", func := "assent/assentlaw02.DigestPieces", spec := "digestPieces", named := ["assent/digest.begin", "assent/digest.adds", "assent/assentref02.adds"], apart := false, laid := [("assent/assentref02.adds", laid_assent_assentref02_adds), ("assent/digest.adds", laid_assent_digest_adds), ("assent/digest.begin", laid_assent_digest_begin)], narrowed := true }
def DigestPiecesUptoSaid : Prop := digestPiecesUptoRow.holds Tryd.pinned (OpenSpec.upto digestPiecesSpec)

/-- 'assentlaw02.DigestNone', WHERE WHAT IT READS IS OF BULK AT MOST 1048576: true; the input reads as it did. -/
def digestNoneUptoRow : OpenClaim := { program := "ytldndhekjhlbmaadoor", sum := "8aa91e4c85ba7e95803cc91b6f45c0c53fb9bc1b8f1e1a4f7b2504dee118de34", func := "assent/assentlaw02.DigestNone", spec := "digestNone", named := ["assent/digest.adds", "assent/digest.begin"], apart := false, laid := [("assent/digest.adds", laid_assent_digest_adds), ("assent/digest.begin", laid_assent_digest_begin)], narrowed := true }
def DigestNoneUptoSaid : Prop := digestNoneUptoRow.holds Tryd.pinned (OpenSpec.upto digestNoneSpec)

/-- 'assentlaw02.DigestLists', WHERE WHAT IT READS IS OF BULK AT MOST 1048576: true; the input reads as it did. -/
def digestListsUptoRow : OpenClaim := { program := "ytldndhekjhlbmaadoor", sum := "8aa91e4c85ba7e95803cc91b6f45c0c53fb9bc1b8f1e1a4f7b2504dee118de34", func := "assent/assentlaw02.DigestLists", spec := "digestLists", unfollowed := true, recurses := true, named := ["assent/digest.begin", "assent/digest.adds", "assent/assentref02.adds"], apart := false, laid := [("assent/assentref02.adds", laid_assent_assentref02_adds), ("assent/digest.adds", laid_assent_digest_adds), ("assent/digest.begin", laid_assent_digest_begin)], narrowed := true }
def DigestListsUptoSaid : Prop := digestListsUptoRow.holds Tryd.pinned (OpenSpec.upto digestListsSpec)

/-- 'assentlaw02.DigestPaths', WHERE WHAT IT READS IS OF BULK AT MOST 1048576: true; the input reads as it did. -/
def digestPathsUptoRow : OpenClaim := { program := "ytldndhekjhlbmaadoor", sum := "8aa91e4c85ba7e95803cc91b6f45c0c53fb9bc1b8f1e1a4f7b2504dee118de34", func := "assent/assentlaw02.DigestPaths", spec := "digestPaths", recurses := true, named := ["assent/digest.begin", "assent/digest.adds", "assent/assentref02.adds"], apart := false, laid := [("assent/assentref02.adds", laid_assent_assentref02_adds), ("assent/digest.adds", laid_assent_digest_adds), ("assent/digest.begin", laid_assent_digest_begin)], narrowed := true }
def DigestPathsUptoSaid : Prop := digestPathsUptoRow.holds Tryd.pinned (OpenSpec.upto digestPathsSpec)

/-- 'assentlaw02.DigestFresh', WHERE WHAT IT READS IS OF BULK AT MOST 1048576: true; the input reads as it did. -/
def digestFreshUptoRow : OpenClaim := { program := "ytldndhekjhlbmaadoor", sum := "8aa91e4c85ba7e95803cc91b6f45c0c53fb9bc1b8f1e1a4f7b2504dee118de34", func := "assent/assentlaw02.DigestFresh", spec := "digestFresh", unfollowed := true, recurses := true, named := ["assent/digest.begin", "assent/digest.adds", "assent/assentref02.adds"], apart := false, laid := [("assent/assentref02.adds", laid_assent_assentref02_adds), ("assent/digest.adds", laid_assent_digest_adds), ("assent/digest.begin", laid_assent_digest_begin)], narrowed := true }
def DigestFreshUptoSaid : Prop := digestFreshUptoRow.holds Tryd.pinned (OpenSpec.upto digestFreshSpec)

/-- 'assentlaw02.DigestBinds', WHERE WHAT IT READS IS OF BULK AT MOST 1048576: true; the input reads as it did. -/
def digestBindsUptoRow : OpenClaim := { program := "ytldndhekjhlbmaadoor", sum := "8aa91e4c85ba7e95803cc91b6f45c0c53fb9bc1b8f1e1a4f7b2504dee118de34", func := "assent/assentlaw02.DigestBinds", spec := "digestBinds", unfollowed := true, recurses := true, named := ["assent/digest.begin", "assent/digest.adds", "assent/assentref02.adds"], apart := false, laid := [("assent/assentref02.adds", laid_assent_assentref02_adds), ("assent/digest.adds", laid_assent_digest_adds), ("assent/digest.begin", laid_assent_digest_begin)], narrowed := true }
def DigestBindsUptoSaid : Prop := digestBindsUptoRow.holds Tryd.pinned (OpenSpec.upto digestBindsSpec)

/-- 'assentlaw02.DigestProves', WHERE WHAT IT READS IS OF BULK AT MOST 1048576: true; the input reads as it did. -/
def digestProvesUptoRow : OpenClaim := { program := "ytldndhekjhlbmaadoor", sum := "8aa91e4c85ba7e95803cc91b6f45c0c53fb9bc1b8f1e1a4f7b2504dee118de34", func := "assent/assentlaw02.DigestProves", spec := "digestProves", unfollowed := true, recurses := true, named := ["assent/digest.begin", "assent/digest.adds", "assent/assentref02.adds"], apart := false, laid := [("assent/assentref02.adds", laid_assent_assentref02_adds), ("assent/digest.adds", laid_assent_digest_adds), ("assent/digest.begin", laid_assent_digest_begin)], narrowed := true }
def DigestProvesUptoSaid : Prop := digestProvesUptoRow.holds Tryd.pinned (OpenSpec.upto digestProvesSpec)

end Rows
end Go.Proofs.YtldndhekjhlbmaaDoor
