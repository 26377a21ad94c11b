/-
  NARROWER THAN 'FOR EVERY INPUT', by the rows' own cells (each row's printed sentence says how): LedgerBinds: laid · LedgerFresh: laid · LedgerKeeps: laid · LedgerNil: laid · LedgerProves: laid · LedgerTurns: laid.
  DERIVED. THE GIVEN ROWS OF THIS SEAT. 6 by the template 'for every input the law returns true; each argument reads behind the call as it read before'; 0 by the template 'total and deterministic' (their statements: YtfhjhaogmdaepaaGreatDoorTotals.lean).
  GIVEN WITH THE SEED: the statements are not yours to turn. If you find one false, say at which input.
  Laid BY PROGRAM, IN A SANDBOX (cutbox-rows.mjs): the forced cells as the released guide's own fill.sh prints them over the translation ea306347425e05ea… (all of the seat's roots in one cut). By AI agents, Wed Nov 11 2026. No macro, syntax, notation, axiom, sorry.
-/
import Derived.Test.YtfhjhaogmdaepaaGreatDoorChecked
import GoSem.Claim
import GoSem.ClaimJoined
import GoSem.ClaimMapViews
import Derived.JoinedTies
import Derived.KernelRfl
namespace Go.Proofs.YtfhjhaogmdaepaaGreatDoor
/- THE CELL 'sum', in the pinned program and in every row, IS THE sha256 OF THE DUMP (.gsa) THAT YtfhjhaogmdaepaaGreatDoorProg.lean LOADS. Nothing in Lean hashes anything: it is a label: what it is worth is what the hold of that sum in a sandbox is worth. -/
noncomputable def Tryz.pinned : Pinned := { name := "ytfhjhaogmdaepaagreatdoor", sum := "ea306347425e05ea91c9cf2e4280e8af249a4130873e3421c4e76a0d04406952", checked := Tryz.checked }
namespace Rows
def none {H : Type} : Left H := { results := [], args := [] }

/- WHAT THE LISTED PACKAGE-LEVEL VARIABLES READ AS WHEN THE CALL BEGINS. Each datum BY PROGRAM (the guide's laid-datum.mjs) off the statement by which the dump's own 'gosem.cut.vars' lays the variable. In a bare row this is a premise. The card (YtfhjhaogmdaepaaGreatDoorCards.lean) ties it to the program's text. -/
def laid_assent_assentref02_adds {H : Type} : DataW H := .agg [.lit (.int .u32 1116352408), .lit (.int .u32 1899447441), .lit (.int .u32 3049323471), .lit (.int .u32 3921009573), .lit (.int .u32 961987163), .lit (.int .u32 1508970993), .lit (.int .u32 2453635748), .lit (.int .u32 2870763221), .lit (.int .u32 3624381080), .lit (.int .u32 310598401), .lit (.int .u32 607225278), .lit (.int .u32 1426881987), .lit (.int .u32 1925078388), .lit (.int .u32 2162078206), .lit (.int .u32 2614888103), .lit (.int .u32 3248222580), .lit (.int .u32 3835390401), .lit (.int .u32 4022224774), .lit (.int .u32 264347078), .lit (.int .u32 604807628), .lit (.int .u32 770255983), .lit (.int .u32 1249150122), .lit (.int .u32 1555081692), .lit (.int .u32 1996064986), .lit (.int .u32 2554220882), .lit (.int .u32 2821834349), .lit (.int .u32 2952996808), .lit (.int .u32 3210313671), .lit (.int .u32 3336571891), .lit (.int .u32 3584528711), .lit (.int .u32 113926993), .lit (.int .u32 338241895), .lit (.int .u32 666307205), .lit (.int .u32 773529912), .lit (.int .u32 1294757372), .lit (.int .u32 1396182291), .lit (.int .u32 1695183700), .lit (.int .u32 1986661051), .lit (.int .u32 2177026350), .lit (.int .u32 2456956037), .lit (.int .u32 2730485921), .lit (.int .u32 2820302411), .lit (.int .u32 3259730800), .lit (.int .u32 3345764771), .lit (.int .u32 3516065817), .lit (.int .u32 3600352804), .lit (.int .u32 4094571909), .lit (.int .u32 275423344), .lit (.int .u32 430227734), .lit (.int .u32 506948616), .lit (.int .u32 659060556), .lit (.int .u32 883997877), .lit (.int .u32 958139571), .lit (.int .u32 1322822218), .lit (.int .u32 1537002063), .lit (.int .u32 1747873779), .lit (.int .u32 1955562222), .lit (.int .u32 2024104815), .lit (.int .u32 2227730452), .lit (.int .u32 2361852424), .lit (.int .u32 2428436474), .lit (.int .u32 2756734187), .lit (.int .u32 3204031479), .lit (.int .u32 3329325298)]
def laid_assent_digest_adds {H : Type} : DataW H := .agg [.lit (.int .u32 1116352408), .lit (.int .u32 1899447441), .lit (.int .u32 3049323471), .lit (.int .u32 3921009573), .lit (.int .u32 961987163), .lit (.int .u32 1508970993), .lit (.int .u32 2453635748), .lit (.int .u32 2870763221), .lit (.int .u32 3624381080), .lit (.int .u32 310598401), .lit (.int .u32 607225278), .lit (.int .u32 1426881987), .lit (.int .u32 1925078388), .lit (.int .u32 2162078206), .lit (.int .u32 2614888103), .lit (.int .u32 3248222580), .lit (.int .u32 3835390401), .lit (.int .u32 4022224774), .lit (.int .u32 264347078), .lit (.int .u32 604807628), .lit (.int .u32 770255983), .lit (.int .u32 1249150122), .lit (.int .u32 1555081692), .lit (.int .u32 1996064986), .lit (.int .u32 2554220882), .lit (.int .u32 2821834349), .lit (.int .u32 2952996808), .lit (.int .u32 3210313671), .lit (.int .u32 3336571891), .lit (.int .u32 3584528711), .lit (.int .u32 113926993), .lit (.int .u32 338241895), .lit (.int .u32 666307205), .lit (.int .u32 773529912), .lit (.int .u32 1294757372), .lit (.int .u32 1396182291), .lit (.int .u32 1695183700), .lit (.int .u32 1986661051), .lit (.int .u32 2177026350), .lit (.int .u32 2456956037), .lit (.int .u32 2730485921), .lit (.int .u32 2820302411), .lit (.int .u32 3259730800), .lit (.int .u32 3345764771), .lit (.int .u32 3516065817), .lit (.int .u32 3600352804), .lit (.int .u32 4094571909), .lit (.int .u32 275423344), .lit (.int .u32 430227734), .lit (.int .u32 506948616), .lit (.int .u32 659060556), .lit (.int .u32 883997877), .lit (.int .u32 958139571), .lit (.int .u32 1322822218), .lit (.int .u32 1537002063), .lit (.int .u32 1747873779), .lit (.int .u32 1955562222), .lit (.int .u32 2024104815), .lit (.int .u32 2227730452), .lit (.int .u32 2361852424), .lit (.int .u32 2428436474), .lit (.int .u32 2756734187), .lit (.int .u32 3204031479), .lit (.int .u32 3329325298)]
def laid_assent_digest_begin {H : Type} : DataW H := .agg [.lit (.int .u32 1779033703), .lit (.int .u32 3144134277), .lit (.int .u32 1013904242), .lit (.int .u32 2773480762), .lit (.int .u32 1359893119), .lit (.int .u32 2600822924), .lit (.int .u32 528734635), .lit (.int .u32 1541459225)]

/-- 'assentlaw08.LedgerBinds': WHATEVER THE INPUT: true; the input reads as it did. -/
def ledgerBindsSpec : ChangeSpec := { name := "ledgerBinds", fn := fun _ => fun
  | [d1, d2, d3] => { results := [.lit (.bool true)], args := [d1, d2, d3] }
  | _ => none }
def ledgerBindsRow : OpenClaim := { program := "ytfhjhaogmdaepaagreatdoor", sum := "ea306347425e05ea91c9cf2e4280e8af249a4130873e3421c4e76a0d04406952", func := "assent/assentlaw08.LedgerBinds", spec := "ledgerBinds", inPlace := ["math/bits.Add64"], unfollowed := true, recurses := true, named := ["assent/digest.begin", "assent/digest.adds", "assent/assentref02.adds"], plainKeys := false, apart := false, laid := [("assent/assentref02.adds", laid_assent_assentref02_adds), ("assent/digest.adds", laid_assent_digest_adds), ("assent/digest.begin", laid_assent_digest_begin)] }
def LedgerBindsSaid : Prop := ledgerBindsRow.holds Tryz.pinned (OpenSpec.ofChange ledgerBindsSpec)

/-- ITS FALSE NEIGHBOUR: 'it returns false'. Refute it at one input. -/
def ledgerBindsWrong : ChangeSpec := { name := "ledgerBinds", fn := fun _ => fun
  | [d1, d2, d3] => { results := [.lit (.bool false)], args := [d1, d2, d3] }
  | _ => none }
def LedgerBindsWrongFalsely : Prop := ledgerBindsRow.holds Tryz.pinned (OpenSpec.ofChange ledgerBindsWrong)

/-- 'assentlaw08.LedgerFresh': WHATEVER THE INPUT: true; the input reads as it did. -/
def ledgerFreshSpec : ChangeSpec := { name := "ledgerFresh", fn := fun _ => fun
  | [d1, d2, d3, d4] => { results := [.lit (.bool true)], args := [d1, d2, d3, d4] }
  | _ => none }
def ledgerFreshRow : OpenClaim := { program := "ytfhjhaogmdaepaagreatdoor", sum := "ea306347425e05ea91c9cf2e4280e8af249a4130873e3421c4e76a0d04406952", func := "assent/assentlaw08.LedgerFresh", spec := "ledgerFresh", inPlace := ["math/bits.Add64"], unfollowed := true, recurses := true, named := ["math/bits.divideError", "math/bits.overflowError", "assent/digest.begin", "assent/digest.adds", "assent/assentref02.adds"], plainKeys := false, apart := false, laid := [("assent/assentref02.adds", laid_assent_assentref02_adds), ("assent/digest.adds", laid_assent_digest_adds), ("assent/digest.begin", laid_assent_digest_begin)] }
def LedgerFreshSaid : Prop := ledgerFreshRow.holds Tryz.pinned (OpenSpec.ofChange ledgerFreshSpec)

/-- ITS FALSE NEIGHBOUR: 'it returns false'. Refute it at one input. -/
def ledgerFreshWrong : ChangeSpec := { name := "ledgerFresh", fn := fun _ => fun
  | [d1, d2, d3, d4] => { results := [.lit (.bool false)], args := [d1, d2, d3, d4] }
  | _ => none }
def LedgerFreshWrongFalsely : Prop := ledgerFreshRow.holds Tryz.pinned (OpenSpec.ofChange ledgerFreshWrong)

/-- 'assentlaw08.LedgerKeeps': WHATEVER THE INPUT: true; the input reads as it did. -/
def ledgerKeepsSpec : ChangeSpec := { name := "ledgerKeeps", fn := fun _ => fun
  | [d1, d2, d3, d4] => { results := [.lit (.bool true)], args := [d1, d2, d3, d4] }
  | _ => none }
def ledgerKeepsRow : OpenClaim := { program := "ytfhjhaogmdaepaagreatdoor", sum := "ea306347425e05ea91c9cf2e4280e8af249a4130873e3421c4e76a0d04406952", func := "assent/assentlaw08.LedgerKeeps", spec := "ledgerKeeps", inPlace := ["math/bits.Add64", "(*internal/sync.Mutex).Lock", "internal/race.Disable", "sync/atomic.CompareAndSwapInt32", "internal/race.Enable", "internal/race.Acquire", "(*internal/sync.Mutex).lockSlow", "internal/sync.runtime_canSpin", "internal/sync.runtime_doSpin", "internal/sync.throw", "internal/sync.runtime_nanotime", "internal/sync.runtime_SemacquireMutex", "sync/atomic.AddInt32", "(*internal/sync.Mutex).Unlock", "internal/race.ReleaseMerge", "(*internal/sync.Mutex).unlockSlow", "internal/sync.fatal", "internal/sync.runtime_Semrelease", "slices.overlaps[assent/api.Account]", "slices.overlaps[assent/api.Release]"], unfollowed := true, recurses := true, named := ["assent/digest.begin", "assent/digest.adds", "assent/assentref02.adds", "math/bits.divideError", "math/bits.overflowError"], plainKeys := false, apart := false, laid := [("assent/assentref02.adds", laid_assent_assentref02_adds), ("assent/digest.adds", laid_assent_digest_adds), ("assent/digest.begin", laid_assent_digest_begin)] }
def LedgerKeepsSaid : Prop := ledgerKeepsRow.holds Tryz.pinned (OpenSpec.ofChange ledgerKeepsSpec)

/-- ITS FALSE NEIGHBOUR: 'it returns false'. Refute it at one input. -/
def ledgerKeepsWrong : ChangeSpec := { name := "ledgerKeeps", fn := fun _ => fun
  | [d1, d2, d3, d4] => { results := [.lit (.bool false)], args := [d1, d2, d3, d4] }
  | _ => none }
def LedgerKeepsWrongFalsely : Prop := ledgerKeepsRow.holds Tryz.pinned (OpenSpec.ofChange ledgerKeepsWrong)

/-- 'assentlaw08.LedgerNil': WHATEVER THE INPUT: true; the input reads as it did. -/
def ledgerNilSpec : ChangeSpec := { name := "ledgerNil", fn := fun _ => fun
  | [d1, d2, d3, d4, d5] => { results := [.lit (.bool true)], args := [d1, d2, d3, d4, d5] }
  | _ => none }
def ledgerNilRow : OpenClaim := { program := "ytfhjhaogmdaepaagreatdoor", sum := "ea306347425e05ea91c9cf2e4280e8af249a4130873e3421c4e76a0d04406952", func := "assent/assentlaw08.LedgerNil", spec := "ledgerNil", inPlace := ["math/bits.Add64", "(*internal/sync.Mutex).Lock", "internal/race.Disable", "sync/atomic.CompareAndSwapInt32", "internal/race.Enable", "internal/race.Acquire", "(*internal/sync.Mutex).lockSlow", "internal/sync.runtime_canSpin", "internal/sync.runtime_doSpin", "internal/sync.throw", "internal/sync.runtime_nanotime", "internal/sync.runtime_SemacquireMutex", "sync/atomic.AddInt32", "(*internal/sync.Mutex).Unlock", "internal/race.ReleaseMerge", "(*internal/sync.Mutex).unlockSlow", "internal/sync.fatal", "internal/sync.runtime_Semrelease", "slices.overlaps[assent/api.Account]", "slices.overlaps[assent/api.Release]"], unfollowed := true, recurses := true, named := ["assent/digest.begin", "assent/digest.adds"], plainKeys := false, apart := false, laid := [("assent/digest.adds", laid_assent_digest_adds), ("assent/digest.begin", laid_assent_digest_begin)] }
def LedgerNilSaid : Prop := ledgerNilRow.holds Tryz.pinned (OpenSpec.ofChange ledgerNilSpec)

/-- ITS FALSE NEIGHBOUR: 'it returns false'. Refute it at one input. -/
def ledgerNilWrong : ChangeSpec := { name := "ledgerNil", fn := fun _ => fun
  | [d1, d2, d3, d4, d5] => { results := [.lit (.bool false)], args := [d1, d2, d3, d4, d5] }
  | _ => none }
def LedgerNilWrongFalsely : Prop := ledgerNilRow.holds Tryz.pinned (OpenSpec.ofChange ledgerNilWrong)

/-- 'assentlaw08.LedgerProves': WHATEVER THE INPUT: true; the input reads as it did. -/
def ledgerProvesSpec : ChangeSpec := { name := "ledgerProves", fn := fun _ => fun
  | [d1, d2] => { results := [.lit (.bool true)], args := [d1, d2] }
  | _ => none }
def ledgerProvesRow : OpenClaim := { program := "ytfhjhaogmdaepaagreatdoor", sum := "ea306347425e05ea91c9cf2e4280e8af249a4130873e3421c4e76a0d04406952", func := "assent/assentlaw08.LedgerProves", spec := "ledgerProves", inPlace := ["math/bits.Add64"], unfollowed := true, recurses := true, named := ["assent/digest.begin", "assent/digest.adds", "assent/assentref02.adds"], plainKeys := false, apart := false, laid := [("assent/assentref02.adds", laid_assent_assentref02_adds), ("assent/digest.adds", laid_assent_digest_adds), ("assent/digest.begin", laid_assent_digest_begin)] }
def LedgerProvesSaid : Prop := ledgerProvesRow.holds Tryz.pinned (OpenSpec.ofChange ledgerProvesSpec)

/-- ITS FALSE NEIGHBOUR: 'it returns false'. Refute it at one input. -/
def ledgerProvesWrong : ChangeSpec := { name := "ledgerProves", fn := fun _ => fun
  | [d1, d2] => { results := [.lit (.bool false)], args := [d1, d2] }
  | _ => none }
def LedgerProvesWrongFalsely : Prop := ledgerProvesRow.holds Tryz.pinned (OpenSpec.ofChange ledgerProvesWrong)

/-- 'assentlaw08.LedgerTurns': WHATEVER THE INPUT: true; the input reads as it did. -/
def ledgerTurnsSpec : ChangeSpec := { name := "ledgerTurns", fn := fun _ => fun
  | [d1, d2, d3, d4, d5] => { results := [.lit (.bool true)], args := [d1, d2, d3, d4, d5] }
  | _ => none }
def ledgerTurnsRow : OpenClaim := { program := "ytfhjhaogmdaepaagreatdoor", sum := "ea306347425e05ea91c9cf2e4280e8af249a4130873e3421c4e76a0d04406952", func := "assent/assentlaw08.LedgerTurns", spec := "ledgerTurns", inPlace := ["math/bits.Add64", "(*internal/sync.Mutex).Lock", "internal/race.Disable", "sync/atomic.CompareAndSwapInt32", "internal/race.Enable", "internal/race.Acquire", "(*internal/sync.Mutex).lockSlow", "internal/sync.runtime_canSpin", "internal/sync.runtime_doSpin", "internal/sync.throw", "internal/sync.runtime_nanotime", "internal/sync.runtime_SemacquireMutex", "sync/atomic.AddInt32", "(*internal/sync.Mutex).Unlock", "internal/race.ReleaseMerge", "(*internal/sync.Mutex).unlockSlow", "internal/sync.fatal", "internal/sync.runtime_Semrelease", "slices.overlaps[assent/api.Account]", "slices.overlaps[assent/api.Release]"], unfollowed := true, recurses := true, named := ["assent/digest.begin", "assent/digest.adds", "assent/assentref02.adds"], plainKeys := false, apart := false, laid := [("assent/assentref02.adds", laid_assent_assentref02_adds), ("assent/digest.adds", laid_assent_digest_adds), ("assent/digest.begin", laid_assent_digest_begin)] }
def LedgerTurnsSaid : Prop := ledgerTurnsRow.holds Tryz.pinned (OpenSpec.ofChange ledgerTurnsSpec)

/-- ITS FALSE NEIGHBOUR: 'it returns false'. Refute it at one input. -/
def ledgerTurnsWrong : ChangeSpec := { name := "ledgerTurns", fn := fun _ => fun
  | [d1, d2, d3, d4, d5] => { results := [.lit (.bool false)], args := [d1, d2, d3, d4, d5] }
  | _ => none }
def LedgerTurnsWrongFalsely : Prop := ledgerTurnsRow.holds Tryz.pinned (OpenSpec.ofChange ledgerTurnsWrong)

/- THE SECOND FORM. 'bulk': how many values and letters a reading holds, each counted each time it is reached (what is shared counts as often as it is met; a slice's spare places count too). A statement '..UptoSaid' is the law's where the arguments, and the package variables that the reading takes, are together of bulk at most 1048576: NARROWER than '..Said'. Prove '..Said' where nothing that the law and all that it calls make is longer than what came in: it says more and counts as full. Else prove '..UptoSaid'. A law counts once. -/
mutual
def uptoBulk {H : Type} : DataW H → Nat
  | .lit (.string bytes) => bytes.length + 1
  | .lit _ => 1
  | .nil => 1
  | .ptr d => uptoBulk d + 1
  | .slice elems spare => uptoBulkAll elems + uptoBulkAll spare + 1
  | .agg parts => uptoBulkAll parts + 1
  | .iface _ d => uptoBulk d + 1
  | .map entries => uptoBulkEntries entries + 1
  | .held _ => 1
def uptoBulkAll {H : Type} : List (DataW H) → Nat
  | [] => 0
  | d :: r => uptoBulk d + uptoBulkAll r
def uptoBulkEntries {H : Type} : List (Lit × DataW H) → Nat
  | [] => 0
  | x :: r => uptoBulkEntry x + uptoBulkEntries r
def uptoBulkEntry {H : Type} : Lit × DataW H → Nat
  | (.string bytes, d) => bytes.length + uptoBulk d + 1
  | (_, d) => uptoBulk d + 1
 end
def uptoSmall : (H : Type) → List (DataW H) → Bool := fun _ ds => decide (uptoBulkAll ds ≤ 1048576)
def OpenSpec.upto (s : _root_.Go.ChangeSpec) : _root_.Go.OpenSpec := { _root_.Go.OpenSpec.ofChange s with cond := some uptoSmall }

/-- 'assentlaw08.LedgerBinds', WHERE WHAT IT READS IS OF BULK AT MOST 1048576: true; the input reads as it did. -/
def ledgerBindsUptoRow : OpenClaim := { program := "ytfhjhaogmdaepaagreatdoor", sum := "ea306347425e05ea91c9cf2e4280e8af249a4130873e3421c4e76a0d04406952", func := "assent/assentlaw08.LedgerBinds", spec := "ledgerBinds", inPlace := ["math/bits.Add64"], unfollowed := true, recurses := true, named := ["assent/digest.begin", "assent/digest.adds", "assent/assentref02.adds"], plainKeys := false, apart := false, laid := [("assent/assentref02.adds", laid_assent_assentref02_adds), ("assent/digest.adds", laid_assent_digest_adds), ("assent/digest.begin", laid_assent_digest_begin)], narrowed := true }
def LedgerBindsUptoSaid : Prop := ledgerBindsUptoRow.holds Tryz.pinned (OpenSpec.upto ledgerBindsSpec)

/-- 'assentlaw08.LedgerFresh', WHERE WHAT IT READS IS OF BULK AT MOST 1048576: true; the input reads as it did. -/
def ledgerFreshUptoRow : OpenClaim := { program := "ytfhjhaogmdaepaagreatdoor", sum := "ea306347425e05ea91c9cf2e4280e8af249a4130873e3421c4e76a0d04406952", func := "assent/assentlaw08.LedgerFresh", spec := "ledgerFresh", inPlace := ["math/bits.Add64"], unfollowed := true, recurses := true, named := ["math/bits.divideError", "math/bits.overflowError", "assent/digest.begin", "assent/digest.adds", "assent/assentref02.adds"], plainKeys := false, apart := false, laid := [("assent/assentref02.adds", laid_assent_assentref02_adds), ("assent/digest.adds", laid_assent_digest_adds), ("assent/digest.begin", laid_assent_digest_begin)], narrowed := true }
def LedgerFreshUptoSaid : Prop := ledgerFreshUptoRow.holds Tryz.pinned (OpenSpec.upto ledgerFreshSpec)

/-- 'assentlaw08.LedgerKeeps', WHERE WHAT IT READS IS OF BULK AT MOST 1048576: true; the input reads as it did. -/
def ledgerKeepsUptoRow : OpenClaim := { program := "ytfhjhaogmdaepaagreatdoor", sum := "ea306347425e05ea91c9cf2e4280e8af249a4130873e3421c4e76a0d04406952", func := "assent/assentlaw08.LedgerKeeps", spec := "ledgerKeeps", inPlace := ["math/bits.Add64", "(*internal/sync.Mutex).Lock", "internal/race.Disable", "sync/atomic.CompareAndSwapInt32", "internal/race.Enable", "internal/race.Acquire", "(*internal/sync.Mutex).lockSlow", "internal/sync.runtime_canSpin", "internal/sync.runtime_doSpin", "internal/sync.throw", "internal/sync.runtime_nanotime", "internal/sync.runtime_SemacquireMutex", "sync/atomic.AddInt32", "(*internal/sync.Mutex).Unlock", "internal/race.ReleaseMerge", "(*internal/sync.Mutex).unlockSlow", "internal/sync.fatal", "internal/sync.runtime_Semrelease", "slices.overlaps[assent/api.Account]", "slices.overlaps[assent/api.Release]"], unfollowed := true, recurses := true, named := ["assent/digest.begin", "assent/digest.adds", "assent/assentref02.adds", "math/bits.divideError", "math/bits.overflowError"], plainKeys := false, apart := false, laid := [("assent/assentref02.adds", laid_assent_assentref02_adds), ("assent/digest.adds", laid_assent_digest_adds), ("assent/digest.begin", laid_assent_digest_begin)], narrowed := true }
def LedgerKeepsUptoSaid : Prop := ledgerKeepsUptoRow.holds Tryz.pinned (OpenSpec.upto ledgerKeepsSpec)

/-- 'assentlaw08.LedgerNil', WHERE WHAT IT READS IS OF BULK AT MOST 1048576: true; the input reads as it did. -/
def ledgerNilUptoRow : OpenClaim := { program := "ytfhjhaogmdaepaagreatdoor", sum := "ea306347425e05ea91c9cf2e4280e8af249a4130873e3421c4e76a0d04406952", func := "assent/assentlaw08.LedgerNil", spec := "ledgerNil", inPlace := ["math/bits.Add64", "(*internal/sync.Mutex).Lock", "internal/race.Disable", "sync/atomic.CompareAndSwapInt32", "internal/race.Enable", "internal/race.Acquire", "(*internal/sync.Mutex).lockSlow", "internal/sync.runtime_canSpin", "internal/sync.runtime_doSpin", "internal/sync.throw", "internal/sync.runtime_nanotime", "internal/sync.runtime_SemacquireMutex", "sync/atomic.AddInt32", "(*internal/sync.Mutex).Unlock", "internal/race.ReleaseMerge", "(*internal/sync.Mutex).unlockSlow", "internal/sync.fatal", "internal/sync.runtime_Semrelease", "slices.overlaps[assent/api.Account]", "slices.overlaps[assent/api.Release]"], unfollowed := true, recurses := true, named := ["assent/digest.begin", "assent/digest.adds"], plainKeys := false, apart := false, laid := [("assent/digest.adds", laid_assent_digest_adds), ("assent/digest.begin", laid_assent_digest_begin)], narrowed := true }
def LedgerNilUptoSaid : Prop := ledgerNilUptoRow.holds Tryz.pinned (OpenSpec.upto ledgerNilSpec)

/-- 'assentlaw08.LedgerProves', WHERE WHAT IT READS IS OF BULK AT MOST 1048576: true; the input reads as it did. -/
def ledgerProvesUptoRow : OpenClaim := { program := "ytfhjhaogmdaepaagreatdoor", sum := "ea306347425e05ea91c9cf2e4280e8af249a4130873e3421c4e76a0d04406952", func := "assent/assentlaw08.LedgerProves", spec := "ledgerProves", inPlace := ["math/bits.Add64"], unfollowed := true, recurses := true, named := ["assent/digest.begin", "assent/digest.adds", "assent/assentref02.adds"], plainKeys := false, apart := false, laid := [("assent/assentref02.adds", laid_assent_assentref02_adds), ("assent/digest.adds", laid_assent_digest_adds), ("assent/digest.begin", laid_assent_digest_begin)], narrowed := true }
def LedgerProvesUptoSaid : Prop := ledgerProvesUptoRow.holds Tryz.pinned (OpenSpec.upto ledgerProvesSpec)

/-- 'assentlaw08.LedgerTurns', WHERE WHAT IT READS IS OF BULK AT MOST 1048576: true; the input reads as it did. -/
def ledgerTurnsUptoRow : OpenClaim := { program := "ytfhjhaogmdaepaagreatdoor", sum := "ea306347425e05ea91c9cf2e4280e8af249a4130873e3421c4e76a0d04406952", func := "assent/assentlaw08.LedgerTurns", spec := "ledgerTurns", inPlace := ["math/bits.Add64", "(*internal/sync.Mutex).Lock", "internal/race.Disable", "sync/atomic.CompareAndSwapInt32", "internal/race.Enable", "internal/race.Acquire", "(*internal/sync.Mutex).lockSlow", "internal/sync.runtime_canSpin", "internal/sync.runtime_doSpin", "internal/sync.throw", "internal/sync.runtime_nanotime", "internal/sync.runtime_SemacquireMutex", "sync/atomic.AddInt32", "(*internal/sync.Mutex).Unlock", "internal/race.ReleaseMerge", "(*internal/sync.Mutex).unlockSlow", "internal/sync.fatal", "internal/sync.runtime_Semrelease", "slices.overlaps[assent/api.Account]", "slices.overlaps[assent/api.Release]"], unfollowed := true, recurses := true, named := ["assent/digest.begin", "assent/digest.adds", "assent/assentref02.adds"], plainKeys := false, apart := false, laid := [("assent/assentref02.adds", laid_assent_assentref02_adds), ("assent/digest.adds", laid_assent_digest_adds), ("assent/digest.begin", laid_assent_digest_begin)], narrowed := true }
def LedgerTurnsUptoSaid : Prop := ledgerTurnsUptoRow.holds Tryz.pinned (OpenSpec.upto ledgerTurnsSpec)

end Rows
end Go.Proofs.YtfhjhaogmdaepaaGreatDoor
