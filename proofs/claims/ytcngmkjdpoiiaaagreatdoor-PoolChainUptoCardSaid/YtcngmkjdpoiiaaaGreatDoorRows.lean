/-
  NARROWER THAN 'FOR EVERY INPUT', by the rows' own cells (each row's printed sentence says how): LedgerFresh: laid · PoolNil: laid · PoolTurns: laid · PoolAdds: laid · PoolPicks: laid · PoolTells: laid · PoolAll: laid · PoolTwo: laid · PoolOwn: laid · PoolKeeps: laid · LedgerKeeps: laid · PoolGoes: laid · PoolChain: laid.
  DERIVED. THE GIVEN ROWS OF THIS SEAT. 13 by the template 'for every input the law returns true; each argument reads behind the call as it read before'; 0 by the template 'total and deterministic' (their statements: YtcngmkjdpoiiaaaGreatDoorTotals.lean).
  GIVEN WITH THE SEED: the statements are not yours to turn. If you find one false, say at which input.
  Laid BY PROGRAM, IN A SANDBOX (cutbox-rows.mjs): the forced cells as the released guide's own fill.sh prints them over the translation 2f679039d8d266dd… (all of the seat's roots in one cut). By AI agents, Wed Nov 11 2026. No macro, syntax, notation, axiom, sorry.
-/
import Derived.Test.YtcngmkjdpoiiaaaGreatDoorChecked
import GoSem.Claim
import GoSem.ClaimJoined
import GoSem.ClaimMapViews
import Derived.JoinedTies
import Derived.KernelRfl
namespace Go.Proofs.YtcngmkjdpoiiaaaGreatDoor
/- THE CELL 'sum', in the pinned program and in every row, IS THE sha256 OF THE DUMP (.gsa) THAT YtcngmkjdpoiiaaaGreatDoorProg.lean LOADS. Nothing in Lean hashes anything: it is a label: what it is worth is what the hold of that sum in a sandbox is worth. -/
noncomputable def Tryz.pinned : Pinned := { name := "ytcngmkjdpoiiaaagreatdoor", sum := "2f679039d8d266dd8eba6547349025806cf246b8a5da6483d919a3b8d52ccbd3", checked := Tryz.checked }
namespace Rows
def none {H : Type} : Left H := { results := [], args := [] }

/- WHAT THE LISTED PACKAGE-LEVEL VARIABLES READ AS WHEN THE CALL BEGINS. Each datum BY PROGRAM (the guide's laid-datum.mjs) off the statement by which the dump's own 'gosem.cut.vars' lays the variable. In a bare row this is a premise. The card (YtcngmkjdpoiiaaaGreatDoorCards.lean) ties it to the program's text. -/
def laid_assent_assentref02_adds {H : Type} : DataW H := .agg [.lit (.int .u32 1116352408), .lit (.int .u32 1899447441), .lit (.int .u32 3049323471), .lit (.int .u32 3921009573), .lit (.int .u32 961987163), .lit (.int .u32 1508970993), .lit (.int .u32 2453635748), .lit (.int .u32 2870763221), .lit (.int .u32 3624381080), .lit (.int .u32 310598401), .lit (.int .u32 607225278), .lit (.int .u32 1426881987), .lit (.int .u32 1925078388), .lit (.int .u32 2162078206), .lit (.int .u32 2614888103), .lit (.int .u32 3248222580), .lit (.int .u32 3835390401), .lit (.int .u32 4022224774), .lit (.int .u32 264347078), .lit (.int .u32 604807628), .lit (.int .u32 770255983), .lit (.int .u32 1249150122), .lit (.int .u32 1555081692), .lit (.int .u32 1996064986), .lit (.int .u32 2554220882), .lit (.int .u32 2821834349), .lit (.int .u32 2952996808), .lit (.int .u32 3210313671), .lit (.int .u32 3336571891), .lit (.int .u32 3584528711), .lit (.int .u32 113926993), .lit (.int .u32 338241895), .lit (.int .u32 666307205), .lit (.int .u32 773529912), .lit (.int .u32 1294757372), .lit (.int .u32 1396182291), .lit (.int .u32 1695183700), .lit (.int .u32 1986661051), .lit (.int .u32 2177026350), .lit (.int .u32 2456956037), .lit (.int .u32 2730485921), .lit (.int .u32 2820302411), .lit (.int .u32 3259730800), .lit (.int .u32 3345764771), .lit (.int .u32 3516065817), .lit (.int .u32 3600352804), .lit (.int .u32 4094571909), .lit (.int .u32 275423344), .lit (.int .u32 430227734), .lit (.int .u32 506948616), .lit (.int .u32 659060556), .lit (.int .u32 883997877), .lit (.int .u32 958139571), .lit (.int .u32 1322822218), .lit (.int .u32 1537002063), .lit (.int .u32 1747873779), .lit (.int .u32 1955562222), .lit (.int .u32 2024104815), .lit (.int .u32 2227730452), .lit (.int .u32 2361852424), .lit (.int .u32 2428436474), .lit (.int .u32 2756734187), .lit (.int .u32 3204031479), .lit (.int .u32 3329325298)]
def laid_assent_digest_adds {H : Type} : DataW H := .agg [.lit (.int .u32 1116352408), .lit (.int .u32 1899447441), .lit (.int .u32 3049323471), .lit (.int .u32 3921009573), .lit (.int .u32 961987163), .lit (.int .u32 1508970993), .lit (.int .u32 2453635748), .lit (.int .u32 2870763221), .lit (.int .u32 3624381080), .lit (.int .u32 310598401), .lit (.int .u32 607225278), .lit (.int .u32 1426881987), .lit (.int .u32 1925078388), .lit (.int .u32 2162078206), .lit (.int .u32 2614888103), .lit (.int .u32 3248222580), .lit (.int .u32 3835390401), .lit (.int .u32 4022224774), .lit (.int .u32 264347078), .lit (.int .u32 604807628), .lit (.int .u32 770255983), .lit (.int .u32 1249150122), .lit (.int .u32 1555081692), .lit (.int .u32 1996064986), .lit (.int .u32 2554220882), .lit (.int .u32 2821834349), .lit (.int .u32 2952996808), .lit (.int .u32 3210313671), .lit (.int .u32 3336571891), .lit (.int .u32 3584528711), .lit (.int .u32 113926993), .lit (.int .u32 338241895), .lit (.int .u32 666307205), .lit (.int .u32 773529912), .lit (.int .u32 1294757372), .lit (.int .u32 1396182291), .lit (.int .u32 1695183700), .lit (.int .u32 1986661051), .lit (.int .u32 2177026350), .lit (.int .u32 2456956037), .lit (.int .u32 2730485921), .lit (.int .u32 2820302411), .lit (.int .u32 3259730800), .lit (.int .u32 3345764771), .lit (.int .u32 3516065817), .lit (.int .u32 3600352804), .lit (.int .u32 4094571909), .lit (.int .u32 275423344), .lit (.int .u32 430227734), .lit (.int .u32 506948616), .lit (.int .u32 659060556), .lit (.int .u32 883997877), .lit (.int .u32 958139571), .lit (.int .u32 1322822218), .lit (.int .u32 1537002063), .lit (.int .u32 1747873779), .lit (.int .u32 1955562222), .lit (.int .u32 2024104815), .lit (.int .u32 2227730452), .lit (.int .u32 2361852424), .lit (.int .u32 2428436474), .lit (.int .u32 2756734187), .lit (.int .u32 3204031479), .lit (.int .u32 3329325298)]
def laid_assent_digest_begin {H : Type} : DataW H := .agg [.lit (.int .u32 1779033703), .lit (.int .u32 3144134277), .lit (.int .u32 1013904242), .lit (.int .u32 2773480762), .lit (.int .u32 1359893119), .lit (.int .u32 2600822924), .lit (.int .u32 528734635), .lit (.int .u32 1541459225)]

/-- 'assentlaw08.LedgerFresh': WHATEVER THE INPUT: true; the input reads as it did. -/
def ledgerFreshSpec : ChangeSpec := { name := "ledgerFresh", fn := fun _ => fun
  | [d1, d2, d3, d4] => { results := [.lit (.bool true)], args := [d1, d2, d3, d4] }
  | _ => none }
def ledgerFreshRow : OpenClaim := { program := "ytcngmkjdpoiiaaagreatdoor", sum := "2f679039d8d266dd8eba6547349025806cf246b8a5da6483d919a3b8d52ccbd3", func := "assent/assentlaw08.LedgerFresh", spec := "ledgerFresh", inPlace := ["math/bits.Add64"], unfollowed := true, recurses := true, named := ["math/bits.divideError", "math/bits.overflowError", "assent/digest.begin", "assent/digest.adds", "assent/assentref02.adds"], plainKeys := false, apart := false, laid := [("assent/assentref02.adds", laid_assent_assentref02_adds), ("assent/digest.adds", laid_assent_digest_adds), ("assent/digest.begin", laid_assent_digest_begin)] }
def LedgerFreshSaid : Prop := ledgerFreshRow.holds Tryz.pinned (OpenSpec.ofChange ledgerFreshSpec)

/-- ITS FALSE NEIGHBOUR: 'it returns false'. Refute it at one input. -/
def ledgerFreshWrong : ChangeSpec := { name := "ledgerFresh", fn := fun _ => fun
  | [d1, d2, d3, d4] => { results := [.lit (.bool false)], args := [d1, d2, d3, d4] }
  | _ => none }
def LedgerFreshWrongFalsely : Prop := ledgerFreshRow.holds Tryz.pinned (OpenSpec.ofChange ledgerFreshWrong)

/-- 'assentlaw09.PoolNil': WHATEVER THE INPUT: true; the input reads as it did. -/
def poolNilSpec : ChangeSpec := { name := "poolNil", fn := fun _ => fun
  | [d1, d2, d3] => { results := [.lit (.bool true)], args := [d1, d2, d3] }
  | _ => none }
def poolNilRow : OpenClaim := { program := "ytcngmkjdpoiiaaagreatdoor", sum := "2f679039d8d266dd8eba6547349025806cf246b8a5da6483d919a3b8d52ccbd3", func := "assent/assentlaw09.PoolNil", spec := "poolNil", inPlace := ["(*internal/sync.Mutex).Lock", "internal/race.Disable", "sync/atomic.CompareAndSwapInt32", "internal/race.Enable", "internal/race.Acquire", "(*internal/sync.Mutex).lockSlow", "internal/sync.runtime_canSpin", "internal/sync.runtime_doSpin", "internal/sync.throw", "internal/sync.runtime_nanotime", "internal/sync.runtime_SemacquireMutex", "sync/atomic.AddInt32", "(*internal/sync.Mutex).Unlock", "internal/race.ReleaseMerge", "(*internal/sync.Mutex).unlockSlow", "internal/sync.fatal", "internal/sync.runtime_Semrelease", "slices.overlaps[assent/api.Account]", "slices.overlaps[assent/api.Release]"], unfollowed := true, recurses := true, named := ["assent/digest.begin", "assent/digest.adds"], plainKeys := false, apart := false, laid := [("assent/digest.adds", laid_assent_digest_adds), ("assent/digest.begin", laid_assent_digest_begin)] }
def PoolNilSaid : Prop := poolNilRow.holds Tryz.pinned (OpenSpec.ofChange poolNilSpec)

/-- ITS FALSE NEIGHBOUR: 'it returns false'. Refute it at one input. -/
def poolNilWrong : ChangeSpec := { name := "poolNil", fn := fun _ => fun
  | [d1, d2, d3] => { results := [.lit (.bool false)], args := [d1, d2, d3] }
  | _ => none }
def PoolNilWrongFalsely : Prop := poolNilRow.holds Tryz.pinned (OpenSpec.ofChange poolNilWrong)

/-- 'assentlaw09.PoolTurns': WHATEVER THE INPUT: true; the input reads as it did. -/
def poolTurnsSpec : ChangeSpec := { name := "poolTurns", fn := fun _ => fun
  | [d] => { results := [.lit (.bool true)], args := [d] }
  | _ => none }
def poolTurnsRow : OpenClaim := { program := "ytcngmkjdpoiiaaagreatdoor", sum := "2f679039d8d266dd8eba6547349025806cf246b8a5da6483d919a3b8d52ccbd3", func := "assent/assentlaw09.PoolTurns", spec := "poolTurns", inPlace := ["(*internal/sync.Mutex).Lock", "internal/race.Disable", "sync/atomic.CompareAndSwapInt32", "internal/race.Enable", "internal/race.Acquire", "(*internal/sync.Mutex).lockSlow", "internal/sync.runtime_canSpin", "internal/sync.runtime_doSpin", "internal/sync.throw", "internal/sync.runtime_nanotime", "internal/sync.runtime_SemacquireMutex", "sync/atomic.AddInt32", "(*internal/sync.Mutex).Unlock", "internal/race.ReleaseMerge", "(*internal/sync.Mutex).unlockSlow", "internal/sync.fatal", "internal/sync.runtime_Semrelease", "slices.overlaps[assent/api.Account]", "slices.overlaps[assent/api.Release]"], unfollowed := true, recurses := true, named := ["assent/digest.begin", "assent/digest.adds", "assent/assentref02.adds"], plainKeys := false, apart := false, laid := [("assent/assentref02.adds", laid_assent_assentref02_adds), ("assent/digest.adds", laid_assent_digest_adds), ("assent/digest.begin", laid_assent_digest_begin)] }
def PoolTurnsSaid : Prop := poolTurnsRow.holds Tryz.pinned (OpenSpec.ofChange poolTurnsSpec)

/-- ITS FALSE NEIGHBOUR: 'it returns false'. Refute it at one input. -/
def poolTurnsWrong : ChangeSpec := { name := "poolTurns", fn := fun _ => fun
  | [d] => { results := [.lit (.bool false)], args := [d] }
  | _ => none }
def PoolTurnsWrongFalsely : Prop := poolTurnsRow.holds Tryz.pinned (OpenSpec.ofChange poolTurnsWrong)

/-- 'assentlaw09.PoolAdds': WHATEVER THE INPUT: true; the input reads as it did. -/
def poolAddsSpec : ChangeSpec := { name := "poolAdds", fn := fun _ => fun
  | [d] => { results := [.lit (.bool true)], args := [d] }
  | _ => none }
def poolAddsRow : OpenClaim := { program := "ytcngmkjdpoiiaaagreatdoor", sum := "2f679039d8d266dd8eba6547349025806cf246b8a5da6483d919a3b8d52ccbd3", func := "assent/assentlaw09.PoolAdds", spec := "poolAdds", inPlace := ["(*internal/sync.Mutex).Lock", "internal/race.Disable", "sync/atomic.CompareAndSwapInt32", "internal/race.Enable", "internal/race.Acquire", "(*internal/sync.Mutex).lockSlow", "internal/sync.runtime_canSpin", "internal/sync.runtime_doSpin", "internal/sync.throw", "internal/sync.runtime_nanotime", "internal/sync.runtime_SemacquireMutex", "sync/atomic.AddInt32", "(*internal/sync.Mutex).Unlock", "internal/race.ReleaseMerge", "(*internal/sync.Mutex).unlockSlow", "internal/sync.fatal", "internal/sync.runtime_Semrelease", "slices.overlaps[assent/api.Account]", "slices.overlaps[assent/api.Release]"], unfollowed := true, recurses := true, named := ["assent/digest.begin", "assent/digest.adds", "assent/assentref02.adds"], plainKeys := false, apart := false, laid := [("assent/assentref02.adds", laid_assent_assentref02_adds), ("assent/digest.adds", laid_assent_digest_adds), ("assent/digest.begin", laid_assent_digest_begin)] }
def PoolAddsSaid : Prop := poolAddsRow.holds Tryz.pinned (OpenSpec.ofChange poolAddsSpec)

/-- ITS FALSE NEIGHBOUR: 'it returns false'. Refute it at one input. -/
def poolAddsWrong : ChangeSpec := { name := "poolAdds", fn := fun _ => fun
  | [d] => { results := [.lit (.bool false)], args := [d] }
  | _ => none }
def PoolAddsWrongFalsely : Prop := poolAddsRow.holds Tryz.pinned (OpenSpec.ofChange poolAddsWrong)

/-- 'assentlaw09.PoolPicks': WHATEVER THE INPUT: true; the input reads as it did. -/
def poolPicksSpec : ChangeSpec := { name := "poolPicks", fn := fun _ => fun
  | [d] => { results := [.lit (.bool true)], args := [d] }
  | _ => none }
def poolPicksRow : OpenClaim := { program := "ytcngmkjdpoiiaaagreatdoor", sum := "2f679039d8d266dd8eba6547349025806cf246b8a5da6483d919a3b8d52ccbd3", func := "assent/assentlaw09.PoolPicks", spec := "poolPicks", inPlace := ["(*internal/sync.Mutex).Lock", "internal/race.Disable", "sync/atomic.CompareAndSwapInt32", "internal/race.Enable", "internal/race.Acquire", "(*internal/sync.Mutex).lockSlow", "internal/sync.runtime_canSpin", "internal/sync.runtime_doSpin", "internal/sync.throw", "internal/sync.runtime_nanotime", "internal/sync.runtime_SemacquireMutex", "sync/atomic.AddInt32", "(*internal/sync.Mutex).Unlock", "internal/race.ReleaseMerge", "(*internal/sync.Mutex).unlockSlow", "internal/sync.fatal", "internal/sync.runtime_Semrelease", "slices.overlaps[assent/api.Account]", "slices.overlaps[assent/api.Release]"], unfollowed := true, recurses := true, named := ["assent/digest.begin", "assent/digest.adds", "assent/assentref02.adds"], plainKeys := false, apart := false, laid := [("assent/assentref02.adds", laid_assent_assentref02_adds), ("assent/digest.adds", laid_assent_digest_adds), ("assent/digest.begin", laid_assent_digest_begin)] }
def PoolPicksSaid : Prop := poolPicksRow.holds Tryz.pinned (OpenSpec.ofChange poolPicksSpec)

/-- ITS FALSE NEIGHBOUR: 'it returns false'. Refute it at one input. -/
def poolPicksWrong : ChangeSpec := { name := "poolPicks", fn := fun _ => fun
  | [d] => { results := [.lit (.bool false)], args := [d] }
  | _ => none }
def PoolPicksWrongFalsely : Prop := poolPicksRow.holds Tryz.pinned (OpenSpec.ofChange poolPicksWrong)

/-- 'assentlaw09.PoolTells': WHATEVER THE INPUT: true; the input reads as it did. -/
def poolTellsSpec : ChangeSpec := { name := "poolTells", fn := fun _ => fun
  | [d] => { results := [.lit (.bool true)], args := [d] }
  | _ => none }
def poolTellsRow : OpenClaim := { program := "ytcngmkjdpoiiaaagreatdoor", sum := "2f679039d8d266dd8eba6547349025806cf246b8a5da6483d919a3b8d52ccbd3", func := "assent/assentlaw09.PoolTells", spec := "poolTells", inPlace := ["(*internal/sync.Mutex).Lock", "internal/race.Disable", "sync/atomic.CompareAndSwapInt32", "internal/race.Enable", "internal/race.Acquire", "(*internal/sync.Mutex).lockSlow", "internal/sync.runtime_canSpin", "internal/sync.runtime_doSpin", "internal/sync.throw", "internal/sync.runtime_nanotime", "internal/sync.runtime_SemacquireMutex", "sync/atomic.AddInt32", "(*internal/sync.Mutex).Unlock", "internal/race.ReleaseMerge", "(*internal/sync.Mutex).unlockSlow", "internal/sync.fatal", "internal/sync.runtime_Semrelease", "slices.overlaps[assent/api.Account]", "slices.overlaps[assent/api.Release]"], unfollowed := true, recurses := true, named := ["assent/digest.begin", "assent/digest.adds", "assent/assentref02.adds"], plainKeys := false, apart := false, laid := [("assent/assentref02.adds", laid_assent_assentref02_adds), ("assent/digest.adds", laid_assent_digest_adds), ("assent/digest.begin", laid_assent_digest_begin)] }
def PoolTellsSaid : Prop := poolTellsRow.holds Tryz.pinned (OpenSpec.ofChange poolTellsSpec)

/-- ITS FALSE NEIGHBOUR: 'it returns false'. Refute it at one input. -/
def poolTellsWrong : ChangeSpec := { name := "poolTells", fn := fun _ => fun
  | [d] => { results := [.lit (.bool false)], args := [d] }
  | _ => none }
def PoolTellsWrongFalsely : Prop := poolTellsRow.holds Tryz.pinned (OpenSpec.ofChange poolTellsWrong)

/-- 'assentlaw09.PoolAll': WHATEVER THE INPUT: true; the input reads as it did. -/
def poolAllSpec : ChangeSpec := { name := "poolAll", fn := fun _ => fun
  | [d] => { results := [.lit (.bool true)], args := [d] }
  | _ => none }
def poolAllRow : OpenClaim := { program := "ytcngmkjdpoiiaaagreatdoor", sum := "2f679039d8d266dd8eba6547349025806cf246b8a5da6483d919a3b8d52ccbd3", func := "assent/assentlaw09.PoolAll", spec := "poolAll", inPlace := ["(*internal/sync.Mutex).Lock", "internal/race.Disable", "sync/atomic.CompareAndSwapInt32", "internal/race.Enable", "internal/race.Acquire", "(*internal/sync.Mutex).lockSlow", "internal/sync.runtime_canSpin", "internal/sync.runtime_doSpin", "internal/sync.throw", "internal/sync.runtime_nanotime", "internal/sync.runtime_SemacquireMutex", "sync/atomic.AddInt32", "(*internal/sync.Mutex).Unlock", "internal/race.ReleaseMerge", "(*internal/sync.Mutex).unlockSlow", "internal/sync.fatal", "internal/sync.runtime_Semrelease", "slices.overlaps[assent/api.Account]", "slices.overlaps[assent/api.Release]"], unfollowed := true, recurses := true, named := ["assent/digest.begin", "assent/digest.adds", "assent/assentref02.adds"], plainKeys := false, apart := false, laid := [("assent/assentref02.adds", laid_assent_assentref02_adds), ("assent/digest.adds", laid_assent_digest_adds), ("assent/digest.begin", laid_assent_digest_begin)] }
def PoolAllSaid : Prop := poolAllRow.holds Tryz.pinned (OpenSpec.ofChange poolAllSpec)

/-- ITS FALSE NEIGHBOUR: 'it returns false'. Refute it at one input. -/
def poolAllWrong : ChangeSpec := { name := "poolAll", fn := fun _ => fun
  | [d] => { results := [.lit (.bool false)], args := [d] }
  | _ => none }
def PoolAllWrongFalsely : Prop := poolAllRow.holds Tryz.pinned (OpenSpec.ofChange poolAllWrong)

/-- 'assentlaw09.PoolTwo': WHATEVER THE INPUT: true; the input reads as it did. -/
def poolTwoSpec : ChangeSpec := { name := "poolTwo", fn := fun _ => fun
  | [d1, d2, d3] => { results := [.lit (.bool true)], args := [d1, d2, d3] }
  | _ => none }
def poolTwoRow : OpenClaim := { program := "ytcngmkjdpoiiaaagreatdoor", sum := "2f679039d8d266dd8eba6547349025806cf246b8a5da6483d919a3b8d52ccbd3", func := "assent/assentlaw09.PoolTwo", spec := "poolTwo", inPlace := ["(*internal/sync.Mutex).Lock", "internal/race.Disable", "sync/atomic.CompareAndSwapInt32", "internal/race.Enable", "internal/race.Acquire", "(*internal/sync.Mutex).lockSlow", "internal/sync.runtime_canSpin", "internal/sync.runtime_doSpin", "internal/sync.throw", "internal/sync.runtime_nanotime", "internal/sync.runtime_SemacquireMutex", "sync/atomic.AddInt32", "(*internal/sync.Mutex).Unlock", "internal/race.ReleaseMerge", "(*internal/sync.Mutex).unlockSlow", "internal/sync.fatal", "internal/sync.runtime_Semrelease", "slices.overlaps[assent/api.Account]", "slices.overlaps[assent/api.Release]"], unfollowed := true, recurses := true, named := ["assent/digest.begin", "assent/digest.adds", "assent/assentref02.adds"], plainKeys := false, apart := false, laid := [("assent/assentref02.adds", laid_assent_assentref02_adds), ("assent/digest.adds", laid_assent_digest_adds), ("assent/digest.begin", laid_assent_digest_begin)] }
def PoolTwoSaid : Prop := poolTwoRow.holds Tryz.pinned (OpenSpec.ofChange poolTwoSpec)

/-- ITS FALSE NEIGHBOUR: 'it returns false'. Refute it at one input. -/
def poolTwoWrong : ChangeSpec := { name := "poolTwo", fn := fun _ => fun
  | [d1, d2, d3] => { results := [.lit (.bool false)], args := [d1, d2, d3] }
  | _ => none }
def PoolTwoWrongFalsely : Prop := poolTwoRow.holds Tryz.pinned (OpenSpec.ofChange poolTwoWrong)

/-- 'assentlaw09.PoolOwn': WHATEVER THE INPUT: true; the input reads as it did. -/
def poolOwnSpec : ChangeSpec := { name := "poolOwn", fn := fun _ => fun
  | [d] => { results := [.lit (.bool true)], args := [d] }
  | _ => none }
def poolOwnRow : OpenClaim := { program := "ytcngmkjdpoiiaaagreatdoor", sum := "2f679039d8d266dd8eba6547349025806cf246b8a5da6483d919a3b8d52ccbd3", func := "assent/assentlaw09.PoolOwn", spec := "poolOwn", inPlace := ["(*internal/sync.Mutex).Lock", "internal/race.Disable", "sync/atomic.CompareAndSwapInt32", "internal/race.Enable", "internal/race.Acquire", "(*internal/sync.Mutex).lockSlow", "internal/sync.runtime_canSpin", "internal/sync.runtime_doSpin", "internal/sync.throw", "internal/sync.runtime_nanotime", "internal/sync.runtime_SemacquireMutex", "sync/atomic.AddInt32", "(*internal/sync.Mutex).Unlock", "internal/race.ReleaseMerge", "(*internal/sync.Mutex).unlockSlow", "internal/sync.fatal", "internal/sync.runtime_Semrelease", "slices.overlaps[assent/api.Account]", "slices.overlaps[assent/api.Release]"], unfollowed := true, recurses := true, named := ["assent/digest.begin", "assent/digest.adds", "assent/assentref02.adds"], plainKeys := false, apart := false, laid := [("assent/assentref02.adds", laid_assent_assentref02_adds), ("assent/digest.adds", laid_assent_digest_adds), ("assent/digest.begin", laid_assent_digest_begin)] }
def PoolOwnSaid : Prop := poolOwnRow.holds Tryz.pinned (OpenSpec.ofChange poolOwnSpec)

/-- ITS FALSE NEIGHBOUR: 'it returns false'. Refute it at one input. -/
def poolOwnWrong : ChangeSpec := { name := "poolOwn", fn := fun _ => fun
  | [d] => { results := [.lit (.bool false)], args := [d] }
  | _ => none }
def PoolOwnWrongFalsely : Prop := poolOwnRow.holds Tryz.pinned (OpenSpec.ofChange poolOwnWrong)

/-- 'assentlaw09.PoolKeeps': WHATEVER THE INPUT: true; the input reads as it did. -/
def poolKeepsSpec : ChangeSpec := { name := "poolKeeps", fn := fun _ => fun
  | [d] => { results := [.lit (.bool true)], args := [d] }
  | _ => none }
def poolKeepsRow : OpenClaim := { program := "ytcngmkjdpoiiaaagreatdoor", sum := "2f679039d8d266dd8eba6547349025806cf246b8a5da6483d919a3b8d52ccbd3", func := "assent/assentlaw09.PoolKeeps", spec := "poolKeeps", inPlace := ["(*internal/sync.Mutex).Lock", "internal/race.Disable", "sync/atomic.CompareAndSwapInt32", "internal/race.Enable", "internal/race.Acquire", "(*internal/sync.Mutex).lockSlow", "internal/sync.runtime_canSpin", "internal/sync.runtime_doSpin", "internal/sync.throw", "internal/sync.runtime_nanotime", "internal/sync.runtime_SemacquireMutex", "sync/atomic.AddInt32", "(*internal/sync.Mutex).Unlock", "internal/race.ReleaseMerge", "(*internal/sync.Mutex).unlockSlow", "internal/sync.fatal", "internal/sync.runtime_Semrelease", "slices.overlaps[assent/api.Account]", "slices.overlaps[assent/api.Release]"], unfollowed := true, recurses := true, named := ["assent/digest.begin", "assent/digest.adds"], plainKeys := false, apart := false, laid := [("assent/digest.adds", laid_assent_digest_adds), ("assent/digest.begin", laid_assent_digest_begin)] }
def PoolKeepsSaid : Prop := poolKeepsRow.holds Tryz.pinned (OpenSpec.ofChange poolKeepsSpec)

/-- ITS FALSE NEIGHBOUR: 'it returns false'. Refute it at one input. -/
def poolKeepsWrong : ChangeSpec := { name := "poolKeeps", fn := fun _ => fun
  | [d] => { results := [.lit (.bool false)], args := [d] }
  | _ => none }
def PoolKeepsWrongFalsely : Prop := poolKeepsRow.holds Tryz.pinned (OpenSpec.ofChange poolKeepsWrong)

/-- 'assentlaw08.LedgerKeeps': WHATEVER THE INPUT: true; the input reads as it did. -/
def ledgerKeepsSpec : ChangeSpec := { name := "ledgerKeeps", fn := fun _ => fun
  | [d1, d2, d3, d4] => { results := [.lit (.bool true)], args := [d1, d2, d3, d4] }
  | _ => none }
def ledgerKeepsRow : OpenClaim := { program := "ytcngmkjdpoiiaaagreatdoor", sum := "2f679039d8d266dd8eba6547349025806cf246b8a5da6483d919a3b8d52ccbd3", func := "assent/assentlaw08.LedgerKeeps", spec := "ledgerKeeps", inPlace := ["math/bits.Add64", "(*internal/sync.Mutex).Lock", "internal/race.Disable", "sync/atomic.CompareAndSwapInt32", "internal/race.Enable", "internal/race.Acquire", "(*internal/sync.Mutex).lockSlow", "internal/sync.runtime_canSpin", "internal/sync.runtime_doSpin", "internal/sync.throw", "internal/sync.runtime_nanotime", "internal/sync.runtime_SemacquireMutex", "sync/atomic.AddInt32", "(*internal/sync.Mutex).Unlock", "internal/race.ReleaseMerge", "(*internal/sync.Mutex).unlockSlow", "internal/sync.fatal", "internal/sync.runtime_Semrelease", "slices.overlaps[assent/api.Account]", "slices.overlaps[assent/api.Release]"], unfollowed := true, recurses := true, named := ["assent/digest.begin", "assent/digest.adds", "assent/assentref02.adds", "math/bits.divideError", "math/bits.overflowError"], plainKeys := false, apart := false, laid := [("assent/assentref02.adds", laid_assent_assentref02_adds), ("assent/digest.adds", laid_assent_digest_adds), ("assent/digest.begin", laid_assent_digest_begin)] }
def LedgerKeepsSaid : Prop := ledgerKeepsRow.holds Tryz.pinned (OpenSpec.ofChange ledgerKeepsSpec)

/-- ITS FALSE NEIGHBOUR: 'it returns false'. Refute it at one input. -/
def ledgerKeepsWrong : ChangeSpec := { name := "ledgerKeeps", fn := fun _ => fun
  | [d1, d2, d3, d4] => { results := [.lit (.bool false)], args := [d1, d2, d3, d4] }
  | _ => none }
def LedgerKeepsWrongFalsely : Prop := ledgerKeepsRow.holds Tryz.pinned (OpenSpec.ofChange ledgerKeepsWrong)

/-- 'assentlaw09.PoolGoes': WHATEVER THE INPUT: true; the input reads as it did. -/
def poolGoesSpec : ChangeSpec := { name := "poolGoes", fn := fun _ => fun
  | [d] => { results := [.lit (.bool true)], args := [d] }
  | _ => none }
def poolGoesRow : OpenClaim := { program := "ytcngmkjdpoiiaaagreatdoor", sum := "2f679039d8d266dd8eba6547349025806cf246b8a5da6483d919a3b8d52ccbd3", func := "assent/assentlaw09.PoolGoes", spec := "poolGoes", inPlace := ["(*internal/sync.Mutex).Lock", "internal/race.Disable", "sync/atomic.CompareAndSwapInt32", "internal/race.Enable", "internal/race.Acquire", "(*internal/sync.Mutex).lockSlow", "internal/sync.runtime_canSpin", "internal/sync.runtime_doSpin", "internal/sync.throw", "internal/sync.runtime_nanotime", "internal/sync.runtime_SemacquireMutex", "sync/atomic.AddInt32", "(*internal/sync.Mutex).Unlock", "internal/race.ReleaseMerge", "(*internal/sync.Mutex).unlockSlow", "internal/sync.fatal", "internal/sync.runtime_Semrelease", "math/bits.Add64", "slices.overlaps[assent/api.Account]", "slices.overlaps[assent/api.Release]"], unfollowed := true, recurses := true, named := ["assent/digest.begin", "assent/digest.adds"], plainKeys := false, apart := false, laid := [("assent/digest.adds", laid_assent_digest_adds), ("assent/digest.begin", laid_assent_digest_begin)] }
def PoolGoesSaid : Prop := poolGoesRow.holds Tryz.pinned (OpenSpec.ofChange poolGoesSpec)

/-- ITS FALSE NEIGHBOUR: 'it returns false'. Refute it at one input. -/
def poolGoesWrong : ChangeSpec := { name := "poolGoes", fn := fun _ => fun
  | [d] => { results := [.lit (.bool false)], args := [d] }
  | _ => none }
def PoolGoesWrongFalsely : Prop := poolGoesRow.holds Tryz.pinned (OpenSpec.ofChange poolGoesWrong)

/-- 'assentlaw09.PoolChain': WHATEVER THE INPUT: true; the input reads as it did. -/
def poolChainSpec : ChangeSpec := { name := "poolChain", fn := fun _ => fun
  | [d1, d2] => { results := [.lit (.bool true)], args := [d1, d2] }
  | _ => none }
def poolChainRow : OpenClaim := { program := "ytcngmkjdpoiiaaagreatdoor", sum := "2f679039d8d266dd8eba6547349025806cf246b8a5da6483d919a3b8d52ccbd3", func := "assent/assentlaw09.PoolChain", spec := "poolChain", inPlace := ["math/bits.Add64", "(*internal/sync.Mutex).Lock", "internal/race.Disable", "sync/atomic.CompareAndSwapInt32", "internal/race.Enable", "internal/race.Acquire", "(*internal/sync.Mutex).lockSlow", "internal/sync.runtime_canSpin", "internal/sync.runtime_doSpin", "internal/sync.throw", "internal/sync.runtime_nanotime", "internal/sync.runtime_SemacquireMutex", "sync/atomic.AddInt32", "(*internal/sync.Mutex).Unlock", "internal/race.ReleaseMerge", "(*internal/sync.Mutex).unlockSlow", "internal/sync.fatal", "internal/sync.runtime_Semrelease", "slices.overlaps[assent/api.Account]", "slices.overlaps[assent/api.Release]"], unfollowed := true, recurses := true, named := ["assent/digest.begin", "assent/digest.adds"], plainKeys := false, apart := false, laid := [("assent/digest.adds", laid_assent_digest_adds), ("assent/digest.begin", laid_assent_digest_begin)] }
def PoolChainSaid : Prop := poolChainRow.holds Tryz.pinned (OpenSpec.ofChange poolChainSpec)

/-- ITS FALSE NEIGHBOUR: 'it returns false'. Refute it at one input. -/
def poolChainWrong : ChangeSpec := { name := "poolChain", fn := fun _ => fun
  | [d1, d2] => { results := [.lit (.bool false)], args := [d1, d2] }
  | _ => none }
def PoolChainWrongFalsely : Prop := poolChainRow.holds Tryz.pinned (OpenSpec.ofChange poolChainWrong)

/- THE SECOND FORM. 'bulk': how many values and letters a reading holds, each counted each time it is reached (what is shared counts as often as it is met; a slice's spare places count too). A statement '..UptoSaid' is the law's where the arguments, and the package variables that the reading takes, are together of bulk at most 1048576: NARROWER than '..Said'. Prove '..Said' where nothing that the law and all that it calls make is longer than what came in: it says more and counts as full. Else prove '..UptoSaid'. A law counts once. -/
mutual
def uptoBulk {H : Type} : DataW H → Nat
  | .lit (.string bytes) => bytes.length + 1
  | .lit _ => 1
  | .nil => 1
  | .ptr d => uptoBulk d + 1
  | .slice elems spare => uptoBulkAll elems + uptoBulkAll spare + 1
  | .agg parts => uptoBulkAll parts + 1
  | .iface _ d => uptoBulk d + 1
  | .map entries => uptoBulkEntries entries + 1
  | .held _ => 1
def uptoBulkAll {H : Type} : List (DataW H) → Nat
  | [] => 0
  | d :: r => uptoBulk d + uptoBulkAll r
def uptoBulkEntries {H : Type} : List (Lit × DataW H) → Nat
  | [] => 0
  | x :: r => uptoBulkEntry x + uptoBulkEntries r
def uptoBulkEntry {H : Type} : Lit × DataW H → Nat
  | (.string bytes, d) => bytes.length + uptoBulk d + 1
  | (_, d) => uptoBulk d + 1
 end
def uptoSmall : (H : Type) → List (DataW H) → Bool := fun _ ds => decide (uptoBulkAll ds ≤ 1048576)
def OpenSpec.upto (s : _root_.Go.ChangeSpec) : _root_.Go.OpenSpec := { _root_.Go.OpenSpec.ofChange s with cond := some uptoSmall }

/-- 'assentlaw08.LedgerFresh', WHERE WHAT IT READS IS OF BULK AT MOST 1048576: true; the input reads as it did. -/
def ledgerFreshUptoRow : OpenClaim := { program := "ytcngmkjdpoiiaaagreatdoor", sum := "2f679039d8d266dd8eba6547349025806cf246b8a5da6483d919a3b8d52ccbd3", func := "assent/assentlaw08.LedgerFresh", spec := "ledgerFresh", inPlace := ["math/bits.Add64"], unfollowed := true, recurses := true, named := ["math/bits.divideError", "math/bits.overflowError", "assent/digest.begin", "assent/digest.adds", "assent/assentref02.adds"], plainKeys := false, apart := false, laid := [("assent/assentref02.adds", laid_assent_assentref02_adds), ("assent/digest.adds", laid_assent_digest_adds), ("assent/digest.begin", laid_assent_digest_begin)], narrowed := true }
def LedgerFreshUptoSaid : Prop := ledgerFreshUptoRow.holds Tryz.pinned (OpenSpec.upto ledgerFreshSpec)

/-- 'assentlaw09.PoolNil', WHERE WHAT IT READS IS OF BULK AT MOST 1048576: true; the input reads as it did. -/
def poolNilUptoRow : OpenClaim := { program := "ytcngmkjdpoiiaaagreatdoor", sum := "2f679039d8d266dd8eba6547349025806cf246b8a5da6483d919a3b8d52ccbd3", func := "assent/assentlaw09.PoolNil", spec := "poolNil", inPlace := ["(*internal/sync.Mutex).Lock", "internal/race.Disable", "sync/atomic.CompareAndSwapInt32", "internal/race.Enable", "internal/race.Acquire", "(*internal/sync.Mutex).lockSlow", "internal/sync.runtime_canSpin", "internal/sync.runtime_doSpin", "internal/sync.throw", "internal/sync.runtime_nanotime", "internal/sync.runtime_SemacquireMutex", "sync/atomic.AddInt32", "(*internal/sync.Mutex).Unlock", "internal/race.ReleaseMerge", "(*internal/sync.Mutex).unlockSlow", "internal/sync.fatal", "internal/sync.runtime_Semrelease", "slices.overlaps[assent/api.Account]", "slices.overlaps[assent/api.Release]"], unfollowed := true, recurses := true, named := ["assent/digest.begin", "assent/digest.adds"], plainKeys := false, apart := false, laid := [("assent/digest.adds", laid_assent_digest_adds), ("assent/digest.begin", laid_assent_digest_begin)], narrowed := true }
def PoolNilUptoSaid : Prop := poolNilUptoRow.holds Tryz.pinned (OpenSpec.upto poolNilSpec)

/-- 'assentlaw09.PoolTurns', WHERE WHAT IT READS IS OF BULK AT MOST 1048576: true; the input reads as it did. -/
def poolTurnsUptoRow : OpenClaim := { program := "ytcngmkjdpoiiaaagreatdoor", sum := "2f679039d8d266dd8eba6547349025806cf246b8a5da6483d919a3b8d52ccbd3", func := "assent/assentlaw09.PoolTurns", spec := "poolTurns", inPlace := ["(*internal/sync.Mutex).Lock", "internal/race.Disable", "sync/atomic.CompareAndSwapInt32", "internal/race.Enable", "internal/race.Acquire", "(*internal/sync.Mutex).lockSlow", "internal/sync.runtime_canSpin", "internal/sync.runtime_doSpin", "internal/sync.throw", "internal/sync.runtime_nanotime", "internal/sync.runtime_SemacquireMutex", "sync/atomic.AddInt32", "(*internal/sync.Mutex).Unlock", "internal/race.ReleaseMerge", "(*internal/sync.Mutex).unlockSlow", "internal/sync.fatal", "internal/sync.runtime_Semrelease", "slices.overlaps[assent/api.Account]", "slices.overlaps[assent/api.Release]"], unfollowed := true, recurses := true, named := ["assent/digest.begin", "assent/digest.adds", "assent/assentref02.adds"], plainKeys := false, apart := false, laid := [("assent/assentref02.adds", laid_assent_assentref02_adds), ("assent/digest.adds", laid_assent_digest_adds), ("assent/digest.begin", laid_assent_digest_begin)], narrowed := true }
def PoolTurnsUptoSaid : Prop := poolTurnsUptoRow.holds Tryz.pinned (OpenSpec.upto poolTurnsSpec)

/-- 'assentlaw09.PoolAdds', WHERE WHAT IT READS IS OF BULK AT MOST 1048576: true; the input reads as it did. -/
def poolAddsUptoRow : OpenClaim := { program := "ytcngmkjdpoiiaaagreatdoor", sum := "2f679039d8d266dd8eba6547349025806cf246b8a5da6483d919a3b8d52ccbd3", func := "assent/assentlaw09.PoolAdds", spec := "poolAdds", inPlace := ["(*internal/sync.Mutex).Lock", "internal/race.Disable", "sync/atomic.CompareAndSwapInt32", "internal/race.Enable", "internal/race.Acquire", "(*internal/sync.Mutex).lockSlow", "internal/sync.runtime_canSpin", "internal/sync.runtime_doSpin", "internal/sync.throw", "internal/sync.runtime_nanotime", "internal/sync.runtime_SemacquireMutex", "sync/atomic.AddInt32", "(*internal/sync.Mutex).Unlock", "internal/race.ReleaseMerge", "(*internal/sync.Mutex).unlockSlow", "internal/sync.fatal", "internal/sync.runtime_Semrelease", "slices.overlaps[assent/api.Account]", "slices.overlaps[assent/api.Release]"], unfollowed := true, recurses := true, named := ["assent/digest.begin", "assent/digest.adds", "assent/assentref02.adds"], plainKeys := false, apart := false, laid := [("assent/assentref02.adds", laid_assent_assentref02_adds), ("assent/digest.adds", laid_assent_digest_adds), ("assent/digest.begin", laid_assent_digest_begin)], narrowed := true }
def PoolAddsUptoSaid : Prop := poolAddsUptoRow.holds Tryz.pinned (OpenSpec.upto poolAddsSpec)

/-- 'assentlaw09.PoolPicks', WHERE WHAT IT READS IS OF BULK AT MOST 1048576: true; the input reads as it did. -/
def poolPicksUptoRow : OpenClaim := { program := "ytcngmkjdpoiiaaagreatdoor", sum := "2f679039d8d266dd8eba6547349025806cf246b8a5da6483d919a3b8d52ccbd3", func := "assent/assentlaw09.PoolPicks", spec := "poolPicks", inPlace := ["(*internal/sync.Mutex).Lock", "internal/race.Disable", "sync/atomic.CompareAndSwapInt32", "internal/race.Enable", "internal/race.Acquire", "(*internal/sync.Mutex).lockSlow", "internal/sync.runtime_canSpin", "internal/sync.runtime_doSpin", "internal/sync.throw", "internal/sync.runtime_nanotime", "internal/sync.runtime_SemacquireMutex", "sync/atomic.AddInt32", "(*internal/sync.Mutex).Unlock", "internal/race.ReleaseMerge", "(*internal/sync.Mutex).unlockSlow", "internal/sync.fatal", "internal/sync.runtime_Semrelease", "slices.overlaps[assent/api.Account]", "slices.overlaps[assent/api.Release]"], unfollowed := true, recurses := true, named := ["assent/digest.begin", "assent/digest.adds", "assent/assentref02.adds"], plainKeys := false, apart := false, laid := [("assent/assentref02.adds", laid_assent_assentref02_adds), ("assent/digest.adds", laid_assent_digest_adds), ("assent/digest.begin", laid_assent_digest_begin)], narrowed := true }
def PoolPicksUptoSaid : Prop := poolPicksUptoRow.holds Tryz.pinned (OpenSpec.upto poolPicksSpec)

/-- 'assentlaw09.PoolTells', WHERE WHAT IT READS IS OF BULK AT MOST 1048576: true; the input reads as it did. -/
def poolTellsUptoRow : OpenClaim := { program := "ytcngmkjdpoiiaaagreatdoor", sum := "2f679039d8d266dd8eba6547349025806cf246b8a5da6483d919a3b8d52ccbd3", func := "assent/assentlaw09.PoolTells", spec := "poolTells", inPlace := ["(*internal/sync.Mutex).Lock", "internal/race.Disable", "sync/atomic.CompareAndSwapInt32", "internal/race.Enable", "internal/race.Acquire", "(*internal/sync.Mutex).lockSlow", "internal/sync.runtime_canSpin", "internal/sync.runtime_doSpin", "internal/sync.throw", "internal/sync.runtime_nanotime", "internal/sync.runtime_SemacquireMutex", "sync/atomic.AddInt32", "(*internal/sync.Mutex).Unlock", "internal/race.ReleaseMerge", "(*internal/sync.Mutex).unlockSlow", "internal/sync.fatal", "internal/sync.runtime_Semrelease", "slices.overlaps[assent/api.Account]", "slices.overlaps[assent/api.Release]"], unfollowed := true, recurses := true, named := ["assent/digest.begin", "assent/digest.adds", "assent/assentref02.adds"], plainKeys := false, apart := false, laid := [("assent/assentref02.adds", laid_assent_assentref02_adds), ("assent/digest.adds", laid_assent_digest_adds), ("assent/digest.begin", laid_assent_digest_begin)], narrowed := true }
def PoolTellsUptoSaid : Prop := poolTellsUptoRow.holds Tryz.pinned (OpenSpec.upto poolTellsSpec)

/-- 'assentlaw09.PoolAll', WHERE WHAT IT READS IS OF BULK AT MOST 1048576: true; the input reads as it did. -/
def poolAllUptoRow : OpenClaim := { program := "ytcngmkjdpoiiaaagreatdoor", sum := "2f679039d8d266dd8eba6547349025806cf246b8a5da6483d919a3b8d52ccbd3", func := "assent/assentlaw09.PoolAll", spec := "poolAll", inPlace := ["(*internal/sync.Mutex).Lock", "internal/race.Disable", "sync/atomic.CompareAndSwapInt32", "internal/race.Enable", "internal/race.Acquire", "(*internal/sync.Mutex).lockSlow", "internal/sync.runtime_canSpin", "internal/sync.runtime_doSpin", "internal/sync.throw", "internal/sync.runtime_nanotime", "internal/sync.runtime_SemacquireMutex", "sync/atomic.AddInt32", "(*internal/sync.Mutex).Unlock", "internal/race.ReleaseMerge", "(*internal/sync.Mutex).unlockSlow", "internal/sync.fatal", "internal/sync.runtime_Semrelease", "slices.overlaps[assent/api.Account]", "slices.overlaps[assent/api.Release]"], unfollowed := true, recurses := true, named := ["assent/digest.begin", "assent/digest.adds", "assent/assentref02.adds"], plainKeys := false, apart := false, laid := [("assent/assentref02.adds", laid_assent_assentref02_adds), ("assent/digest.adds", laid_assent_digest_adds), ("assent/digest.begin", laid_assent_digest_begin)], narrowed := true }
def PoolAllUptoSaid : Prop := poolAllUptoRow.holds Tryz.pinned (OpenSpec.upto poolAllSpec)

/-- 'assentlaw09.PoolTwo', WHERE WHAT IT READS IS OF BULK AT MOST 1048576: true; the input reads as it did. -/
def poolTwoUptoRow : OpenClaim := { program := "ytcngmkjdpoiiaaagreatdoor", sum := "2f679039d8d266dd8eba6547349025806cf246b8a5da6483d919a3b8d52ccbd3", func := "assent/assentlaw09.PoolTwo", spec := "poolTwo", inPlace := ["(*internal/sync.Mutex).Lock", "internal/race.Disable", "sync/atomic.CompareAndSwapInt32", "internal/race.Enable", "internal/race.Acquire", "(*internal/sync.Mutex).lockSlow", "internal/sync.runtime_canSpin", "internal/sync.runtime_doSpin", "internal/sync.throw", "internal/sync.runtime_nanotime", "internal/sync.runtime_SemacquireMutex", "sync/atomic.AddInt32", "(*internal/sync.Mutex).Unlock", "internal/race.ReleaseMerge", "(*internal/sync.Mutex).unlockSlow", "internal/sync.fatal", "internal/sync.runtime_Semrelease", "slices.overlaps[assent/api.Account]", "slices.overlaps[assent/api.Release]"], unfollowed := true, recurses := true, named := ["assent/digest.begin", "assent/digest.adds", "assent/assentref02.adds"], plainKeys := false, apart := false, laid := [("assent/assentref02.adds", laid_assent_assentref02_adds), ("assent/digest.adds", laid_assent_digest_adds), ("assent/digest.begin", laid_assent_digest_begin)], narrowed := true }
def PoolTwoUptoSaid : Prop := poolTwoUptoRow.holds Tryz.pinned (OpenSpec.upto poolTwoSpec)

/-- 'assentlaw09.PoolOwn', WHERE WHAT IT READS IS OF BULK AT MOST 1048576: true; the input reads as it did. -/
def poolOwnUptoRow : OpenClaim := { program := "ytcngmkjdpoiiaaagreatdoor", sum := "2f679039d8d266dd8eba6547349025806cf246b8a5da6483d919a3b8d52ccbd3", func := "assent/assentlaw09.PoolOwn", spec := "poolOwn", inPlace := ["(*internal/sync.Mutex).Lock", "internal/race.Disable", "sync/atomic.CompareAndSwapInt32", "internal/race.Enable", "internal/race.Acquire", "(*internal/sync.Mutex).lockSlow", "internal/sync.runtime_canSpin", "internal/sync.runtime_doSpin", "internal/sync.throw", "internal/sync.runtime_nanotime", "internal/sync.runtime_SemacquireMutex", "sync/atomic.AddInt32", "(*internal/sync.Mutex).Unlock", "internal/race.ReleaseMerge", "(*internal/sync.Mutex).unlockSlow", "internal/sync.fatal", "internal/sync.runtime_Semrelease", "slices.overlaps[assent/api.Account]", "slices.overlaps[assent/api.Release]"], unfollowed := true, recurses := true, named := ["assent/digest.begin", "assent/digest.adds", "assent/assentref02.adds"], plainKeys := false, apart := false, laid := [("assent/assentref02.adds", laid_assent_assentref02_adds), ("assent/digest.adds", laid_assent_digest_adds), ("assent/digest.begin", laid_assent_digest_begin)], narrowed := true }
def PoolOwnUptoSaid : Prop := poolOwnUptoRow.holds Tryz.pinned (OpenSpec.upto poolOwnSpec)

/-- 'assentlaw09.PoolKeeps', WHERE WHAT IT READS IS OF BULK AT MOST 1048576: true; the input reads as it did. -/
def poolKeepsUptoRow : OpenClaim := { program := "ytcngmkjdpoiiaaagreatdoor", sum := "2f679039d8d266dd8eba6547349025806cf246b8a5da6483d919a3b8d52ccbd3", func := "assent/assentlaw09.PoolKeeps", spec := "poolKeeps", inPlace := ["(*internal/sync.Mutex).Lock", "internal/race.Disable", "sync/atomic.CompareAndSwapInt32", "internal/race.Enable", "internal/race.Acquire", "(*internal/sync.Mutex).lockSlow", "internal/sync.runtime_canSpin", "internal/sync.runtime_doSpin", "internal/sync.throw", "internal/sync.runtime_nanotime", "internal/sync.runtime_SemacquireMutex", "sync/atomic.AddInt32", "(*internal/sync.Mutex).Unlock", "internal/race.ReleaseMerge", "(*internal/sync.Mutex).unlockSlow", "internal/sync.fatal", "internal/sync.runtime_Semrelease", "slices.overlaps[assent/api.Account]", "slices.overlaps[assent/api.Release]"], unfollowed := true, recurses := true, named := ["assent/digest.begin", "assent/digest.adds"], plainKeys := false, apart := false, laid := [("assent/digest.adds", laid_assent_digest_adds), ("assent/digest.begin", laid_assent_digest_begin)], narrowed := true }
def PoolKeepsUptoSaid : Prop := poolKeepsUptoRow.holds Tryz.pinned (OpenSpec.upto poolKeepsSpec)

/-- 'assentlaw08.LedgerKeeps', WHERE WHAT IT READS IS OF BULK AT MOST 1048576: true; the input reads as it did. -/
def ledgerKeepsUptoRow : OpenClaim := { program := "ytcngmkjdpoiiaaagreatdoor", sum := "2f679039d8d266dd8eba6547349025806cf246b8a5da6483d919a3b8d52ccbd3", func := "assent/assentlaw08.LedgerKeeps", spec := "ledgerKeeps", inPlace := ["math/bits.Add64", "(*internal/sync.Mutex).Lock", "internal/race.Disable", "sync/atomic.CompareAndSwapInt32", "internal/race.Enable", "internal/race.Acquire", "(*internal/sync.Mutex).lockSlow", "internal/sync.runtime_canSpin", "internal/sync.runtime_doSpin", "internal/sync.throw", "internal/sync.runtime_nanotime", "internal/sync.runtime_SemacquireMutex", "sync/atomic.AddInt32", "(*internal/sync.Mutex).Unlock", "internal/race.ReleaseMerge", "(*internal/sync.Mutex).unlockSlow", "internal/sync.fatal", "internal/sync.runtime_Semrelease", "slices.overlaps[assent/api.Account]", "slices.overlaps[assent/api.Release]"], unfollowed := true, recurses := true, named := ["assent/digest.begin", "assent/digest.adds", "assent/assentref02.adds", "math/bits.divideError", "math/bits.overflowError"], plainKeys := false, apart := false, laid := [("assent/assentref02.adds", laid_assent_assentref02_adds), ("assent/digest.adds", laid_assent_digest_adds), ("assent/digest.begin", laid_assent_digest_begin)], narrowed := true }
def LedgerKeepsUptoSaid : Prop := ledgerKeepsUptoRow.holds Tryz.pinned (OpenSpec.upto ledgerKeepsSpec)

/-- 'assentlaw09.PoolGoes', WHERE WHAT IT READS IS OF BULK AT MOST 1048576: true; the input reads as it did. -/
def poolGoesUptoRow : OpenClaim := { program := "ytcngmkjdpoiiaaagreatdoor", sum := "2f679039d8d266dd8eba6547349025806cf246b8a5da6483d919a3b8d52ccbd3", func := "assent/assentlaw09.PoolGoes", spec := "poolGoes", inPlace := ["(*internal/sync.Mutex).Lock", "internal/race.Disable", "sync/atomic.CompareAndSwapInt32", "internal/race.Enable", "internal/race.Acquire", "(*internal/sync.Mutex).lockSlow", "internal/sync.runtime_canSpin", "internal/sync.runtime_doSpin", "internal/sync.throw", "internal/sync.runtime_nanotime", "internal/sync.runtime_SemacquireMutex", "sync/atomic.AddInt32", "(*internal/sync.Mutex).Unlock", "internal/race.ReleaseMerge", "(*internal/sync.Mutex).unlockSlow", "internal/sync.fatal", "internal/sync.runtime_Semrelease", "math/bits.Add64", "slices.overlaps[assent/api.Account]", "slices.overlaps[assent/api.Release]"], unfollowed := true, recurses := true, named := ["assent/digest.begin", "assent/digest.adds"], plainKeys := false, apart := false, laid := [("assent/digest.adds", laid_assent_digest_adds), ("assent/digest.begin", laid_assent_digest_begin)], narrowed := true }
def PoolGoesUptoSaid : Prop := poolGoesUptoRow.holds Tryz.pinned (OpenSpec.upto poolGoesSpec)

/-- 'assentlaw09.PoolChain', WHERE WHAT IT READS IS OF BULK AT MOST 1048576: true; the input reads as it did. -/
def poolChainUptoRow : OpenClaim := { program := "ytcngmkjdpoiiaaagreatdoor", sum := "2f679039d8d266dd8eba6547349025806cf246b8a5da6483d919a3b8d52ccbd3", func := "assent/assentlaw09.PoolChain", spec := "poolChain", inPlace := ["math/bits.Add64", "(*internal/sync.Mutex).Lock", "internal/race.Disable", "sync/atomic.CompareAndSwapInt32", "internal/race.Enable", "internal/race.Acquire", "(*internal/sync.Mutex).lockSlow", "internal/sync.runtime_canSpin", "internal/sync.runtime_doSpin", "internal/sync.throw", "internal/sync.runtime_nanotime", "internal/sync.runtime_SemacquireMutex", "sync/atomic.AddInt32", "(*internal/sync.Mutex).Unlock", "internal/race.ReleaseMerge", "(*internal/sync.Mutex).unlockSlow", "internal/sync.fatal", "internal/sync.runtime_Semrelease", "slices.overlaps[assent/api.Account]", "slices.overlaps[assent/api.Release]"], unfollowed := true, recurses := true, named := ["assent/digest.begin", "assent/digest.adds"], plainKeys := false, apart := false, laid := [("assent/digest.adds", laid_assent_digest_adds), ("assent/digest.begin", laid_assent_digest_begin)], narrowed := true }
def PoolChainUptoSaid : Prop := poolChainUptoRow.holds Tryz.pinned (OpenSpec.upto poolChainSpec)

end Rows
end Go.Proofs.YtcngmkjdpoiiaaaGreatDoor
