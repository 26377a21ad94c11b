/-
  NARROWER THAN 'FOR EVERY INPUT', by the rows' own cells (each row's printed sentence says how): SealTurns: laid · SealTruth: laid · SealLimits: laid · SealStrange: laid · SealOnce: laid · SealEnters: laid · SealSigns: laid · SealChecks: laid · SealTells: laid · SealAll: laid · SealOwn: laid · SealNil: laid.
  DERIVED. THE GIVEN ROWS OF THIS SEAT. 12 by the template 'for every input the law returns true; each argument reads behind the call as it read before'; 0 by the template 'total and deterministic' (their statements: YtnaadddnbfnahaaDoorTotals.lean).
  GIVEN WITH THE SEED: the statements are not yours to turn. If you find one false, say at which input.
  Laid BY PROGRAM, IN A SANDBOX (cutbox-rows.mjs): the forced cells as the released guide's own fill.sh prints them over the translation 202d97def19559f3… (all of the seat's roots in one cut). By AI agents, Wed Nov 11 2026. No macro, syntax, notation, axiom, sorry.
-/
import Derived.Test.YtnaadddnbfnahaaDoorChecked
import GoSem.Claim
import GoSem.ClaimJoined
import GoSem.ClaimMapViews
import Derived.JoinedTies
import Derived.KernelRfl
namespace Go.Proofs.YtnaadddnbfnahaaDoor
/- THE CELL 'sum', in the pinned program and in every row, IS THE sha256 OF THE DUMP (.gsa) THAT YtnaadddnbfnahaaDoorProg.lean LOADS. Nothing in Lean hashes anything: it is a label: what it is worth is what the hold of that sum in a sandbox is worth. -/
noncomputable def Tryd.pinned : Pinned := { name := "ytnaadddnbfnahaadoor", sum := "202d97def19559f35594feca6af907326e8f56bc758988aebe7deb7efdedc02d", checked := Tryd.checked }
namespace Rows
def none {H : Type} : Left H := { results := [], args := [] }

/- WHAT THE LISTED PACKAGE-LEVEL VARIABLES READ AS WHEN THE CALL BEGINS. Each datum BY PROGRAM (the guide's laid-datum.mjs) off the statement by which the dump's own 'gosem.cut.vars' lays the variable. In a bare row this is a premise. The card (YtnaadddnbfnahaaDoorCards.lean) ties it to the program's text. -/
def laid_assent_assentref02_adds {H : Type} : DataW H := .agg [.lit (.int .u32 1116352408), .lit (.int .u32 1899447441), .lit (.int .u32 3049323471), .lit (.int .u32 3921009573), .lit (.int .u32 961987163), .lit (.int .u32 1508970993), .lit (.int .u32 2453635748), .lit (.int .u32 2870763221), .lit (.int .u32 3624381080), .lit (.int .u32 310598401), .lit (.int .u32 607225278), .lit (.int .u32 1426881987), .lit (.int .u32 1925078388), .lit (.int .u32 2162078206), .lit (.int .u32 2614888103), .lit (.int .u32 3248222580), .lit (.int .u32 3835390401), .lit (.int .u32 4022224774), .lit (.int .u32 264347078), .lit (.int .u32 604807628), .lit (.int .u32 770255983), .lit (.int .u32 1249150122), .lit (.int .u32 1555081692), .lit (.int .u32 1996064986), .lit (.int .u32 2554220882), .lit (.int .u32 2821834349), .lit (.int .u32 2952996808), .lit (.int .u32 3210313671), .lit (.int .u32 3336571891), .lit (.int .u32 3584528711), .lit (.int .u32 113926993), .lit (.int .u32 338241895), .lit (.int .u32 666307205), .lit (.int .u32 773529912), .lit (.int .u32 1294757372), .lit (.int .u32 1396182291), .lit (.int .u32 1695183700), .lit (.int .u32 1986661051), .lit (.int .u32 2177026350), .lit (.int .u32 2456956037), .lit (.int .u32 2730485921), .lit (.int .u32 2820302411), .lit (.int .u32 3259730800), .lit (.int .u32 3345764771), .lit (.int .u32 3516065817), .lit (.int .u32 3600352804), .lit (.int .u32 4094571909), .lit (.int .u32 275423344), .lit (.int .u32 430227734), .lit (.int .u32 506948616), .lit (.int .u32 659060556), .lit (.int .u32 883997877), .lit (.int .u32 958139571), .lit (.int .u32 1322822218), .lit (.int .u32 1537002063), .lit (.int .u32 1747873779), .lit (.int .u32 1955562222), .lit (.int .u32 2024104815), .lit (.int .u32 2227730452), .lit (.int .u32 2361852424), .lit (.int .u32 2428436474), .lit (.int .u32 2756734187), .lit (.int .u32 3204031479), .lit (.int .u32 3329325298)]
def laid_assent_digest_adds {H : Type} : DataW H := .agg [.lit (.int .u32 1116352408), .lit (.int .u32 1899447441), .lit (.int .u32 3049323471), .lit (.int .u32 3921009573), .lit (.int .u32 961987163), .lit (.int .u32 1508970993), .lit (.int .u32 2453635748), .lit (.int .u32 2870763221), .lit (.int .u32 3624381080), .lit (.int .u32 310598401), .lit (.int .u32 607225278), .lit (.int .u32 1426881987), .lit (.int .u32 1925078388), .lit (.int .u32 2162078206), .lit (.int .u32 2614888103), .lit (.int .u32 3248222580), .lit (.int .u32 3835390401), .lit (.int .u32 4022224774), .lit (.int .u32 264347078), .lit (.int .u32 604807628), .lit (.int .u32 770255983), .lit (.int .u32 1249150122), .lit (.int .u32 1555081692), .lit (.int .u32 1996064986), .lit (.int .u32 2554220882), .lit (.int .u32 2821834349), .lit (.int .u32 2952996808), .lit (.int .u32 3210313671), .lit (.int .u32 3336571891), .lit (.int .u32 3584528711), .lit (.int .u32 113926993), .lit (.int .u32 338241895), .lit (.int .u32 666307205), .lit (.int .u32 773529912), .lit (.int .u32 1294757372), .lit (.int .u32 1396182291), .lit (.int .u32 1695183700), .lit (.int .u32 1986661051), .lit (.int .u32 2177026350), .lit (.int .u32 2456956037), .lit (.int .u32 2730485921), .lit (.int .u32 2820302411), .lit (.int .u32 3259730800), .lit (.int .u32 3345764771), .lit (.int .u32 3516065817), .lit (.int .u32 3600352804), .lit (.int .u32 4094571909), .lit (.int .u32 275423344), .lit (.int .u32 430227734), .lit (.int .u32 506948616), .lit (.int .u32 659060556), .lit (.int .u32 883997877), .lit (.int .u32 958139571), .lit (.int .u32 1322822218), .lit (.int .u32 1537002063), .lit (.int .u32 1747873779), .lit (.int .u32 1955562222), .lit (.int .u32 2024104815), .lit (.int .u32 2227730452), .lit (.int .u32 2361852424), .lit (.int .u32 2428436474), .lit (.int .u32 2756734187), .lit (.int .u32 3204031479), .lit (.int .u32 3329325298)]
def laid_assent_digest_begin {H : Type} : DataW H := .agg [.lit (.int .u32 1779033703), .lit (.int .u32 3144134277), .lit (.int .u32 1013904242), .lit (.int .u32 2773480762), .lit (.int .u32 1359893119), .lit (.int .u32 2600822924), .lit (.int .u32 528734635), .lit (.int .u32 1541459225)]

/-- 'assentlaw03.SealTurns': WHATEVER THE INPUT: true; the input reads as it did. -/
def sealTurnsSpec : ChangeSpec := { name := "sealTurns", fn := fun _ => fun
  | [d1, d2, d3] => { results := [.lit (.bool true)], args := [d1, d2, d3] }
  | _ => none }
def sealTurnsRow : OpenClaim := { program := "ytnaadddnbfnahaadoor", sum := "202d97def19559f35594feca6af907326e8f56bc758988aebe7deb7efdedc02d", func := "assent/assentlaw03.SealTurns", spec := "sealTurns", inPlace := ["(*internal/sync.Mutex).Lock", "internal/race.Disable", "sync/atomic.CompareAndSwapInt32", "internal/race.Enable", "internal/race.Acquire", "(*internal/sync.Mutex).lockSlow", "internal/sync.runtime_canSpin", "internal/sync.runtime_doSpin", "internal/sync.throw", "internal/sync.runtime_nanotime", "internal/sync.runtime_SemacquireMutex", "sync/atomic.AddInt32", "(*internal/sync.Mutex).Unlock", "internal/race.ReleaseMerge", "(*internal/sync.Mutex).unlockSlow", "internal/sync.fatal", "internal/sync.runtime_Semrelease"], named := ["assent/digest.begin", "assent/digest.adds", "assent/assentref02.adds"], plainKeys := false, apart := false, laid := [("assent/assentref02.adds", laid_assent_assentref02_adds), ("assent/digest.adds", laid_assent_digest_adds), ("assent/digest.begin", laid_assent_digest_begin)] }
def SealTurnsSaid : Prop := sealTurnsRow.holds Tryd.pinned (OpenSpec.ofChange sealTurnsSpec)

/-- ITS FALSE NEIGHBOUR: 'it returns false'. Refute it at one input. -/
def sealTurnsWrong : ChangeSpec := { name := "sealTurns", fn := fun _ => fun
  | [d1, d2, d3] => { results := [.lit (.bool false)], args := [d1, d2, d3] }
  | _ => none }
def SealTurnsWrongFalsely : Prop := sealTurnsRow.holds Tryd.pinned (OpenSpec.ofChange sealTurnsWrong)

/-- 'assentlaw03.SealTruth': WHATEVER THE INPUT: true; the input reads as it did. -/
def sealTruthSpec : ChangeSpec := { name := "sealTruth", fn := fun _ => fun
  | [d] => { results := [.lit (.bool true)], args := [d] }
  | _ => none }
def sealTruthRow : OpenClaim := { program := "ytnaadddnbfnahaadoor", sum := "202d97def19559f35594feca6af907326e8f56bc758988aebe7deb7efdedc02d", func := "assent/assentlaw03.SealTruth", spec := "sealTruth", inPlace := ["(*internal/sync.Mutex).Lock", "internal/race.Disable", "sync/atomic.CompareAndSwapInt32", "internal/race.Enable", "internal/race.Acquire", "(*internal/sync.Mutex).lockSlow", "internal/sync.runtime_canSpin", "internal/sync.runtime_doSpin", "internal/sync.throw", "internal/sync.runtime_nanotime", "internal/sync.runtime_SemacquireMutex", "sync/atomic.AddInt32", "(*internal/sync.Mutex).Unlock", "internal/race.ReleaseMerge", "(*internal/sync.Mutex).unlockSlow", "internal/sync.fatal", "internal/sync.runtime_Semrelease"], named := ["assent/digest.begin", "assent/digest.adds"], plainKeys := false, apart := false, laid := [("assent/digest.adds", laid_assent_digest_adds), ("assent/digest.begin", laid_assent_digest_begin)] }
def SealTruthSaid : Prop := sealTruthRow.holds Tryd.pinned (OpenSpec.ofChange sealTruthSpec)

/-- ITS FALSE NEIGHBOUR: 'it returns false'. Refute it at one input. -/
def sealTruthWrong : ChangeSpec := { name := "sealTruth", fn := fun _ => fun
  | [d] => { results := [.lit (.bool false)], args := [d] }
  | _ => none }
def SealTruthWrongFalsely : Prop := sealTruthRow.holds Tryd.pinned (OpenSpec.ofChange sealTruthWrong)

/-- 'assentlaw03.SealLimits': WHATEVER THE INPUT: true; the input reads as it did. -/
def sealLimitsSpec : ChangeSpec := { name := "sealLimits", fn := fun _ => fun
  | [] => { results := [.lit (.bool true)], args := [] }
  | _ => none }
def sealLimitsRow : OpenClaim := { program := "ytnaadddnbfnahaadoor", sum := "202d97def19559f35594feca6af907326e8f56bc758988aebe7deb7efdedc02d", func := "assent/assentlaw03.SealLimits", spec := "sealLimits", inPlace := ["(*internal/sync.Mutex).Lock", "internal/race.Disable", "sync/atomic.CompareAndSwapInt32", "internal/race.Enable", "internal/race.Acquire", "(*internal/sync.Mutex).lockSlow", "internal/sync.runtime_canSpin", "internal/sync.runtime_doSpin", "internal/sync.throw", "internal/sync.runtime_nanotime", "internal/sync.runtime_SemacquireMutex", "sync/atomic.AddInt32", "(*internal/sync.Mutex).Unlock", "internal/race.ReleaseMerge", "(*internal/sync.Mutex).unlockSlow", "internal/sync.fatal", "internal/sync.runtime_Semrelease"], named := ["assent/digest.begin", "assent/digest.adds"], plainKeys := false, apart := false, laid := [("assent/digest.adds", laid_assent_digest_adds), ("assent/digest.begin", laid_assent_digest_begin)] }
def SealLimitsSaid : Prop := sealLimitsRow.holds Tryd.pinned (OpenSpec.ofChange sealLimitsSpec)

/-- ITS FALSE NEIGHBOUR: 'it returns false'. Refute it at one input. -/
def sealLimitsWrong : ChangeSpec := { name := "sealLimits", fn := fun _ => fun
  | [] => { results := [.lit (.bool false)], args := [] }
  | _ => none }
def SealLimitsWrongFalsely : Prop := sealLimitsRow.holds Tryd.pinned (OpenSpec.ofChange sealLimitsWrong)

/-- 'assentlaw03.SealStrange': WHATEVER THE INPUT: true; the input reads as it did. -/
def sealStrangeSpec : ChangeSpec := { name := "sealStrange", fn := fun _ => fun
  | [d] => { results := [.lit (.bool true)], args := [d] }
  | _ => none }
def sealStrangeRow : OpenClaim := { program := "ytnaadddnbfnahaadoor", sum := "202d97def19559f35594feca6af907326e8f56bc758988aebe7deb7efdedc02d", func := "assent/assentlaw03.SealStrange", spec := "sealStrange", inPlace := ["(*internal/sync.Mutex).Lock", "internal/race.Disable", "sync/atomic.CompareAndSwapInt32", "internal/race.Enable", "internal/race.Acquire", "(*internal/sync.Mutex).lockSlow", "internal/sync.runtime_canSpin", "internal/sync.runtime_doSpin", "internal/sync.throw", "internal/sync.runtime_nanotime", "internal/sync.runtime_SemacquireMutex", "sync/atomic.AddInt32", "(*internal/sync.Mutex).Unlock", "internal/race.ReleaseMerge", "(*internal/sync.Mutex).unlockSlow", "internal/sync.fatal", "internal/sync.runtime_Semrelease"], named := ["assent/digest.begin", "assent/digest.adds"], plainKeys := false, apart := false, laid := [("assent/digest.adds", laid_assent_digest_adds), ("assent/digest.begin", laid_assent_digest_begin)] }
def SealStrangeSaid : Prop := sealStrangeRow.holds Tryd.pinned (OpenSpec.ofChange sealStrangeSpec)

/-- ITS FALSE NEIGHBOUR: 'it returns false'. Refute it at one input. -/
def sealStrangeWrong : ChangeSpec := { name := "sealStrange", fn := fun _ => fun
  | [d] => { results := [.lit (.bool false)], args := [d] }
  | _ => none }
def SealStrangeWrongFalsely : Prop := sealStrangeRow.holds Tryd.pinned (OpenSpec.ofChange sealStrangeWrong)

/-- 'assentlaw03.SealOnce': WHATEVER THE INPUT: true; the input reads as it did. -/
def sealOnceSpec : ChangeSpec := { name := "sealOnce", fn := fun _ => fun
  | [d1, d2] => { results := [.lit (.bool true)], args := [d1, d2] }
  | _ => none }
def sealOnceRow : OpenClaim := { program := "ytnaadddnbfnahaadoor", sum := "202d97def19559f35594feca6af907326e8f56bc758988aebe7deb7efdedc02d", func := "assent/assentlaw03.SealOnce", spec := "sealOnce", inPlace := ["(*internal/sync.Mutex).Lock", "internal/race.Disable", "sync/atomic.CompareAndSwapInt32", "internal/race.Enable", "internal/race.Acquire", "(*internal/sync.Mutex).lockSlow", "internal/sync.runtime_canSpin", "internal/sync.runtime_doSpin", "internal/sync.throw", "internal/sync.runtime_nanotime", "internal/sync.runtime_SemacquireMutex", "sync/atomic.AddInt32", "(*internal/sync.Mutex).Unlock", "internal/race.ReleaseMerge", "(*internal/sync.Mutex).unlockSlow", "internal/sync.fatal", "internal/sync.runtime_Semrelease"], named := ["assent/digest.begin", "assent/digest.adds"], plainKeys := false, apart := false, laid := [("assent/digest.adds", laid_assent_digest_adds), ("assent/digest.begin", laid_assent_digest_begin)] }
def SealOnceSaid : Prop := sealOnceRow.holds Tryd.pinned (OpenSpec.ofChange sealOnceSpec)

/-- ITS FALSE NEIGHBOUR: 'it returns false'. Refute it at one input. -/
def sealOnceWrong : ChangeSpec := { name := "sealOnce", fn := fun _ => fun
  | [d1, d2] => { results := [.lit (.bool false)], args := [d1, d2] }
  | _ => none }
def SealOnceWrongFalsely : Prop := sealOnceRow.holds Tryd.pinned (OpenSpec.ofChange sealOnceWrong)

/-- 'assentlaw03.SealEnters': WHATEVER THE INPUT: true; the input reads as it did. -/
def sealEntersSpec : ChangeSpec := { name := "sealEnters", fn := fun _ => fun
  | [d] => { results := [.lit (.bool true)], args := [d] }
  | _ => none }
def sealEntersRow : OpenClaim := { program := "ytnaadddnbfnahaadoor", sum := "202d97def19559f35594feca6af907326e8f56bc758988aebe7deb7efdedc02d", func := "assent/assentlaw03.SealEnters", spec := "sealEnters", inPlace := ["(*internal/sync.Mutex).Lock", "internal/race.Disable", "sync/atomic.CompareAndSwapInt32", "internal/race.Enable", "internal/race.Acquire", "(*internal/sync.Mutex).lockSlow", "internal/sync.runtime_canSpin", "internal/sync.runtime_doSpin", "internal/sync.throw", "internal/sync.runtime_nanotime", "internal/sync.runtime_SemacquireMutex", "sync/atomic.AddInt32", "(*internal/sync.Mutex).Unlock", "internal/race.ReleaseMerge", "(*internal/sync.Mutex).unlockSlow", "internal/sync.fatal", "internal/sync.runtime_Semrelease"], named := ["assent/digest.begin", "assent/digest.adds", "assent/assentref02.adds"], plainKeys := false, apart := false, laid := [("assent/assentref02.adds", laid_assent_assentref02_adds), ("assent/digest.adds", laid_assent_digest_adds), ("assent/digest.begin", laid_assent_digest_begin)] }
def SealEntersSaid : Prop := sealEntersRow.holds Tryd.pinned (OpenSpec.ofChange sealEntersSpec)

/-- ITS FALSE NEIGHBOUR: 'it returns false'. Refute it at one input. -/
def sealEntersWrong : ChangeSpec := { name := "sealEnters", fn := fun _ => fun
  | [d] => { results := [.lit (.bool false)], args := [d] }
  | _ => none }
def SealEntersWrongFalsely : Prop := sealEntersRow.holds Tryd.pinned (OpenSpec.ofChange sealEntersWrong)

/-- 'assentlaw03.SealSigns': WHATEVER THE INPUT: true; the input reads as it did. -/
def sealSignsSpec : ChangeSpec := { name := "sealSigns", fn := fun _ => fun
  | [d] => { results := [.lit (.bool true)], args := [d] }
  | _ => none }
def sealSignsRow : OpenClaim := { program := "ytnaadddnbfnahaadoor", sum := "202d97def19559f35594feca6af907326e8f56bc758988aebe7deb7efdedc02d", func := "assent/assentlaw03.SealSigns", spec := "sealSigns", inPlace := ["(*internal/sync.Mutex).Lock", "internal/race.Disable", "sync/atomic.CompareAndSwapInt32", "internal/race.Enable", "internal/race.Acquire", "(*internal/sync.Mutex).lockSlow", "internal/sync.runtime_canSpin", "internal/sync.runtime_doSpin", "internal/sync.throw", "internal/sync.runtime_nanotime", "internal/sync.runtime_SemacquireMutex", "sync/atomic.AddInt32", "(*internal/sync.Mutex).Unlock", "internal/race.ReleaseMerge", "(*internal/sync.Mutex).unlockSlow", "internal/sync.fatal", "internal/sync.runtime_Semrelease"], named := ["assent/digest.begin", "assent/digest.adds", "assent/assentref02.adds"], plainKeys := false, apart := false, laid := [("assent/assentref02.adds", laid_assent_assentref02_adds), ("assent/digest.adds", laid_assent_digest_adds), ("assent/digest.begin", laid_assent_digest_begin)] }
def SealSignsSaid : Prop := sealSignsRow.holds Tryd.pinned (OpenSpec.ofChange sealSignsSpec)

/-- ITS FALSE NEIGHBOUR: 'it returns false'. Refute it at one input. -/
def sealSignsWrong : ChangeSpec := { name := "sealSigns", fn := fun _ => fun
  | [d] => { results := [.lit (.bool false)], args := [d] }
  | _ => none }
def SealSignsWrongFalsely : Prop := sealSignsRow.holds Tryd.pinned (OpenSpec.ofChange sealSignsWrong)

/-- 'assentlaw03.SealChecks': WHATEVER THE INPUT: true; the input reads as it did. -/
def sealChecksSpec : ChangeSpec := { name := "sealChecks", fn := fun _ => fun
  | [d] => { results := [.lit (.bool true)], args := [d] }
  | _ => none }
def sealChecksRow : OpenClaim := { program := "ytnaadddnbfnahaadoor", sum := "202d97def19559f35594feca6af907326e8f56bc758988aebe7deb7efdedc02d", func := "assent/assentlaw03.SealChecks", spec := "sealChecks", inPlace := ["(*internal/sync.Mutex).Lock", "internal/race.Disable", "sync/atomic.CompareAndSwapInt32", "internal/race.Enable", "internal/race.Acquire", "(*internal/sync.Mutex).lockSlow", "internal/sync.runtime_canSpin", "internal/sync.runtime_doSpin", "internal/sync.throw", "internal/sync.runtime_nanotime", "internal/sync.runtime_SemacquireMutex", "sync/atomic.AddInt32", "(*internal/sync.Mutex).Unlock", "internal/race.ReleaseMerge", "(*internal/sync.Mutex).unlockSlow", "internal/sync.fatal", "internal/sync.runtime_Semrelease"], named := ["assent/digest.begin", "assent/digest.adds", "assent/assentref02.adds"], plainKeys := false, apart := false, laid := [("assent/assentref02.adds", laid_assent_assentref02_adds), ("assent/digest.adds", laid_assent_digest_adds), ("assent/digest.begin", laid_assent_digest_begin)] }
def SealChecksSaid : Prop := sealChecksRow.holds Tryd.pinned (OpenSpec.ofChange sealChecksSpec)

/-- ITS FALSE NEIGHBOUR: 'it returns false'. Refute it at one input. -/
def sealChecksWrong : ChangeSpec := { name := "sealChecks", fn := fun _ => fun
  | [d] => { results := [.lit (.bool false)], args := [d] }
  | _ => none }
def SealChecksWrongFalsely : Prop := sealChecksRow.holds Tryd.pinned (OpenSpec.ofChange sealChecksWrong)

/-- 'assentlaw03.SealTells': WHATEVER THE INPUT: true; the input reads as it did. -/
def sealTellsSpec : ChangeSpec := { name := "sealTells", fn := fun _ => fun
  | [d] => { results := [.lit (.bool true)], args := [d] }
  | _ => none }
def sealTellsRow : OpenClaim := { program := "ytnaadddnbfnahaadoor", sum := "202d97def19559f35594feca6af907326e8f56bc758988aebe7deb7efdedc02d", func := "assent/assentlaw03.SealTells", spec := "sealTells", inPlace := ["(*internal/sync.Mutex).Lock", "internal/race.Disable", "sync/atomic.CompareAndSwapInt32", "internal/race.Enable", "internal/race.Acquire", "(*internal/sync.Mutex).lockSlow", "internal/sync.runtime_canSpin", "internal/sync.runtime_doSpin", "internal/sync.throw", "internal/sync.runtime_nanotime", "internal/sync.runtime_SemacquireMutex", "sync/atomic.AddInt32", "(*internal/sync.Mutex).Unlock", "internal/race.ReleaseMerge", "(*internal/sync.Mutex).unlockSlow", "internal/sync.fatal", "internal/sync.runtime_Semrelease"], named := ["assent/digest.begin", "assent/digest.adds", "assent/assentref02.adds"], plainKeys := false, apart := false, laid := [("assent/assentref02.adds", laid_assent_assentref02_adds), ("assent/digest.adds", laid_assent_digest_adds), ("assent/digest.begin", laid_assent_digest_begin)] }
def SealTellsSaid : Prop := sealTellsRow.holds Tryd.pinned (OpenSpec.ofChange sealTellsSpec)

/-- ITS FALSE NEIGHBOUR: 'it returns false'. Refute it at one input. -/
def sealTellsWrong : ChangeSpec := { name := "sealTells", fn := fun _ => fun
  | [d] => { results := [.lit (.bool false)], args := [d] }
  | _ => none }
def SealTellsWrongFalsely : Prop := sealTellsRow.holds Tryd.pinned (OpenSpec.ofChange sealTellsWrong)

/-- 'assentlaw03.SealAll': WHATEVER THE INPUT: true; the input reads as it did. -/
def sealAllSpec : ChangeSpec := { name := "sealAll", fn := fun _ => fun
  | [d] => { results := [.lit (.bool true)], args := [d] }
  | _ => none }
def sealAllRow : OpenClaim := { program := "ytnaadddnbfnahaadoor", sum := "202d97def19559f35594feca6af907326e8f56bc758988aebe7deb7efdedc02d", func := "assent/assentlaw03.SealAll", spec := "sealAll", inPlace := ["(*internal/sync.Mutex).Lock", "internal/race.Disable", "sync/atomic.CompareAndSwapInt32", "internal/race.Enable", "internal/race.Acquire", "(*internal/sync.Mutex).lockSlow", "internal/sync.runtime_canSpin", "internal/sync.runtime_doSpin", "internal/sync.throw", "internal/sync.runtime_nanotime", "internal/sync.runtime_SemacquireMutex", "sync/atomic.AddInt32", "(*internal/sync.Mutex).Unlock", "internal/race.ReleaseMerge", "(*internal/sync.Mutex).unlockSlow", "internal/sync.fatal", "internal/sync.runtime_Semrelease"], named := ["assent/digest.begin", "assent/digest.adds", "assent/assentref02.adds"], plainKeys := false, apart := false, laid := [("assent/assentref02.adds", laid_assent_assentref02_adds), ("assent/digest.adds", laid_assent_digest_adds), ("assent/digest.begin", laid_assent_digest_begin)] }
def SealAllSaid : Prop := sealAllRow.holds Tryd.pinned (OpenSpec.ofChange sealAllSpec)

/-- ITS FALSE NEIGHBOUR: 'it returns false'. Refute it at one input. -/
def sealAllWrong : ChangeSpec := { name := "sealAll", fn := fun _ => fun
  | [d] => { results := [.lit (.bool false)], args := [d] }
  | _ => none }
def SealAllWrongFalsely : Prop := sealAllRow.holds Tryd.pinned (OpenSpec.ofChange sealAllWrong)

/-- 'assentlaw03.SealOwn': WHATEVER THE INPUT: true; the input reads as it did. -/
def sealOwnSpec : ChangeSpec := { name := "sealOwn", fn := fun _ => fun
  | [d] => { results := [.lit (.bool true)], args := [d] }
  | _ => none }
def sealOwnRow : OpenClaim := { program := "ytnaadddnbfnahaadoor", sum := "202d97def19559f35594feca6af907326e8f56bc758988aebe7deb7efdedc02d", func := "assent/assentlaw03.SealOwn", spec := "sealOwn", inPlace := ["(*internal/sync.Mutex).Lock", "internal/race.Disable", "sync/atomic.CompareAndSwapInt32", "internal/race.Enable", "internal/race.Acquire", "(*internal/sync.Mutex).lockSlow", "internal/sync.runtime_canSpin", "internal/sync.runtime_doSpin", "internal/sync.throw", "internal/sync.runtime_nanotime", "internal/sync.runtime_SemacquireMutex", "sync/atomic.AddInt32", "(*internal/sync.Mutex).Unlock", "internal/race.ReleaseMerge", "(*internal/sync.Mutex).unlockSlow", "internal/sync.fatal", "internal/sync.runtime_Semrelease"], named := ["assent/digest.begin", "assent/digest.adds", "assent/assentref02.adds"], plainKeys := false, apart := false, laid := [("assent/assentref02.adds", laid_assent_assentref02_adds), ("assent/digest.adds", laid_assent_digest_adds), ("assent/digest.begin", laid_assent_digest_begin)] }
def SealOwnSaid : Prop := sealOwnRow.holds Tryd.pinned (OpenSpec.ofChange sealOwnSpec)

/-- ITS FALSE NEIGHBOUR: 'it returns false'. Refute it at one input. -/
def sealOwnWrong : ChangeSpec := { name := "sealOwn", fn := fun _ => fun
  | [d] => { results := [.lit (.bool false)], args := [d] }
  | _ => none }
def SealOwnWrongFalsely : Prop := sealOwnRow.holds Tryd.pinned (OpenSpec.ofChange sealOwnWrong)

/-- 'assentlaw03.SealNil': WHATEVER THE INPUT: true; the input reads as it did. -/
def sealNilSpec : ChangeSpec := { name := "sealNil", fn := fun _ => fun
  | [d1, d2, d3] => { results := [.lit (.bool true)], args := [d1, d2, d3] }
  | _ => none }
def sealNilRow : OpenClaim := { program := "ytnaadddnbfnahaadoor", sum := "202d97def19559f35594feca6af907326e8f56bc758988aebe7deb7efdedc02d", func := "assent/assentlaw03.SealNil", spec := "sealNil", inPlace := ["(*internal/sync.Mutex).Lock", "internal/race.Disable", "sync/atomic.CompareAndSwapInt32", "internal/race.Enable", "internal/race.Acquire", "(*internal/sync.Mutex).lockSlow", "internal/sync.runtime_canSpin", "internal/sync.runtime_doSpin", "internal/sync.throw", "internal/sync.runtime_nanotime", "internal/sync.runtime_SemacquireMutex", "sync/atomic.AddInt32", "(*internal/sync.Mutex).Unlock", "internal/race.ReleaseMerge", "(*internal/sync.Mutex).unlockSlow", "internal/sync.fatal", "internal/sync.runtime_Semrelease"], named := ["assent/digest.begin", "assent/digest.adds"], plainKeys := false, apart := false, laid := [("assent/digest.adds", laid_assent_digest_adds), ("assent/digest.begin", laid_assent_digest_begin)] }
def SealNilSaid : Prop := sealNilRow.holds Tryd.pinned (OpenSpec.ofChange sealNilSpec)

/-- ITS FALSE NEIGHBOUR: 'it returns false'. Refute it at one input. -/
def sealNilWrong : ChangeSpec := { name := "sealNil", fn := fun _ => fun
  | [d1, d2, d3] => { results := [.lit (.bool false)], args := [d1, d2, d3] }
  | _ => none }
def SealNilWrongFalsely : Prop := sealNilRow.holds Tryd.pinned (OpenSpec.ofChange sealNilWrong)

/- THE SECOND FORM. 'bulk': how many values and letters a reading holds, each counted each time it is reached (what is shared counts as often as it is met; a slice's spare places count too). A statement '..UptoSaid' is the law's where the arguments, and the package variables that the reading takes, are together of bulk at most 1048576: NARROWER than '..Said'. Prove '..Said' where nothing that the law and all that it calls make is longer than what came in: it says more and counts as full. Else prove '..UptoSaid'. A law counts once. -/
mutual
def uptoBulk {H : Type} : DataW H → Nat
  | .lit (.string bytes) => bytes.length + 1
  | .lit _ => 1
  | .nil => 1
  | .ptr d => uptoBulk d + 1
  | .slice elems spare => uptoBulkAll elems + uptoBulkAll spare + 1
  | .agg parts => uptoBulkAll parts + 1
  | .iface _ d => uptoBulk d + 1
  | .map entries => uptoBulkEntries entries + 1
  | .held _ => 1
def uptoBulkAll {H : Type} : List (DataW H) → Nat
  | [] => 0
  | d :: r => uptoBulk d + uptoBulkAll r
def uptoBulkEntries {H : Type} : List (Lit × DataW H) → Nat
  | [] => 0
  | x :: r => uptoBulkEntry x + uptoBulkEntries r
def uptoBulkEntry {H : Type} : Lit × DataW H → Nat
  | (.string bytes, d) => bytes.length + uptoBulk d + 1
  | (_, d) => uptoBulk d + 1
 end
def uptoSmall : (H : Type) → List (DataW H) → Bool := fun _ ds => decide (uptoBulkAll ds ≤ 1048576)
def OpenSpec.upto (s : _root_.Go.ChangeSpec) : _root_.Go.OpenSpec := { _root_.Go.OpenSpec.ofChange s with cond := some uptoSmall }

/-- 'assentlaw03.SealTurns', WHERE WHAT IT READS IS OF BULK AT MOST 1048576: true; the input reads as it did. -/
def sealTurnsUptoRow : OpenClaim := { program := "ytnaadddnbfnahaadoor", sum := "202d97def19559f35594feca6af907326e8f56bc758988aebe7deb7efdedc02d", func := "assent/assentlaw03.SealTurns", spec := "sealTurns", inPlace := ["(*internal/sync.Mutex).Lock", "internal/race.Disable", "sync/atomic.CompareAndSwapInt32", "internal/race.Enable", "internal/race.Acquire", "(*internal/sync.Mutex).lockSlow", "internal/sync.runtime_canSpin", "internal/sync.runtime_doSpin", "internal/sync.throw", "internal/sync.runtime_nanotime", "internal/sync.runtime_SemacquireMutex", "sync/atomic.AddInt32", "(*internal/sync.Mutex).Unlock", "internal/race.ReleaseMerge", "(*internal/sync.Mutex).unlockSlow", "internal/sync.fatal", "internal/sync.runtime_Semrelease"], named := ["assent/digest.begin", "assent/digest.adds", "assent/assentref02.adds"], plainKeys := false, apart := false, laid := [("assent/assentref02.adds", laid_assent_assentref02_adds), ("assent/digest.adds", laid_assent_digest_adds), ("assent/digest.begin", laid_assent_digest_begin)], narrowed := true }
def SealTurnsUptoSaid : Prop := sealTurnsUptoRow.holds Tryd.pinned (OpenSpec.upto sealTurnsSpec)

/-- 'assentlaw03.SealTruth', WHERE WHAT IT READS IS OF BULK AT MOST 1048576: true; the input reads as it did. -/
def sealTruthUptoRow : OpenClaim := { program := "ytnaadddnbfnahaadoor", sum := "202d97def19559f35594feca6af907326e8f56bc758988aebe7deb7efdedc02d", func := "assent/assentlaw03.SealTruth", spec := "sealTruth", inPlace := ["(*internal/sync.Mutex).Lock", "internal/race.Disable", "sync/atomic.CompareAndSwapInt32", "internal/race.Enable", "internal/race.Acquire", "(*internal/sync.Mutex).lockSlow", "internal/sync.runtime_canSpin", "internal/sync.runtime_doSpin", "internal/sync.throw", "internal/sync.runtime_nanotime", "internal/sync.runtime_SemacquireMutex", "sync/atomic.AddInt32", "(*internal/sync.Mutex).Unlock", "internal/race.ReleaseMerge", "(*internal/sync.Mutex).unlockSlow", "internal/sync.fatal", "internal/sync.runtime_Semrelease"], named := ["assent/digest.begin", "assent/digest.adds"], plainKeys := false, apart := false, laid := [("assent/digest.adds", laid_assent_digest_adds), ("assent/digest.begin", laid_assent_digest_begin)], narrowed := true }
def SealTruthUptoSaid : Prop := sealTruthUptoRow.holds Tryd.pinned (OpenSpec.upto sealTruthSpec)

/-- 'assentlaw03.SealLimits', WHERE WHAT IT READS IS OF BULK AT MOST 1048576: true; the input reads as it did. -/
def sealLimitsUptoRow : OpenClaim := { program := "ytnaadddnbfnahaadoor", sum := "202d97def19559f35594feca6af907326e8f56bc758988aebe7deb7efdedc02d", func := "assent/assentlaw03.SealLimits", spec := "sealLimits", inPlace := ["(*internal/sync.Mutex).Lock", "internal/race.Disable", "sync/atomic.CompareAndSwapInt32", "internal/race.Enable", "internal/race.Acquire", "(*internal/sync.Mutex).lockSlow", "internal/sync.runtime_canSpin", "internal/sync.runtime_doSpin", "internal/sync.throw", "internal/sync.runtime_nanotime", "internal/sync.runtime_SemacquireMutex", "sync/atomic.AddInt32", "(*internal/sync.Mutex).Unlock", "internal/race.ReleaseMerge", "(*internal/sync.Mutex).unlockSlow", "internal/sync.fatal", "internal/sync.runtime_Semrelease"], named := ["assent/digest.begin", "assent/digest.adds"], plainKeys := false, apart := false, laid := [("assent/digest.adds", laid_assent_digest_adds), ("assent/digest.begin", laid_assent_digest_begin)], narrowed := true }
def SealLimitsUptoSaid : Prop := sealLimitsUptoRow.holds Tryd.pinned (OpenSpec.upto sealLimitsSpec)

/-- 'assentlaw03.SealStrange', WHERE WHAT IT READS IS OF BULK AT MOST 1048576: true; the input reads as it did. -/
def sealStrangeUptoRow : OpenClaim := { program := "ytnaadddnbfnahaadoor", sum := "202d97def19559f35594feca6af907326e8f56bc758988aebe7deb7efdedc02d", func := "assent/assentlaw03.SealStrange", spec := "sealStrange", inPlace := ["(*internal/sync.Mutex).Lock", "internal/race.Disable", "sync/atomic.CompareAndSwapInt32", "internal/race.Enable", "internal/race.Acquire", "(*internal/sync.Mutex).lockSlow", "internal/sync.runtime_canSpin", "internal/sync.runtime_doSpin", "internal/sync.throw", "internal/sync.runtime_nanotime", "internal/sync.runtime_SemacquireMutex", "sync/atomic.AddInt32", "(*internal/sync.Mutex).Unlock", "internal/race.ReleaseMerge", "(*internal/sync.Mutex).unlockSlow", "internal/sync.fatal", "internal/sync.runtime_Semrelease"], named := ["assent/digest.begin", "assent/digest.adds"], plainKeys := false, apart := false, laid := [("assent/digest.adds", laid_assent_digest_adds), ("assent/digest.begin", laid_assent_digest_begin)], narrowed := true }
def SealStrangeUptoSaid : Prop := sealStrangeUptoRow.holds Tryd.pinned (OpenSpec.upto sealStrangeSpec)

/-- 'assentlaw03.SealOnce', WHERE WHAT IT READS IS OF BULK AT MOST 1048576: true; the input reads as it did. -/
def sealOnceUptoRow : OpenClaim := { program := "ytnaadddnbfnahaadoor", sum := "202d97def19559f35594feca6af907326e8f56bc758988aebe7deb7efdedc02d", func := "assent/assentlaw03.SealOnce", spec := "sealOnce", inPlace := ["(*internal/sync.Mutex).Lock", "internal/race.Disable", "sync/atomic.CompareAndSwapInt32", "internal/race.Enable", "internal/race.Acquire", "(*internal/sync.Mutex).lockSlow", "internal/sync.runtime_canSpin", "internal/sync.runtime_doSpin", "internal/sync.throw", "internal/sync.runtime_nanotime", "internal/sync.runtime_SemacquireMutex", "sync/atomic.AddInt32", "(*internal/sync.Mutex).Unlock", "internal/race.ReleaseMerge", "(*internal/sync.Mutex).unlockSlow", "internal/sync.fatal", "internal/sync.runtime_Semrelease"], named := ["assent/digest.begin", "assent/digest.adds"], plainKeys := false, apart := false, laid := [("assent/digest.adds", laid_assent_digest_adds), ("assent/digest.begin", laid_assent_digest_begin)], narrowed := true }
def SealOnceUptoSaid : Prop := sealOnceUptoRow.holds Tryd.pinned (OpenSpec.upto sealOnceSpec)

/-- 'assentlaw03.SealEnters', WHERE WHAT IT READS IS OF BULK AT MOST 1048576: true; the input reads as it did. -/
def sealEntersUptoRow : OpenClaim := { program := "ytnaadddnbfnahaadoor", sum := "202d97def19559f35594feca6af907326e8f56bc758988aebe7deb7efdedc02d", func := "assent/assentlaw03.SealEnters", spec := "sealEnters", inPlace := ["(*internal/sync.Mutex).Lock", "internal/race.Disable", "sync/atomic.CompareAndSwapInt32", "internal/race.Enable", "internal/race.Acquire", "(*internal/sync.Mutex).lockSlow", "internal/sync.runtime_canSpin", "internal/sync.runtime_doSpin", "internal/sync.throw", "internal/sync.runtime_nanotime", "internal/sync.runtime_SemacquireMutex", "sync/atomic.AddInt32", "(*internal/sync.Mutex).Unlock", "internal/race.ReleaseMerge", "(*internal/sync.Mutex).unlockSlow", "internal/sync.fatal", "internal/sync.runtime_Semrelease"], named := ["assent/digest.begin", "assent/digest.adds", "assent/assentref02.adds"], plainKeys := false, apart := false, laid := [("assent/assentref02.adds", laid_assent_assentref02_adds), ("assent/digest.adds", laid_assent_digest_adds), ("assent/digest.begin", laid_assent_digest_begin)], narrowed := true }
def SealEntersUptoSaid : Prop := sealEntersUptoRow.holds Tryd.pinned (OpenSpec.upto sealEntersSpec)

/-- 'assentlaw03.SealSigns', WHERE WHAT IT READS IS OF BULK AT MOST 1048576: true; the input reads as it did. -/
def sealSignsUptoRow : OpenClaim := { program := "ytnaadddnbfnahaadoor", sum := "202d97def19559f35594feca6af907326e8f56bc758988aebe7deb7efdedc02d", func := "assent/assentlaw03.SealSigns", spec := "sealSigns", inPlace := ["(*internal/sync.Mutex).Lock", "internal/race.Disable", "sync/atomic.CompareAndSwapInt32", "internal/race.Enable", "internal/race.Acquire", "(*internal/sync.Mutex).lockSlow", "internal/sync.runtime_canSpin", "internal/sync.runtime_doSpin", "internal/sync.throw", "internal/sync.runtime_nanotime", "internal/sync.runtime_SemacquireMutex", "sync/atomic.AddInt32", "(*internal/sync.Mutex).Unlock", "internal/race.ReleaseMerge", "(*internal/sync.Mutex).unlockSlow", "internal/sync.fatal", "internal/sync.runtime_Semrelease"], named := ["assent/digest.begin", "assent/digest.adds", "assent/assentref02.adds"], plainKeys := false, apart := false, laid := [("assent/assentref02.adds", laid_assent_assentref02_adds), ("assent/digest.adds", laid_assent_digest_adds), ("assent/digest.begin", laid_assent_digest_begin)], narrowed := true }
def SealSignsUptoSaid : Prop := sealSignsUptoRow.holds Tryd.pinned (OpenSpec.upto sealSignsSpec)

/-- 'assentlaw03.SealChecks', WHERE WHAT IT READS IS OF BULK AT MOST 1048576: true; the input reads as it did. -/
def sealChecksUptoRow : OpenClaim := { program := "ytnaadddnbfnahaadoor", sum := "202d97def19559f35594feca6af907326e8f56bc758988aebe7deb7efdedc02d", func := "assent/assentlaw03.SealChecks", spec := "sealChecks", inPlace := ["(*internal/sync.Mutex).Lock", "internal/race.Disable", "sync/atomic.CompareAndSwapInt32", "internal/race.Enable", "internal/race.Acquire", "(*internal/sync.Mutex).lockSlow", "internal/sync.runtime_canSpin", "internal/sync.runtime_doSpin", "internal/sync.throw", "internal/sync.runtime_nanotime", "internal/sync.runtime_SemacquireMutex", "sync/atomic.AddInt32", "(*internal/sync.Mutex).Unlock", "internal/race.ReleaseMerge", "(*internal/sync.Mutex).unlockSlow", "internal/sync.fatal", "internal/sync.runtime_Semrelease"], named := ["assent/digest.begin", "assent/digest.adds", "assent/assentref02.adds"], plainKeys := false, apart := false, laid := [("assent/assentref02.adds", laid_assent_assentref02_adds), ("assent/digest.adds", laid_assent_digest_adds), ("assent/digest.begin", laid_assent_digest_begin)], narrowed := true }
def SealChecksUptoSaid : Prop := sealChecksUptoRow.holds Tryd.pinned (OpenSpec.upto sealChecksSpec)

/-- 'assentlaw03.SealTells', WHERE WHAT IT READS IS OF BULK AT MOST 1048576: true; the input reads as it did. -/
def sealTellsUptoRow : OpenClaim := { program := "ytnaadddnbfnahaadoor", sum := "202d97def19559f35594feca6af907326e8f56bc758988aebe7deb7efdedc02d", func := "assent/assentlaw03.SealTells", spec := "sealTells", inPlace := ["(*internal/sync.Mutex).Lock", "internal/race.Disable", "sync/atomic.CompareAndSwapInt32", "internal/race.Enable", "internal/race.Acquire", "(*internal/sync.Mutex).lockSlow", "internal/sync.runtime_canSpin", "internal/sync.runtime_doSpin", "internal/sync.throw", "internal/sync.runtime_nanotime", "internal/sync.runtime_SemacquireMutex", "sync/atomic.AddInt32", "(*internal/sync.Mutex).Unlock", "internal/race.ReleaseMerge", "(*internal/sync.Mutex).unlockSlow", "internal/sync.fatal", "internal/sync.runtime_Semrelease"], named := ["assent/digest.begin", "assent/digest.adds", "assent/assentref02.adds"], plainKeys := false, apart := false, laid := [("assent/assentref02.adds", laid_assent_assentref02_adds), ("assent/digest.adds", laid_assent_digest_adds), ("assent/digest.begin", laid_assent_digest_begin)], narrowed := true }
def SealTellsUptoSaid : Prop := sealTellsUptoRow.holds Tryd.pinned (OpenSpec.upto sealTellsSpec)

/-- 'assentlaw03.SealAll', WHERE WHAT IT READS IS OF BULK AT MOST 1048576: true; the input reads as it did. -/
def sealAllUptoRow : OpenClaim := { program := "ytnaadddnbfnahaadoor", sum := "202d97def19559f35594feca6af907326e8f56bc758988aebe7deb7efdedc02d", func := "assent/assentlaw03.SealAll", spec := "sealAll", inPlace := ["(*internal/sync.Mutex).Lock", "internal/race.Disable", "sync/atomic.CompareAndSwapInt32", "internal/race.Enable", "internal/race.Acquire", "(*internal/sync.Mutex).lockSlow", "internal/sync.runtime_canSpin", "internal/sync.runtime_doSpin", "internal/sync.throw", "internal/sync.runtime_nanotime", "internal/sync.runtime_SemacquireMutex", "sync/atomic.AddInt32", "(*internal/sync.Mutex).Unlock", "internal/race.ReleaseMerge", "(*internal/sync.Mutex).unlockSlow", "internal/sync.fatal", "internal/sync.runtime_Semrelease"], named := ["assent/digest.begin", "assent/digest.adds", "assent/assentref02.adds"], plainKeys := false, apart := false, laid := [("assent/assentref02.adds", laid_assent_assentref02_adds), ("assent/digest.adds", laid_assent_digest_adds), ("assent/digest.begin", laid_assent_digest_begin)], narrowed := true }
def SealAllUptoSaid : Prop := sealAllUptoRow.holds Tryd.pinned (OpenSpec.upto sealAllSpec)

/-- 'assentlaw03.SealOwn', WHERE WHAT IT READS IS OF BULK AT MOST 1048576: true; the input reads as it did. -/
def sealOwnUptoRow : OpenClaim := { program := "ytnaadddnbfnahaadoor", sum := "202d97def19559f35594feca6af907326e8f56bc758988aebe7deb7efdedc02d", func := "assent/assentlaw03.SealOwn", spec := "sealOwn", inPlace := ["(*internal/sync.Mutex).Lock", "internal/race.Disable", "sync/atomic.CompareAndSwapInt32", "internal/race.Enable", "internal/race.Acquire", "(*internal/sync.Mutex).lockSlow", "internal/sync.runtime_canSpin", "internal/sync.runtime_doSpin", "internal/sync.throw", "internal/sync.runtime_nanotime", "internal/sync.runtime_SemacquireMutex", "sync/atomic.AddInt32", "(*internal/sync.Mutex).Unlock", "internal/race.ReleaseMerge", "(*internal/sync.Mutex).unlockSlow", "internal/sync.fatal", "internal/sync.runtime_Semrelease"], named := ["assent/digest.begin", "assent/digest.adds", "assent/assentref02.adds"], plainKeys := false, apart := false, laid := [("assent/assentref02.adds", laid_assent_assentref02_adds), ("assent/digest.adds", laid_assent_digest_adds), ("assent/digest.begin", laid_assent_digest_begin)], narrowed := true }
def SealOwnUptoSaid : Prop := sealOwnUptoRow.holds Tryd.pinned (OpenSpec.upto sealOwnSpec)

/-- 'assentlaw03.SealNil', WHERE WHAT IT READS IS OF BULK AT MOST 1048576: true; the input reads as it did. -/
def sealNilUptoRow : OpenClaim := { program := "ytnaadddnbfnahaadoor", sum := "202d97def19559f35594feca6af907326e8f56bc758988aebe7deb7efdedc02d", func := "assent/assentlaw03.SealNil", spec := "sealNil", inPlace := ["(*internal/sync.Mutex).Lock", "internal/race.Disable", "sync/atomic.CompareAndSwapInt32", "internal/race.Enable", "internal/race.Acquire", "(*internal/sync.Mutex).lockSlow", "internal/sync.runtime_canSpin", "internal/sync.runtime_doSpin", "internal/sync.throw", "internal/sync.runtime_nanotime", "internal/sync.runtime_SemacquireMutex", "sync/atomic.AddInt32", "(*internal/sync.Mutex).Unlock", "internal/race.ReleaseMerge", "(*internal/sync.Mutex).unlockSlow", "internal/sync.fatal", "internal/sync.runtime_Semrelease"], named := ["assent/digest.begin", "assent/digest.adds"], plainKeys := false, apart := false, laid := [("assent/digest.adds", laid_assent_digest_adds), ("assent/digest.begin", laid_assent_digest_begin)], narrowed := true }
def SealNilUptoSaid : Prop := sealNilUptoRow.holds Tryd.pinned (OpenSpec.upto sealNilSpec)

end Rows
end Go.Proofs.YtnaadddnbfnahaaDoor
