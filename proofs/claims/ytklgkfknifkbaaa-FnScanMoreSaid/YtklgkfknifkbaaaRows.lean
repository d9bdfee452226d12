/-
  No cell of these rows narrows 'for every input' (looked for: loops, veiled, ifaces, maps, wideKeys, modest, calm, conditions, laid).
  DERIVED. THE GIVEN ROWS OF THIS SEAT. 22 by the template 'for every input the law returns true; each argument reads behind the call as it read before'; 0 by the template 'total and deterministic' (their statements: YtklgkfknifkbaaaTotals.lean).
  GIVEN WITH THE SEED: the statements are not yours to turn. If you find one false, say at which input.
  Laid BY PROGRAM, IN A SANDBOX (cutbox-rows.mjs): the forced cells as the released guide's own fill.sh prints them over the translation 45599d6ce6b47d2f… (all of the seat's roots in one cut). By AI agents, Wed Nov 11 2026. No macro, syntax, notation, axiom, sorry.
-/
import Derived.Test.YtklgkfknifkbaaaChecked
import GoSem.Claim
import GoSem.ClaimJoined
import GoSem.ClaimMapViews
import Derived.JoinedTies
import Derived.KernelRfl
namespace Go.Proofs.Ytklgkfknifkbaaa
/- THE CELL 'sum', in the pinned program and in every row, IS THE sha256 OF THE DUMP (.gsa) THAT YtklgkfknifkbaaaProg.lean LOADS. Nothing in Lean hashes anything: it is a label: what it is worth is what the hold of that sum in a sandbox is worth. -/
noncomputable def Try.pinned : Pinned := { name := "ytklgkfknifkbaaa", sum := "45599d6ce6b47d2f101db9188a1043e06ecc819ee6208addee83431a3b67d153", checked := Try.checked }
namespace Rows
def none {H : Type} : Left H := { results := [], args := [] }

/-- 'laws.FnExactConstants': WHATEVER THE INPUT: true; the input reads as it did. -/
def fnExactConstantsSpec : ChangeSpec := { name := "fnExactConstants", fn := fun _ => fun
  | [] => { results := [.lit (.bool true)], args := [] }
  | _ => none }
def fnExactConstantsRow : OpenClaim := { program := "ytklgkfknifkbaaa", sum := "45599d6ce6b47d2f101db9188a1043e06ecc819ee6208addee83431a3b67d153", func := "loop.example/atomicpush/laws.FnExactConstants", spec := "fnExactConstants", apart := false }
def FnExactConstantsSaid : Prop := fnExactConstantsRow.holds Try.pinned (OpenSpec.ofChange fnExactConstantsSpec)

/-- ITS FALSE NEIGHBOUR: 'it returns false'. Refute it at one input. -/
def fnExactConstantsWrong : ChangeSpec := { name := "fnExactConstants", fn := fun _ => fun
  | [] => { results := [.lit (.bool false)], args := [] }
  | _ => none }
def FnExactConstantsWrongFalsely : Prop := fnExactConstantsRow.holds Try.pinned (OpenSpec.ofChange fnExactConstantsWrong)

/-- 'laws.FnExactDiskValid': WHATEVER THE INPUT: true; the input reads as it did. -/
def fnExactDiskValidSpec : ChangeSpec := { name := "fnExactDiskValid", fn := fun _ => fun
  | [d] => { results := [.lit (.bool true)], args := [d] }
  | _ => none }
def fnExactDiskValidRow : OpenClaim := { program := "ytklgkfknifkbaaa", sum := "45599d6ce6b47d2f101db9188a1043e06ecc819ee6208addee83431a3b67d153", func := "loop.example/atomicpush/laws.FnExactDiskValid", spec := "fnExactDiskValid", apart := false }
def FnExactDiskValidSaid : Prop := fnExactDiskValidRow.holds Try.pinned (OpenSpec.ofChange fnExactDiskValidSpec)

/-- ITS FALSE NEIGHBOUR: 'it returns false'. Refute it at one input. -/
def fnExactDiskValidWrong : ChangeSpec := { name := "fnExactDiskValid", fn := fun _ => fun
  | [d] => { results := [.lit (.bool false)], args := [d] }
  | _ => none }
def FnExactDiskValidWrongFalsely : Prop := fnExactDiskValidRow.holds Try.pinned (OpenSpec.ofChange fnExactDiskValidWrong)

/-- 'laws.FnExactLogFrame': WHATEVER THE INPUT: true; the input reads as it did. -/
def fnExactLogFrameSpec : ChangeSpec := { name := "fnExactLogFrame", fn := fun _ => fun
  | [d] => { results := [.lit (.bool true)], args := [d] }
  | _ => none }
def fnExactLogFrameRow : OpenClaim := { program := "ytklgkfknifkbaaa", sum := "45599d6ce6b47d2f101db9188a1043e06ecc819ee6208addee83431a3b67d153", func := "loop.example/atomicpush/laws.FnExactLogFrame", spec := "fnExactLogFrame", apart := false }
def FnExactLogFrameSaid : Prop := fnExactLogFrameRow.holds Try.pinned (OpenSpec.ofChange fnExactLogFrameSpec)

/-- ITS FALSE NEIGHBOUR: 'it returns false'. Refute it at one input. -/
def fnExactLogFrameWrong : ChangeSpec := { name := "fnExactLogFrame", fn := fun _ => fun
  | [d] => { results := [.lit (.bool false)], args := [d] }
  | _ => none }
def FnExactLogFrameWrongFalsely : Prop := fnExactLogFrameRow.holds Try.pinned (OpenSpec.ofChange fnExactLogFrameWrong)

/-- 'laws.FnExactLogSync': WHATEVER THE INPUT: true; the input reads as it did. -/
def fnExactLogSyncSpec : ChangeSpec := { name := "fnExactLogSync", fn := fun _ => fun
  | [d] => { results := [.lit (.bool true)], args := [d] }
  | _ => none }
def fnExactLogSyncRow : OpenClaim := { program := "ytklgkfknifkbaaa", sum := "45599d6ce6b47d2f101db9188a1043e06ecc819ee6208addee83431a3b67d153", func := "loop.example/atomicpush/laws.FnExactLogSync", spec := "fnExactLogSync", apart := false }
def FnExactLogSyncSaid : Prop := fnExactLogSyncRow.holds Try.pinned (OpenSpec.ofChange fnExactLogSyncSpec)

/-- ITS FALSE NEIGHBOUR: 'it returns false'. Refute it at one input. -/
def fnExactLogSyncWrong : ChangeSpec := { name := "fnExactLogSync", fn := fun _ => fun
  | [d] => { results := [.lit (.bool false)], args := [d] }
  | _ => none }
def FnExactLogSyncWrongFalsely : Prop := fnExactLogSyncRow.holds Try.pinned (OpenSpec.ofChange fnExactLogSyncWrong)

/-- 'laws.FnFrameEmpty': WHATEVER THE INPUT: true; the input reads as it did. -/
def fnFrameEmptySpec : ChangeSpec := { name := "fnFrameEmpty", fn := fun _ => fun
  | [d] => { results := [.lit (.bool true)], args := [d] }
  | _ => none }
def fnFrameEmptyRow : OpenClaim := { program := "ytklgkfknifkbaaa", sum := "45599d6ce6b47d2f101db9188a1043e06ecc819ee6208addee83431a3b67d153", func := "loop.example/atomicpush/laws.FnFrameEmpty", spec := "fnFrameEmpty", apart := false }
def FnFrameEmptySaid : Prop := fnFrameEmptyRow.holds Try.pinned (OpenSpec.ofChange fnFrameEmptySpec)

/-- ITS FALSE NEIGHBOUR: 'it returns false'. Refute it at one input. -/
def fnFrameEmptyWrong : ChangeSpec := { name := "fnFrameEmpty", fn := fun _ => fun
  | [d] => { results := [.lit (.bool false)], args := [d] }
  | _ => none }
def FnFrameEmptyWrongFalsely : Prop := fnFrameEmptyRow.holds Try.pinned (OpenSpec.ofChange fnFrameEmptyWrong)

/-- 'laws.FnExactLogAppend': WHATEVER THE INPUT: true; the input reads as it did. -/
def fnExactLogAppendSpec : ChangeSpec := { name := "fnExactLogAppend", fn := fun _ => fun
  | [d1, d2] => { results := [.lit (.bool true)], args := [d1, d2] }
  | _ => none }
def fnExactLogAppendRow : OpenClaim := { program := "ytklgkfknifkbaaa", sum := "45599d6ce6b47d2f101db9188a1043e06ecc819ee6208addee83431a3b67d153", func := "loop.example/atomicpush/laws.FnExactLogAppend", spec := "fnExactLogAppend", apart := false }
def FnExactLogAppendSaid : Prop := fnExactLogAppendRow.holds Try.pinned (OpenSpec.ofChange fnExactLogAppendSpec)

/-- ITS FALSE NEIGHBOUR: 'it returns false'. Refute it at one input. -/
def fnExactLogAppendWrong : ChangeSpec := { name := "fnExactLogAppend", fn := fun _ => fun
  | [d1, d2] => { results := [.lit (.bool false)], args := [d1, d2] }
  | _ => none }
def FnExactLogAppendWrongFalsely : Prop := fnExactLogAppendRow.holds Try.pinned (OpenSpec.ofChange fnExactLogAppendWrong)

/-- 'laws.FnFrameChange': WHATEVER THE INPUT: true; the input reads as it did. -/
def fnFrameChangeSpec : ChangeSpec := { name := "fnFrameChange", fn := fun _ => fun
  | [d1, d2] => { results := [.lit (.bool true)], args := [d1, d2] }
  | _ => none }
def fnFrameChangeRow : OpenClaim := { program := "ytklgkfknifkbaaa", sum := "45599d6ce6b47d2f101db9188a1043e06ecc819ee6208addee83431a3b67d153", func := "loop.example/atomicpush/laws.FnFrameChange", spec := "fnFrameChange", unfollowed := true, recurses := true, apart := false }
def FnFrameChangeSaid : Prop := fnFrameChangeRow.holds Try.pinned (OpenSpec.ofChange fnFrameChangeSpec)

/-- ITS FALSE NEIGHBOUR: 'it returns false'. Refute it at one input. -/
def fnFrameChangeWrong : ChangeSpec := { name := "fnFrameChange", fn := fun _ => fun
  | [d1, d2] => { results := [.lit (.bool false)], args := [d1, d2] }
  | _ => none }
def FnFrameChangeWrongFalsely : Prop := fnFrameChangeRow.holds Try.pinned (OpenSpec.ofChange fnFrameChangeWrong)

/-- 'laws.FnFrameTorn': WHATEVER THE INPUT: true; the input reads as it did. -/
def fnFrameTornSpec : ChangeSpec := { name := "fnFrameTorn", fn := fun _ => fun
  | [d1, d2] => { results := [.lit (.bool true)], args := [d1, d2] }
  | _ => none }
def fnFrameTornRow : OpenClaim := { program := "ytklgkfknifkbaaa", sum := "45599d6ce6b47d2f101db9188a1043e06ecc819ee6208addee83431a3b67d153", func := "loop.example/atomicpush/laws.FnFrameTorn", spec := "fnFrameTorn", unfollowed := true, recurses := true, apart := false }
def FnFrameTornSaid : Prop := fnFrameTornRow.holds Try.pinned (OpenSpec.ofChange fnFrameTornSpec)

/-- ITS FALSE NEIGHBOUR: 'it returns false'. Refute it at one input. -/
def fnFrameTornWrong : ChangeSpec := { name := "fnFrameTorn", fn := fun _ => fun
  | [d1, d2] => { results := [.lit (.bool false)], args := [d1, d2] }
  | _ => none }
def FnFrameTornWrongFalsely : Prop := fnFrameTornRow.holds Try.pinned (OpenSpec.ofChange fnFrameTornWrong)

/-- 'laws.FnExactLogScan': WHATEVER THE INPUT: true; the input reads as it did. -/
def fnExactLogScanSpec : ChangeSpec := { name := "fnExactLogScan", fn := fun _ => fun
  | [d] => { results := [.lit (.bool true)], args := [d] }
  | _ => none }
def fnExactLogScanRow : OpenClaim := { program := "ytklgkfknifkbaaa", sum := "45599d6ce6b47d2f101db9188a1043e06ecc819ee6208addee83431a3b67d153", func := "loop.example/atomicpush/laws.FnExactLogScan", spec := "fnExactLogScan", unfollowed := true, recurses := true, apart := false }
def FnExactLogScanSaid : Prop := fnExactLogScanRow.holds Try.pinned (OpenSpec.ofChange fnExactLogScanSpec)

/-- ITS FALSE NEIGHBOUR: 'it returns false'. Refute it at one input. -/
def fnExactLogScanWrong : ChangeSpec := { name := "fnExactLogScan", fn := fun _ => fun
  | [d] => { results := [.lit (.bool false)], args := [d] }
  | _ => none }
def FnExactLogScanWrongFalsely : Prop := fnExactLogScanRow.holds Try.pinned (OpenSpec.ofChange fnExactLogScanWrong)

/-- 'laws.FnExactLogCrash': WHATEVER THE INPUT: true; the input reads as it did. -/
def fnExactLogCrashSpec : ChangeSpec := { name := "fnExactLogCrash", fn := fun _ => fun
  | [d1, d2] => { results := [.lit (.bool true)], args := [d1, d2] }
  | _ => none }
def fnExactLogCrashRow : OpenClaim := { program := "ytklgkfknifkbaaa", sum := "45599d6ce6b47d2f101db9188a1043e06ecc819ee6208addee83431a3b67d153", func := "loop.example/atomicpush/laws.FnExactLogCrash", spec := "fnExactLogCrash", unfollowed := true, recurses := true, apart := false }
def FnExactLogCrashSaid : Prop := fnExactLogCrashRow.holds Try.pinned (OpenSpec.ofChange fnExactLogCrashSpec)

/-- ITS FALSE NEIGHBOUR: 'it returns false'. Refute it at one input. -/
def fnExactLogCrashWrong : ChangeSpec := { name := "fnExactLogCrash", fn := fun _ => fun
  | [d1, d2] => { results := [.lit (.bool false)], args := [d1, d2] }
  | _ => none }
def FnExactLogCrashWrongFalsely : Prop := fnExactLogCrashRow.holds Try.pinned (OpenSpec.ofChange fnExactLogCrashWrong)

/-- 'laws.FnFrame': WHATEVER THE INPUT: true; the input reads as it did. -/
def fnFrameSpec : ChangeSpec := { name := "fnFrame", fn := fun _ => fun
  | [d] => { results := [.lit (.bool true)], args := [d] }
  | _ => none }
def fnFrameRow : OpenClaim := { program := "ytklgkfknifkbaaa", sum := "45599d6ce6b47d2f101db9188a1043e06ecc819ee6208addee83431a3b67d153", func := "loop.example/atomicpush/laws.FnFrame", spec := "fnFrame", unfollowed := true, recurses := true, apart := false }
def FnFrameSaid : Prop := fnFrameRow.holds Try.pinned (OpenSpec.ofChange fnFrameSpec)

/-- ITS FALSE NEIGHBOUR: 'it returns false'. Refute it at one input. -/
def fnFrameWrong : ChangeSpec := { name := "fnFrame", fn := fun _ => fun
  | [d] => { results := [.lit (.bool false)], args := [d] }
  | _ => none }
def FnFrameWrongFalsely : Prop := fnFrameRow.holds Try.pinned (OpenSpec.ofChange fnFrameWrong)

/-- 'laws.FnAppend': WHATEVER THE INPUT: true; the input reads as it did. -/
def fnAppendSpec : ChangeSpec := { name := "fnAppend", fn := fun _ => fun
  | [d] => { results := [.lit (.bool true)], args := [d] }
  | _ => none }
def fnAppendRow : OpenClaim := { program := "ytklgkfknifkbaaa", sum := "45599d6ce6b47d2f101db9188a1043e06ecc819ee6208addee83431a3b67d153", func := "loop.example/atomicpush/laws.FnAppend", spec := "fnAppend", apart := false }
def FnAppendSaid : Prop := fnAppendRow.holds Try.pinned (OpenSpec.ofChange fnAppendSpec)

/-- ITS FALSE NEIGHBOUR: 'it returns false'. Refute it at one input. -/
def fnAppendWrong : ChangeSpec := { name := "fnAppend", fn := fun _ => fun
  | [d] => { results := [.lit (.bool false)], args := [d] }
  | _ => none }
def FnAppendWrongFalsely : Prop := fnAppendRow.holds Try.pinned (OpenSpec.ofChange fnAppendWrong)

/-- 'laws.FnAppendFull': WHATEVER THE INPUT: true; the input reads as it did. -/
def fnAppendFullSpec : ChangeSpec := { name := "fnAppendFull", fn := fun _ => fun
  | [d] => { results := [.lit (.bool true)], args := [d] }
  | _ => none }
def fnAppendFullRow : OpenClaim := { program := "ytklgkfknifkbaaa", sum := "45599d6ce6b47d2f101db9188a1043e06ecc819ee6208addee83431a3b67d153", func := "loop.example/atomicpush/laws.FnAppendFull", spec := "fnAppendFull", apart := false }
def FnAppendFullSaid : Prop := fnAppendFullRow.holds Try.pinned (OpenSpec.ofChange fnAppendFullSpec)

/-- ITS FALSE NEIGHBOUR: 'it returns false'. Refute it at one input. -/
def fnAppendFullWrong : ChangeSpec := { name := "fnAppendFull", fn := fun _ => fun
  | [d] => { results := [.lit (.bool false)], args := [d] }
  | _ => none }
def FnAppendFullWrongFalsely : Prop := fnAppendFullRow.holds Try.pinned (OpenSpec.ofChange fnAppendFullWrong)

/-- 'laws.FnSync': WHATEVER THE INPUT: true; the input reads as it did. -/
def fnSyncSpec : ChangeSpec := { name := "fnSync", fn := fun _ => fun
  | [d1, d2] => { results := [.lit (.bool true)], args := [d1, d2] }
  | _ => none }
def fnSyncRow : OpenClaim := { program := "ytklgkfknifkbaaa", sum := "45599d6ce6b47d2f101db9188a1043e06ecc819ee6208addee83431a3b67d153", func := "loop.example/atomicpush/laws.FnSync", spec := "fnSync", unfollowed := true, recurses := true, apart := false }
def FnSyncSaid : Prop := fnSyncRow.holds Try.pinned (OpenSpec.ofChange fnSyncSpec)

/-- ITS FALSE NEIGHBOUR: 'it returns false'. Refute it at one input. -/
def fnSyncWrong : ChangeSpec := { name := "fnSync", fn := fun _ => fun
  | [d1, d2] => { results := [.lit (.bool false)], args := [d1, d2] }
  | _ => none }
def FnSyncWrongFalsely : Prop := fnSyncRow.holds Try.pinned (OpenSpec.ofChange fnSyncWrong)

/-- 'laws.FnCrashTwice': WHATEVER THE INPUT: true; the input reads as it did. -/
def fnCrashTwiceSpec : ChangeSpec := { name := "fnCrashTwice", fn := fun _ => fun
  | [d1, d2] => { results := [.lit (.bool true)], args := [d1, d2] }
  | _ => none }
def fnCrashTwiceRow : OpenClaim := { program := "ytklgkfknifkbaaa", sum := "45599d6ce6b47d2f101db9188a1043e06ecc819ee6208addee83431a3b67d153", func := "loop.example/atomicpush/laws.FnCrashTwice", spec := "fnCrashTwice", unfollowed := true, recurses := true, apart := false }
def FnCrashTwiceSaid : Prop := fnCrashTwiceRow.holds Try.pinned (OpenSpec.ofChange fnCrashTwiceSpec)

/-- ITS FALSE NEIGHBOUR: 'it returns false'. Refute it at one input. -/
def fnCrashTwiceWrong : ChangeSpec := { name := "fnCrashTwice", fn := fun _ => fun
  | [d1, d2] => { results := [.lit (.bool false)], args := [d1, d2] }
  | _ => none }
def FnCrashTwiceWrongFalsely : Prop := fnCrashTwiceRow.holds Try.pinned (OpenSpec.ofChange fnCrashTwiceWrong)

/-- 'laws.FnScanAgain': WHATEVER THE INPUT: true; the input reads as it did. -/
def fnScanAgainSpec : ChangeSpec := { name := "fnScanAgain", fn := fun _ => fun
  | [d] => { results := [.lit (.bool true)], args := [d] }
  | _ => none }
def fnScanAgainRow : OpenClaim := { program := "ytklgkfknifkbaaa", sum := "45599d6ce6b47d2f101db9188a1043e06ecc819ee6208addee83431a3b67d153", func := "loop.example/atomicpush/laws.FnScanAgain", spec := "fnScanAgain", unfollowed := true, recurses := true, apart := false }
def FnScanAgainSaid : Prop := fnScanAgainRow.holds Try.pinned (OpenSpec.ofChange fnScanAgainSpec)

/-- ITS FALSE NEIGHBOUR: 'it returns false'. Refute it at one input. -/
def fnScanAgainWrong : ChangeSpec := { name := "fnScanAgain", fn := fun _ => fun
  | [d] => { results := [.lit (.bool false)], args := [d] }
  | _ => none }
def FnScanAgainWrongFalsely : Prop := fnScanAgainRow.holds Try.pinned (OpenSpec.ofChange fnScanAgainWrong)

/-- 'laws.FnScanPart': WHATEVER THE INPUT: true; the input reads as it did. -/
def fnScanPartSpec : ChangeSpec := { name := "fnScanPart", fn := fun _ => fun
  | [d1, d2] => { results := [.lit (.bool true)], args := [d1, d2] }
  | _ => none }
def fnScanPartRow : OpenClaim := { program := "ytklgkfknifkbaaa", sum := "45599d6ce6b47d2f101db9188a1043e06ecc819ee6208addee83431a3b67d153", func := "loop.example/atomicpush/laws.FnScanPart", spec := "fnScanPart", unfollowed := true, recurses := true, apart := false }
def FnScanPartSaid : Prop := fnScanPartRow.holds Try.pinned (OpenSpec.ofChange fnScanPartSpec)

/-- ITS FALSE NEIGHBOUR: 'it returns false'. Refute it at one input. -/
def fnScanPartWrong : ChangeSpec := { name := "fnScanPart", fn := fun _ => fun
  | [d1, d2] => { results := [.lit (.bool false)], args := [d1, d2] }
  | _ => none }
def FnScanPartWrongFalsely : Prop := fnScanPartRow.holds Try.pinned (OpenSpec.ofChange fnScanPartWrong)

/-- 'laws.FnCrashMore': WHATEVER THE INPUT: true; the input reads as it did. -/
def fnCrashMoreSpec : ChangeSpec := { name := "fnCrashMore", fn := fun _ => fun
  | [d] => { results := [.lit (.bool true)], args := [d] }
  | _ => none }
def fnCrashMoreRow : OpenClaim := { program := "ytklgkfknifkbaaa", sum := "45599d6ce6b47d2f101db9188a1043e06ecc819ee6208addee83431a3b67d153", func := "loop.example/atomicpush/laws.FnCrashMore", spec := "fnCrashMore", unfollowed := true, recurses := true, apart := false }
def FnCrashMoreSaid : Prop := fnCrashMoreRow.holds Try.pinned (OpenSpec.ofChange fnCrashMoreSpec)

/-- ITS FALSE NEIGHBOUR: 'it returns false'. Refute it at one input. -/
def fnCrashMoreWrong : ChangeSpec := { name := "fnCrashMore", fn := fun _ => fun
  | [d] => { results := [.lit (.bool false)], args := [d] }
  | _ => none }
def FnCrashMoreWrongFalsely : Prop := fnCrashMoreRow.holds Try.pinned (OpenSpec.ofChange fnCrashMoreWrong)

/-- 'laws.FnScan': WHATEVER THE INPUT: true; the input reads as it did. -/
def fnScanSpec : ChangeSpec := { name := "fnScan", fn := fun _ => fun
  | [d] => { results := [.lit (.bool true)], args := [d] }
  | _ => none }
def fnScanRow : OpenClaim := { program := "ytklgkfknifkbaaa", sum := "45599d6ce6b47d2f101db9188a1043e06ecc819ee6208addee83431a3b67d153", func := "loop.example/atomicpush/laws.FnScan", spec := "fnScan", unfollowed := true, recurses := true, apart := false }
def FnScanSaid : Prop := fnScanRow.holds Try.pinned (OpenSpec.ofChange fnScanSpec)

/-- ITS FALSE NEIGHBOUR: 'it returns false'. Refute it at one input. -/
def fnScanWrong : ChangeSpec := { name := "fnScan", fn := fun _ => fun
  | [d] => { results := [.lit (.bool false)], args := [d] }
  | _ => none }
def FnScanWrongFalsely : Prop := fnScanRow.holds Try.pinned (OpenSpec.ofChange fnScanWrong)

/-- 'laws.FnScanMore': WHATEVER THE INPUT: true; the input reads as it did. -/
def fnScanMoreSpec : ChangeSpec := { name := "fnScanMore", fn := fun _ => fun
  | [d1, d2] => { results := [.lit (.bool true)], args := [d1, d2] }
  | _ => none }
def fnScanMoreRow : OpenClaim := { program := "ytklgkfknifkbaaa", sum := "45599d6ce6b47d2f101db9188a1043e06ecc819ee6208addee83431a3b67d153", func := "loop.example/atomicpush/laws.FnScanMore", spec := "fnScanMore", unfollowed := true, recurses := true, apart := false }
def FnScanMoreSaid : Prop := fnScanMoreRow.holds Try.pinned (OpenSpec.ofChange fnScanMoreSpec)

/-- ITS FALSE NEIGHBOUR: 'it returns false'. Refute it at one input. -/
def fnScanMoreWrong : ChangeSpec := { name := "fnScanMore", fn := fun _ => fun
  | [d1, d2] => { results := [.lit (.bool false)], args := [d1, d2] }
  | _ => none }
def FnScanMoreWrongFalsely : Prop := fnScanMoreRow.holds Try.pinned (OpenSpec.ofChange fnScanMoreWrong)

/-- 'laws.FnCrash': WHATEVER THE INPUT: true; the input reads as it did. -/
def fnCrashSpec : ChangeSpec := { name := "fnCrash", fn := fun _ => fun
  | [d] => { results := [.lit (.bool true)], args := [d] }
  | _ => none }
def fnCrashRow : OpenClaim := { program := "ytklgkfknifkbaaa", sum := "45599d6ce6b47d2f101db9188a1043e06ecc819ee6208addee83431a3b67d153", func := "loop.example/atomicpush/laws.FnCrash", spec := "fnCrash", unfollowed := true, recurses := true, apart := false }
def FnCrashSaid : Prop := fnCrashRow.holds Try.pinned (OpenSpec.ofChange fnCrashSpec)

/-- ITS FALSE NEIGHBOUR: 'it returns false'. Refute it at one input. -/
def fnCrashWrong : ChangeSpec := { name := "fnCrash", fn := fun _ => fun
  | [d] => { results := [.lit (.bool false)], args := [d] }
  | _ => none }
def FnCrashWrongFalsely : Prop := fnCrashRow.holds Try.pinned (OpenSpec.ofChange fnCrashWrong)

/-- 'laws.FnCrashNone': WHATEVER THE INPUT: true; the input reads as it did. -/
def fnCrashNoneSpec : ChangeSpec := { name := "fnCrashNone", fn := fun _ => fun
  | [d] => { results := [.lit (.bool true)], args := [d] }
  | _ => none }
def fnCrashNoneRow : OpenClaim := { program := "ytklgkfknifkbaaa", sum := "45599d6ce6b47d2f101db9188a1043e06ecc819ee6208addee83431a3b67d153", func := "loop.example/atomicpush/laws.FnCrashNone", spec := "fnCrashNone", unfollowed := true, recurses := true, apart := false }
def FnCrashNoneSaid : Prop := fnCrashNoneRow.holds Try.pinned (OpenSpec.ofChange fnCrashNoneSpec)

/-- ITS FALSE NEIGHBOUR: 'it returns false'. Refute it at one input. -/
def fnCrashNoneWrong : ChangeSpec := { name := "fnCrashNone", fn := fun _ => fun
  | [d] => { results := [.lit (.bool false)], args := [d] }
  | _ => none }
def FnCrashNoneWrongFalsely : Prop := fnCrashNoneRow.holds Try.pinned (OpenSpec.ofChange fnCrashNoneWrong)

/- THE SECOND FORM. 'bulk': how many values and letters a reading holds, each counted each time it is reached (what is shared counts as often as it is met; a slice's spare places count too). A statement '..UptoSaid' is the law's where the arguments, and the package variables that the reading takes, are together of bulk at most 1048576: NARROWER than '..Said'. Prove '..Said' where nothing that the law and all that it calls make is longer than what came in: it says more and counts as full. Else prove '..UptoSaid'. A law counts once. -/
mutual
def uptoBulk {H : Type} : DataW H → Nat
  | .lit (.string bytes) => bytes.length + 1
  | .lit _ => 1
  | .nil => 1
  | .ptr d => uptoBulk d + 1
  | .slice elems spare => uptoBulkAll elems + uptoBulkAll spare + 1
  | .agg parts => uptoBulkAll parts + 1
  | .iface _ d => uptoBulk d + 1
  | .map entries => uptoBulkEntries entries + 1
  | .held _ => 1
def uptoBulkAll {H : Type} : List (DataW H) → Nat
  | [] => 0
  | d :: r => uptoBulk d + uptoBulkAll r
def uptoBulkEntries {H : Type} : List (Lit × DataW H) → Nat
  | [] => 0
  | x :: r => uptoBulkEntry x + uptoBulkEntries r
def uptoBulkEntry {H : Type} : Lit × DataW H → Nat
  | (.string bytes, d) => bytes.length + uptoBulk d + 1
  | (_, d) => uptoBulk d + 1
 end
def uptoSmall : (H : Type) → List (DataW H) → Bool := fun _ ds => decide (uptoBulkAll ds ≤ 1048576)
def OpenSpec.upto (s : _root_.Go.ChangeSpec) : _root_.Go.OpenSpec := { _root_.Go.OpenSpec.ofChange s with cond := some uptoSmall }

/-- 'laws.FnExactConstants', WHERE WHAT IT READS IS OF BULK AT MOST 1048576: true; the input reads as it did. -/
def fnExactConstantsUptoRow : OpenClaim := { program := "ytklgkfknifkbaaa", sum := "45599d6ce6b47d2f101db9188a1043e06ecc819ee6208addee83431a3b67d153", func := "loop.example/atomicpush/laws.FnExactConstants", spec := "fnExactConstants", apart := false, narrowed := true }
def FnExactConstantsUptoSaid : Prop := fnExactConstantsUptoRow.holds Try.pinned (OpenSpec.upto fnExactConstantsSpec)

/-- 'laws.FnExactDiskValid', WHERE WHAT IT READS IS OF BULK AT MOST 1048576: true; the input reads as it did. -/
def fnExactDiskValidUptoRow : OpenClaim := { program := "ytklgkfknifkbaaa", sum := "45599d6ce6b47d2f101db9188a1043e06ecc819ee6208addee83431a3b67d153", func := "loop.example/atomicpush/laws.FnExactDiskValid", spec := "fnExactDiskValid", apart := false, narrowed := true }
def FnExactDiskValidUptoSaid : Prop := fnExactDiskValidUptoRow.holds Try.pinned (OpenSpec.upto fnExactDiskValidSpec)

/-- 'laws.FnExactLogFrame', WHERE WHAT IT READS IS OF BULK AT MOST 1048576: true; the input reads as it did. -/
def fnExactLogFrameUptoRow : OpenClaim := { program := "ytklgkfknifkbaaa", sum := "45599d6ce6b47d2f101db9188a1043e06ecc819ee6208addee83431a3b67d153", func := "loop.example/atomicpush/laws.FnExactLogFrame", spec := "fnExactLogFrame", apart := false, narrowed := true }
def FnExactLogFrameUptoSaid : Prop := fnExactLogFrameUptoRow.holds Try.pinned (OpenSpec.upto fnExactLogFrameSpec)

/-- 'laws.FnExactLogSync', WHERE WHAT IT READS IS OF BULK AT MOST 1048576: true; the input reads as it did. -/
def fnExactLogSyncUptoRow : OpenClaim := { program := "ytklgkfknifkbaaa", sum := "45599d6ce6b47d2f101db9188a1043e06ecc819ee6208addee83431a3b67d153", func := "loop.example/atomicpush/laws.FnExactLogSync", spec := "fnExactLogSync", apart := false, narrowed := true }
def FnExactLogSyncUptoSaid : Prop := fnExactLogSyncUptoRow.holds Try.pinned (OpenSpec.upto fnExactLogSyncSpec)

/-- 'laws.FnFrameEmpty', WHERE WHAT IT READS IS OF BULK AT MOST 1048576: true; the input reads as it did. -/
def fnFrameEmptyUptoRow : OpenClaim := { program := "ytklgkfknifkbaaa", sum := "45599d6ce6b47d2f101db9188a1043e06ecc819ee6208addee83431a3b67d153", func := "loop.example/atomicpush/laws.FnFrameEmpty", spec := "fnFrameEmpty", apart := false, narrowed := true }
def FnFrameEmptyUptoSaid : Prop := fnFrameEmptyUptoRow.holds Try.pinned (OpenSpec.upto fnFrameEmptySpec)

/-- 'laws.FnExactLogAppend', WHERE WHAT IT READS IS OF BULK AT MOST 1048576: true; the input reads as it did. -/
def fnExactLogAppendUptoRow : OpenClaim := { program := "ytklgkfknifkbaaa", sum := "45599d6ce6b47d2f101db9188a1043e06ecc819ee6208addee83431a3b67d153", func := "loop.example/atomicpush/laws.FnExactLogAppend", spec := "fnExactLogAppend", apart := false, narrowed := true }
def FnExactLogAppendUptoSaid : Prop := fnExactLogAppendUptoRow.holds Try.pinned (OpenSpec.upto fnExactLogAppendSpec)

/-- 'laws.FnFrameChange', WHERE WHAT IT READS IS OF BULK AT MOST 1048576: true; the input reads as it did. -/
def fnFrameChangeUptoRow : OpenClaim := { program := "ytklgkfknifkbaaa", sum := "45599d6ce6b47d2f101db9188a1043e06ecc819ee6208addee83431a3b67d153", func := "loop.example/atomicpush/laws.FnFrameChange", spec := "fnFrameChange", unfollowed := true, recurses := true, apart := false, narrowed := true }
def FnFrameChangeUptoSaid : Prop := fnFrameChangeUptoRow.holds Try.pinned (OpenSpec.upto fnFrameChangeSpec)

/-- 'laws.FnFrameTorn', WHERE WHAT IT READS IS OF BULK AT MOST 1048576: true; the input reads as it did. -/
def fnFrameTornUptoRow : OpenClaim := { program := "ytklgkfknifkbaaa", sum := "45599d6ce6b47d2f101db9188a1043e06ecc819ee6208addee83431a3b67d153", func := "loop.example/atomicpush/laws.FnFrameTorn", spec := "fnFrameTorn", unfollowed := true, recurses := true, apart := false, narrowed := true }
def FnFrameTornUptoSaid : Prop := fnFrameTornUptoRow.holds Try.pinned (OpenSpec.upto fnFrameTornSpec)

/-- 'laws.FnExactLogScan', WHERE WHAT IT READS IS OF BULK AT MOST 1048576: true; the input reads as it did. -/
def fnExactLogScanUptoRow : OpenClaim := { program := "ytklgkfknifkbaaa", sum := "45599d6ce6b47d2f101db9188a1043e06ecc819ee6208addee83431a3b67d153", func := "loop.example/atomicpush/laws.FnExactLogScan", spec := "fnExactLogScan", unfollowed := true, recurses := true, apart := false, narrowed := true }
def FnExactLogScanUptoSaid : Prop := fnExactLogScanUptoRow.holds Try.pinned (OpenSpec.upto fnExactLogScanSpec)

/-- 'laws.FnExactLogCrash', WHERE WHAT IT READS IS OF BULK AT MOST 1048576: true; the input reads as it did. -/
def fnExactLogCrashUptoRow : OpenClaim := { program := "ytklgkfknifkbaaa", sum := "45599d6ce6b47d2f101db9188a1043e06ecc819ee6208addee83431a3b67d153", func := "loop.example/atomicpush/laws.FnExactLogCrash", spec := "fnExactLogCrash", unfollowed := true, recurses := true, apart := false, narrowed := true }
def FnExactLogCrashUptoSaid : Prop := fnExactLogCrashUptoRow.holds Try.pinned (OpenSpec.upto fnExactLogCrashSpec)

/-- 'laws.FnFrame', WHERE WHAT IT READS IS OF BULK AT MOST 1048576: true; the input reads as it did. -/
def fnFrameUptoRow : OpenClaim := { program := "ytklgkfknifkbaaa", sum := "45599d6ce6b47d2f101db9188a1043e06ecc819ee6208addee83431a3b67d153", func := "loop.example/atomicpush/laws.FnFrame", spec := "fnFrame", unfollowed := true, recurses := true, apart := false, narrowed := true }
def FnFrameUptoSaid : Prop := fnFrameUptoRow.holds Try.pinned (OpenSpec.upto fnFrameSpec)

/-- 'laws.FnAppend', WHERE WHAT IT READS IS OF BULK AT MOST 1048576: true; the input reads as it did. -/
def fnAppendUptoRow : OpenClaim := { program := "ytklgkfknifkbaaa", sum := "45599d6ce6b47d2f101db9188a1043e06ecc819ee6208addee83431a3b67d153", func := "loop.example/atomicpush/laws.FnAppend", spec := "fnAppend", apart := false, narrowed := true }
def FnAppendUptoSaid : Prop := fnAppendUptoRow.holds Try.pinned (OpenSpec.upto fnAppendSpec)

/-- 'laws.FnAppendFull', WHERE WHAT IT READS IS OF BULK AT MOST 1048576: true; the input reads as it did. -/
def fnAppendFullUptoRow : OpenClaim := { program := "ytklgkfknifkbaaa", sum := "45599d6ce6b47d2f101db9188a1043e06ecc819ee6208addee83431a3b67d153", func := "loop.example/atomicpush/laws.FnAppendFull", spec := "fnAppendFull", apart := false, narrowed := true }
def FnAppendFullUptoSaid : Prop := fnAppendFullUptoRow.holds Try.pinned (OpenSpec.upto fnAppendFullSpec)

/-- 'laws.FnSync', WHERE WHAT IT READS IS OF BULK AT MOST 1048576: true; the input reads as it did. -/
def fnSyncUptoRow : OpenClaim := { program := "ytklgkfknifkbaaa", sum := "45599d6ce6b47d2f101db9188a1043e06ecc819ee6208addee83431a3b67d153", func := "loop.example/atomicpush/laws.FnSync", spec := "fnSync", unfollowed := true, recurses := true, apart := false, narrowed := true }
def FnSyncUptoSaid : Prop := fnSyncUptoRow.holds Try.pinned (OpenSpec.upto fnSyncSpec)

/-- 'laws.FnCrashTwice', WHERE WHAT IT READS IS OF BULK AT MOST 1048576: true; the input reads as it did. -/
def fnCrashTwiceUptoRow : OpenClaim := { program := "ytklgkfknifkbaaa", sum := "45599d6ce6b47d2f101db9188a1043e06ecc819ee6208addee83431a3b67d153", func := "loop.example/atomicpush/laws.FnCrashTwice", spec := "fnCrashTwice", unfollowed := true, recurses := true, apart := false, narrowed := true }
def FnCrashTwiceUptoSaid : Prop := fnCrashTwiceUptoRow.holds Try.pinned (OpenSpec.upto fnCrashTwiceSpec)

/-- 'laws.FnScanAgain', WHERE WHAT IT READS IS OF BULK AT MOST 1048576: true; the input reads as it did. -/
def fnScanAgainUptoRow : OpenClaim := { program := "ytklgkfknifkbaaa", sum := "45599d6ce6b47d2f101db9188a1043e06ecc819ee6208addee83431a3b67d153", func := "loop.example/atomicpush/laws.FnScanAgain", spec := "fnScanAgain", unfollowed := true, recurses := true, apart := false, narrowed := true }
def FnScanAgainUptoSaid : Prop := fnScanAgainUptoRow.holds Try.pinned (OpenSpec.upto fnScanAgainSpec)

/-- 'laws.FnScanPart', WHERE WHAT IT READS IS OF BULK AT MOST 1048576: true; the input reads as it did. -/
def fnScanPartUptoRow : OpenClaim := { program := "ytklgkfknifkbaaa", sum := "45599d6ce6b47d2f101db9188a1043e06ecc819ee6208addee83431a3b67d153", func := "loop.example/atomicpush/laws.FnScanPart", spec := "fnScanPart", unfollowed := true, recurses := true, apart := false, narrowed := true }
def FnScanPartUptoSaid : Prop := fnScanPartUptoRow.holds Try.pinned (OpenSpec.upto fnScanPartSpec)

/-- 'laws.FnCrashMore', WHERE WHAT IT READS IS OF BULK AT MOST 1048576: true; the input reads as it did. -/
def fnCrashMoreUptoRow : OpenClaim := { program := "ytklgkfknifkbaaa", sum := "45599d6ce6b47d2f101db9188a1043e06ecc819ee6208addee83431a3b67d153", func := "loop.example/atomicpush/laws.FnCrashMore", spec := "fnCrashMore", unfollowed := true, recurses := true, apart := false, narrowed := true }
def FnCrashMoreUptoSaid : Prop := fnCrashMoreUptoRow.holds Try.pinned (OpenSpec.upto fnCrashMoreSpec)

/-- 'laws.FnScan', WHERE WHAT IT READS IS OF BULK AT MOST 1048576: true; the input reads as it did. -/
def fnScanUptoRow : OpenClaim := { program := "ytklgkfknifkbaaa", sum := "45599d6ce6b47d2f101db9188a1043e06ecc819ee6208addee83431a3b67d153", func := "loop.example/atomicpush/laws.FnScan", spec := "fnScan", unfollowed := true, recurses := true, apart := false, narrowed := true }
def FnScanUptoSaid : Prop := fnScanUptoRow.holds Try.pinned (OpenSpec.upto fnScanSpec)

/-- 'laws.FnScanMore', WHERE WHAT IT READS IS OF BULK AT MOST 1048576: true; the input reads as it did. -/
def fnScanMoreUptoRow : OpenClaim := { program := "ytklgkfknifkbaaa", sum := "45599d6ce6b47d2f101db9188a1043e06ecc819ee6208addee83431a3b67d153", func := "loop.example/atomicpush/laws.FnScanMore", spec := "fnScanMore", unfollowed := true, recurses := true, apart := false, narrowed := true }
def FnScanMoreUptoSaid : Prop := fnScanMoreUptoRow.holds Try.pinned (OpenSpec.upto fnScanMoreSpec)

/-- 'laws.FnCrash', WHERE WHAT IT READS IS OF BULK AT MOST 1048576: true; the input reads as it did. -/
def fnCrashUptoRow : OpenClaim := { program := "ytklgkfknifkbaaa", sum := "45599d6ce6b47d2f101db9188a1043e06ecc819ee6208addee83431a3b67d153", func := "loop.example/atomicpush/laws.FnCrash", spec := "fnCrash", unfollowed := true, recurses := true, apart := false, narrowed := true }
def FnCrashUptoSaid : Prop := fnCrashUptoRow.holds Try.pinned (OpenSpec.upto fnCrashSpec)

/-- 'laws.FnCrashNone', WHERE WHAT IT READS IS OF BULK AT MOST 1048576: true; the input reads as it did. -/
def fnCrashNoneUptoRow : OpenClaim := { program := "ytklgkfknifkbaaa", sum := "45599d6ce6b47d2f101db9188a1043e06ecc819ee6208addee83431a3b67d153", func := "loop.example/atomicpush/laws.FnCrashNone", spec := "fnCrashNone", unfollowed := true, recurses := true, apart := false, narrowed := true }
def FnCrashNoneUptoSaid : Prop := fnCrashNoneUptoRow.holds Try.pinned (OpenSpec.upto fnCrashNoneSpec)

end Rows
end Go.Proofs.Ytklgkfknifkbaaa
