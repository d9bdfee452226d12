/-
  No cell of these rows narrows 'for every input' (looked for: loops, veiled, ifaces, maps, wideKeys, modest, calm, conditions, laid).
  DERIVED. THE GIVEN ROWS OF THIS SEAT. 14 by the template 'for every input the law returns true; each argument reads behind the call as it read before'; 0 by the template 'total and deterministic' (their statements: YtilpbddeijolbaaTotals.lean).
  GIVEN WITH THE SEED: the statements are not yours to turn. If you find one false, say at which input.
  Laid BY PROGRAM, IN A SANDBOX (cutbox-rows.mjs): the forced cells as the released guide's own fill.sh prints them over the translation f59354d0ca8548ee… (all of the seat's roots in one cut). By AI agents, Wed Nov 11 2026. No macro, syntax, notation, axiom, sorry.
-/
import Derived.Test.YtilpbddeijolbaaChecked
import GoSem.Claim
import GoSem.ClaimJoined
import GoSem.ClaimMapViews
import Derived.JoinedTies
import Derived.KernelRfl
namespace Go.Proofs.Ytilpbddeijolbaa
/- THE CELL 'sum', in the pinned program and in every row, IS THE sha256 OF THE DUMP (.gsa) THAT YtilpbddeijolbaaProg.lean LOADS. Nothing in Lean hashes anything: it is a label: what it is worth is what the hold of that sum in a sandbox is worth. -/
noncomputable def Try.pinned : Pinned := { name := "ytilpbddeijolbaa", sum := "f59354d0ca8548eea35c803e37478c46e2295ff68693b4b7be9f39b5e9dd1586", checked := Try.checked }
namespace Rows
def none {H : Type} : Left H := { results := [], args := [] }

/-- 'laws.FnExactLocksValid': WHATEVER THE INPUT: true; the input reads as it did. -/
def fnExactLocksValidSpec : ChangeSpec := { name := "fnExactLocksValid", fn := fun _ => fun
  | [d] => { results := [.lit (.bool true)], args := [d] }
  | _ => none }
def fnExactLocksValidRow : OpenClaim := { program := "ytilpbddeijolbaa", sum := "f59354d0ca8548eea35c803e37478c46e2295ff68693b4b7be9f39b5e9dd1586", func := "loop.example/atomicpush/laws.FnExactLocksValid", spec := "fnExactLocksValid", unfollowed := true, recurses := true, apart := false }
def FnExactLocksValidSaid : Prop := fnExactLocksValidRow.holds Try.pinned (OpenSpec.ofChange fnExactLocksValidSpec)

/-- ITS FALSE NEIGHBOUR: 'it returns false'. Refute it at one input. -/
def fnExactLocksValidWrong : ChangeSpec := { name := "fnExactLocksValid", fn := fun _ => fun
  | [d] => { results := [.lit (.bool false)], args := [d] }
  | _ => none }
def FnExactLocksValidWrongFalsely : Prop := fnExactLocksValidRow.holds Try.pinned (OpenSpec.ofChange fnExactLocksValidWrong)

/-- 'laws.FnExactRefsValid': WHATEVER THE INPUT: true; the input reads as it did. -/
def fnExactRefsValidSpec : ChangeSpec := { name := "fnExactRefsValid", fn := fun _ => fun
  | [d] => { results := [.lit (.bool true)], args := [d] }
  | _ => none }
def fnExactRefsValidRow : OpenClaim := { program := "ytilpbddeijolbaa", sum := "f59354d0ca8548eea35c803e37478c46e2295ff68693b4b7be9f39b5e9dd1586", func := "loop.example/atomicpush/laws.FnExactRefsValid", spec := "fnExactRefsValid", unfollowed := true, recurses := true, apart := false }
def FnExactRefsValidSaid : Prop := fnExactRefsValidRow.holds Try.pinned (OpenSpec.ofChange fnExactRefsValidSpec)

/-- ITS FALSE NEIGHBOUR: 'it returns false'. Refute it at one input. -/
def fnExactRefsValidWrong : ChangeSpec := { name := "fnExactRefsValid", fn := fun _ => fun
  | [d] => { results := [.lit (.bool false)], args := [d] }
  | _ => none }
def FnExactRefsValidWrongFalsely : Prop := fnExactRefsValidRow.holds Try.pinned (OpenSpec.ofChange fnExactRefsValidWrong)

/-- 'laws.FnRefsValid': WHATEVER THE INPUT: true; the input reads as it did. -/
def fnRefsValidSpec : ChangeSpec := { name := "fnRefsValid", fn := fun _ => fun
  | [d] => { results := [.lit (.bool true)], args := [d] }
  | _ => none }
def fnRefsValidRow : OpenClaim := { program := "ytilpbddeijolbaa", sum := "f59354d0ca8548eea35c803e37478c46e2295ff68693b4b7be9f39b5e9dd1586", func := "loop.example/atomicpush/laws.FnRefsValid", spec := "fnRefsValid", unfollowed := true, recurses := true, apart := false }
def FnRefsValidSaid : Prop := fnRefsValidRow.holds Try.pinned (OpenSpec.ofChange fnRefsValidSpec)

/-- ITS FALSE NEIGHBOUR: 'it returns false'. Refute it at one input. -/
def fnRefsValidWrong : ChangeSpec := { name := "fnRefsValid", fn := fun _ => fun
  | [d] => { results := [.lit (.bool false)], args := [d] }
  | _ => none }
def FnRefsValidWrongFalsely : Prop := fnRefsValidRow.holds Try.pinned (OpenSpec.ofChange fnRefsValidWrong)

/-- 'laws.FnExactUpdatesValid': WHATEVER THE INPUT: true; the input reads as it did. -/
def fnExactUpdatesValidSpec : ChangeSpec := { name := "fnExactUpdatesValid", fn := fun _ => fun
  | [d] => { results := [.lit (.bool true)], args := [d] }
  | _ => none }
def fnExactUpdatesValidRow : OpenClaim := { program := "ytilpbddeijolbaa", sum := "f59354d0ca8548eea35c803e37478c46e2295ff68693b4b7be9f39b5e9dd1586", func := "loop.example/atomicpush/laws.FnExactUpdatesValid", spec := "fnExactUpdatesValid", apart := false }
def FnExactUpdatesValidSaid : Prop := fnExactUpdatesValidRow.holds Try.pinned (OpenSpec.ofChange fnExactUpdatesValidSpec)

/-- ITS FALSE NEIGHBOUR: 'it returns false'. Refute it at one input. -/
def fnExactUpdatesValidWrong : ChangeSpec := { name := "fnExactUpdatesValid", fn := fun _ => fun
  | [d] => { results := [.lit (.bool false)], args := [d] }
  | _ => none }
def FnExactUpdatesValidWrongFalsely : Prop := fnExactUpdatesValidRow.holds Try.pinned (OpenSpec.ofChange fnExactUpdatesValidWrong)

/-- 'laws.FnExactLocksOf': WHATEVER THE INPUT: true; the input reads as it did. -/
def fnExactLocksOfSpec : ChangeSpec := { name := "fnExactLocksOf", fn := fun _ => fun
  | [d1, d2] => { results := [.lit (.bool true)], args := [d1, d2] }
  | _ => none }
def fnExactLocksOfRow : OpenClaim := { program := "ytilpbddeijolbaa", sum := "f59354d0ca8548eea35c803e37478c46e2295ff68693b4b7be9f39b5e9dd1586", func := "loop.example/atomicpush/laws.FnExactLocksOf", spec := "fnExactLocksOf", unfollowed := true, recurses := true, apart := false }
def FnExactLocksOfSaid : Prop := fnExactLocksOfRow.holds Try.pinned (OpenSpec.ofChange fnExactLocksOfSpec)

/-- ITS FALSE NEIGHBOUR: 'it returns false'. Refute it at one input. -/
def fnExactLocksOfWrong : ChangeSpec := { name := "fnExactLocksOf", fn := fun _ => fun
  | [d1, d2] => { results := [.lit (.bool false)], args := [d1, d2] }
  | _ => none }
def FnExactLocksOfWrongFalsely : Prop := fnExactLocksOfRow.holds Try.pinned (OpenSpec.ofChange fnExactLocksOfWrong)

/-- 'laws.FnLocksOf': WHATEVER THE INPUT: true; the input reads as it did. -/
def fnLocksOfSpec : ChangeSpec := { name := "fnLocksOf", fn := fun _ => fun
  | [d] => { results := [.lit (.bool true)], args := [d] }
  | _ => none }
def fnLocksOfRow : OpenClaim := { program := "ytilpbddeijolbaa", sum := "f59354d0ca8548eea35c803e37478c46e2295ff68693b4b7be9f39b5e9dd1586", func := "loop.example/atomicpush/laws.FnLocksOf", spec := "fnLocksOf", unfollowed := true, recurses := true, apart := false }
def FnLocksOfSaid : Prop := fnLocksOfRow.holds Try.pinned (OpenSpec.ofChange fnLocksOfSpec)

/-- ITS FALSE NEIGHBOUR: 'it returns false'. Refute it at one input. -/
def fnLocksOfWrong : ChangeSpec := { name := "fnLocksOf", fn := fun _ => fun
  | [d] => { results := [.lit (.bool false)], args := [d] }
  | _ => none }
def FnLocksOfWrongFalsely : Prop := fnLocksOfRow.holds Try.pinned (OpenSpec.ofChange fnLocksOfWrong)

/-- 'laws.FnUpdatesPart': WHATEVER THE INPUT: true; the input reads as it did. -/
def fnUpdatesPartSpec : ChangeSpec := { name := "fnUpdatesPart", fn := fun _ => fun
  | [d1, d2] => { results := [.lit (.bool true)], args := [d1, d2] }
  | _ => none }
def fnUpdatesPartRow : OpenClaim := { program := "ytilpbddeijolbaa", sum := "f59354d0ca8548eea35c803e37478c46e2295ff68693b4b7be9f39b5e9dd1586", func := "loop.example/atomicpush/laws.FnUpdatesPart", spec := "fnUpdatesPart", apart := false }
def FnUpdatesPartSaid : Prop := fnUpdatesPartRow.holds Try.pinned (OpenSpec.ofChange fnUpdatesPartSpec)

/-- ITS FALSE NEIGHBOUR: 'it returns false'. Refute it at one input. -/
def fnUpdatesPartWrong : ChangeSpec := { name := "fnUpdatesPart", fn := fun _ => fun
  | [d1, d2] => { results := [.lit (.bool false)], args := [d1, d2] }
  | _ => none }
def FnUpdatesPartWrongFalsely : Prop := fnUpdatesPartRow.holds Try.pinned (OpenSpec.ofChange fnUpdatesPartWrong)

/-- 'laws.FnExactUpdatesCross': WHATEVER THE INPUT: true; the input reads as it did. -/
def fnExactUpdatesCrossSpec : ChangeSpec := { name := "fnExactUpdatesCross", fn := fun _ => fun
  | [d1, d2] => { results := [.lit (.bool true)], args := [d1, d2] }
  | _ => none }
def fnExactUpdatesCrossRow : OpenClaim := { program := "ytilpbddeijolbaa", sum := "f59354d0ca8548eea35c803e37478c46e2295ff68693b4b7be9f39b5e9dd1586", func := "loop.example/atomicpush/laws.FnExactUpdatesCross", spec := "fnExactUpdatesCross", unfollowed := true, recurses := true, apart := false }
def FnExactUpdatesCrossSaid : Prop := fnExactUpdatesCrossRow.holds Try.pinned (OpenSpec.ofChange fnExactUpdatesCrossSpec)

/-- ITS FALSE NEIGHBOUR: 'it returns false'. Refute it at one input. -/
def fnExactUpdatesCrossWrong : ChangeSpec := { name := "fnExactUpdatesCross", fn := fun _ => fun
  | [d1, d2] => { results := [.lit (.bool false)], args := [d1, d2] }
  | _ => none }
def FnExactUpdatesCrossWrongFalsely : Prop := fnExactUpdatesCrossRow.holds Try.pinned (OpenSpec.ofChange fnExactUpdatesCrossWrong)

/-- 'laws.FnFreeAll': WHATEVER THE INPUT: true; the input reads as it did. -/
def fnFreeAllSpec : ChangeSpec := { name := "fnFreeAll", fn := fun _ => fun
  | [d1, d2] => { results := [.lit (.bool true)], args := [d1, d2] }
  | _ => none }
def fnFreeAllRow : OpenClaim := { program := "ytilpbddeijolbaa", sum := "f59354d0ca8548eea35c803e37478c46e2295ff68693b4b7be9f39b5e9dd1586", func := "loop.example/atomicpush/laws.FnFreeAll", spec := "fnFreeAll", unfollowed := true, recurses := true, apart := false }
def FnFreeAllSaid : Prop := fnFreeAllRow.holds Try.pinned (OpenSpec.ofChange fnFreeAllSpec)

/-- ITS FALSE NEIGHBOUR: 'it returns false'. Refute it at one input. -/
def fnFreeAllWrong : ChangeSpec := { name := "fnFreeAll", fn := fun _ => fun
  | [d1, d2] => { results := [.lit (.bool false)], args := [d1, d2] }
  | _ => none }
def FnFreeAllWrongFalsely : Prop := fnFreeAllRow.holds Try.pinned (OpenSpec.ofChange fnFreeAllWrong)

/-- 'laws.FnDifferBack': WHATEVER THE INPUT: true; the input reads as it did. -/
def fnDifferBackSpec : ChangeSpec := { name := "fnDifferBack", fn := fun _ => fun
  | [d] => { results := [.lit (.bool true)], args := [d] }
  | _ => none }
def fnDifferBackRow : OpenClaim := { program := "ytilpbddeijolbaa", sum := "f59354d0ca8548eea35c803e37478c46e2295ff68693b4b7be9f39b5e9dd1586", func := "loop.example/atomicpush/laws.FnDifferBack", spec := "fnDifferBack", unfollowed := true, recurses := true, apart := false }
def FnDifferBackSaid : Prop := fnDifferBackRow.holds Try.pinned (OpenSpec.ofChange fnDifferBackSpec)

/-- ITS FALSE NEIGHBOUR: 'it returns false'. Refute it at one input. -/
def fnDifferBackWrong : ChangeSpec := { name := "fnDifferBack", fn := fun _ => fun
  | [d] => { results := [.lit (.bool false)], args := [d] }
  | _ => none }
def FnDifferBackWrongFalsely : Prop := fnDifferBackRow.holds Try.pinned (OpenSpec.ofChange fnDifferBackWrong)

/-- 'laws.FnExactLocksFree': WHATEVER THE INPUT: true; the input reads as it did. -/
def fnExactLocksFreeSpec : ChangeSpec := { name := "fnExactLocksFree", fn := fun _ => fun
  | [d1, d2] => { results := [.lit (.bool true)], args := [d1, d2] }
  | _ => none }
def fnExactLocksFreeRow : OpenClaim := { program := "ytilpbddeijolbaa", sum := "f59354d0ca8548eea35c803e37478c46e2295ff68693b4b7be9f39b5e9dd1586", func := "loop.example/atomicpush/laws.FnExactLocksFree", spec := "fnExactLocksFree", unfollowed := true, recurses := true, apart := false }
def FnExactLocksFreeSaid : Prop := fnExactLocksFreeRow.holds Try.pinned (OpenSpec.ofChange fnExactLocksFreeSpec)

/-- ITS FALSE NEIGHBOUR: 'it returns false'. Refute it at one input. -/
def fnExactLocksFreeWrong : ChangeSpec := { name := "fnExactLocksFree", fn := fun _ => fun
  | [d1, d2] => { results := [.lit (.bool false)], args := [d1, d2] }
  | _ => none }
def FnExactLocksFreeWrongFalsely : Prop := fnExactLocksFreeRow.holds Try.pinned (OpenSpec.ofChange fnExactLocksFreeWrong)

/-- 'laws.FnCross': WHATEVER THE INPUT: true; the input reads as it did. -/
def fnCrossSpec : ChangeSpec := { name := "fnCross", fn := fun _ => fun
  | [d] => { results := [.lit (.bool true)], args := [d] }
  | _ => none }
def fnCrossRow : OpenClaim := { program := "ytilpbddeijolbaa", sum := "f59354d0ca8548eea35c803e37478c46e2295ff68693b4b7be9f39b5e9dd1586", func := "loop.example/atomicpush/laws.FnCross", spec := "fnCross", unfollowed := true, recurses := true, apart := false }
def FnCrossSaid : Prop := fnCrossRow.holds Try.pinned (OpenSpec.ofChange fnCrossSpec)

/-- ITS FALSE NEIGHBOUR: 'it returns false'. Refute it at one input. -/
def fnCrossWrong : ChangeSpec := { name := "fnCross", fn := fun _ => fun
  | [d] => { results := [.lit (.bool false)], args := [d] }
  | _ => none }
def FnCrossWrongFalsely : Prop := fnCrossRow.holds Try.pinned (OpenSpec.ofChange fnCrossWrong)

/-- 'laws.FnExactRefsDiffer': WHATEVER THE INPUT: true; the input reads as it did. -/
def fnExactRefsDifferSpec : ChangeSpec := { name := "fnExactRefsDiffer", fn := fun _ => fun
  | [d1, d2] => { results := [.lit (.bool true)], args := [d1, d2] }
  | _ => none }
def fnExactRefsDifferRow : OpenClaim := { program := "ytilpbddeijolbaa", sum := "f59354d0ca8548eea35c803e37478c46e2295ff68693b4b7be9f39b5e9dd1586", func := "loop.example/atomicpush/laws.FnExactRefsDiffer", spec := "fnExactRefsDiffer", unfollowed := true, recurses := true, apart := false }
def FnExactRefsDifferSaid : Prop := fnExactRefsDifferRow.holds Try.pinned (OpenSpec.ofChange fnExactRefsDifferSpec)

/-- ITS FALSE NEIGHBOUR: 'it returns false'. Refute it at one input. -/
def fnExactRefsDifferWrong : ChangeSpec := { name := "fnExactRefsDiffer", fn := fun _ => fun
  | [d1, d2] => { results := [.lit (.bool false)], args := [d1, d2] }
  | _ => none }
def FnExactRefsDifferWrongFalsely : Prop := fnExactRefsDifferRow.holds Try.pinned (OpenSpec.ofChange fnExactRefsDifferWrong)

/-- 'laws.FnFree': WHATEVER THE INPUT: true; the input reads as it did. -/
def fnFreeSpec : ChangeSpec := { name := "fnFree", fn := fun _ => fun
  | [d] => { results := [.lit (.bool true)], args := [d] }
  | _ => none }
def fnFreeRow : OpenClaim := { program := "ytilpbddeijolbaa", sum := "f59354d0ca8548eea35c803e37478c46e2295ff68693b4b7be9f39b5e9dd1586", func := "loop.example/atomicpush/laws.FnFree", spec := "fnFree", unfollowed := true, recurses := true, apart := false }
def FnFreeSaid : Prop := fnFreeRow.holds Try.pinned (OpenSpec.ofChange fnFreeSpec)

/-- ITS FALSE NEIGHBOUR: 'it returns false'. Refute it at one input. -/
def fnFreeWrong : ChangeSpec := { name := "fnFree", fn := fun _ => fun
  | [d] => { results := [.lit (.bool false)], args := [d] }
  | _ => none }
def FnFreeWrongFalsely : Prop := fnFreeRow.holds Try.pinned (OpenSpec.ofChange fnFreeWrong)

/- THE SECOND FORM. 'bulk': how many values and letters a reading holds, each counted each time it is reached (what is shared counts as often as it is met; a slice's spare places count too). A statement '..UptoSaid' is the law's where the arguments, and the package variables that the reading takes, are together of bulk at most 1048576: NARROWER than '..Said'. Prove '..Said' where nothing that the law and all that it calls make is longer than what came in: it says more and counts as full. Else prove '..UptoSaid'. A law counts once. -/
mutual
def uptoBulk {H : Type} : DataW H → Nat
  | .lit (.string bytes) => bytes.length + 1
  | .lit _ => 1
  | .nil => 1
  | .ptr d => uptoBulk d + 1
  | .slice elems spare => uptoBulkAll elems + uptoBulkAll spare + 1
  | .agg parts => uptoBulkAll parts + 1
  | .iface _ d => uptoBulk d + 1
  | .map entries => uptoBulkEntries entries + 1
  | .held _ => 1
def uptoBulkAll {H : Type} : List (DataW H) → Nat
  | [] => 0
  | d :: r => uptoBulk d + uptoBulkAll r
def uptoBulkEntries {H : Type} : List (Lit × DataW H) → Nat
  | [] => 0
  | x :: r => uptoBulkEntry x + uptoBulkEntries r
def uptoBulkEntry {H : Type} : Lit × DataW H → Nat
  | (.string bytes, d) => bytes.length + uptoBulk d + 1
  | (_, d) => uptoBulk d + 1
 end
def uptoSmall : (H : Type) → List (DataW H) → Bool := fun _ ds => decide (uptoBulkAll ds ≤ 1048576)
def OpenSpec.upto (s : _root_.Go.ChangeSpec) : _root_.Go.OpenSpec := { _root_.Go.OpenSpec.ofChange s with cond := some uptoSmall }

/-- 'laws.FnExactLocksValid', WHERE WHAT IT READS IS OF BULK AT MOST 1048576: true; the input reads as it did. -/
def fnExactLocksValidUptoRow : OpenClaim := { program := "ytilpbddeijolbaa", sum := "f59354d0ca8548eea35c803e37478c46e2295ff68693b4b7be9f39b5e9dd1586", func := "loop.example/atomicpush/laws.FnExactLocksValid", spec := "fnExactLocksValid", unfollowed := true, recurses := true, apart := false, narrowed := true }
def FnExactLocksValidUptoSaid : Prop := fnExactLocksValidUptoRow.holds Try.pinned (OpenSpec.upto fnExactLocksValidSpec)

/-- 'laws.FnExactRefsValid', WHERE WHAT IT READS IS OF BULK AT MOST 1048576: true; the input reads as it did. -/
def fnExactRefsValidUptoRow : OpenClaim := { program := "ytilpbddeijolbaa", sum := "f59354d0ca8548eea35c803e37478c46e2295ff68693b4b7be9f39b5e9dd1586", func := "loop.example/atomicpush/laws.FnExactRefsValid", spec := "fnExactRefsValid", unfollowed := true, recurses := true, apart := false, narrowed := true }
def FnExactRefsValidUptoSaid : Prop := fnExactRefsValidUptoRow.holds Try.pinned (OpenSpec.upto fnExactRefsValidSpec)

/-- 'laws.FnRefsValid', WHERE WHAT IT READS IS OF BULK AT MOST 1048576: true; the input reads as it did. -/
def fnRefsValidUptoRow : OpenClaim := { program := "ytilpbddeijolbaa", sum := "f59354d0ca8548eea35c803e37478c46e2295ff68693b4b7be9f39b5e9dd1586", func := "loop.example/atomicpush/laws.FnRefsValid", spec := "fnRefsValid", unfollowed := true, recurses := true, apart := false, narrowed := true }
def FnRefsValidUptoSaid : Prop := fnRefsValidUptoRow.holds Try.pinned (OpenSpec.upto fnRefsValidSpec)

/-- 'laws.FnExactUpdatesValid', WHERE WHAT IT READS IS OF BULK AT MOST 1048576: true; the input reads as it did. -/
def fnExactUpdatesValidUptoRow : OpenClaim := { program := "ytilpbddeijolbaa", sum := "f59354d0ca8548eea35c803e37478c46e2295ff68693b4b7be9f39b5e9dd1586", func := "loop.example/atomicpush/laws.FnExactUpdatesValid", spec := "fnExactUpdatesValid", apart := false, narrowed := true }
def FnExactUpdatesValidUptoSaid : Prop := fnExactUpdatesValidUptoRow.holds Try.pinned (OpenSpec.upto fnExactUpdatesValidSpec)

/-- 'laws.FnExactLocksOf', WHERE WHAT IT READS IS OF BULK AT MOST 1048576: true; the input reads as it did. -/
def fnExactLocksOfUptoRow : OpenClaim := { program := "ytilpbddeijolbaa", sum := "f59354d0ca8548eea35c803e37478c46e2295ff68693b4b7be9f39b5e9dd1586", func := "loop.example/atomicpush/laws.FnExactLocksOf", spec := "fnExactLocksOf", unfollowed := true, recurses := true, apart := false, narrowed := true }
def FnExactLocksOfUptoSaid : Prop := fnExactLocksOfUptoRow.holds Try.pinned (OpenSpec.upto fnExactLocksOfSpec)

/-- 'laws.FnLocksOf', WHERE WHAT IT READS IS OF BULK AT MOST 1048576: true; the input reads as it did. -/
def fnLocksOfUptoRow : OpenClaim := { program := "ytilpbddeijolbaa", sum := "f59354d0ca8548eea35c803e37478c46e2295ff68693b4b7be9f39b5e9dd1586", func := "loop.example/atomicpush/laws.FnLocksOf", spec := "fnLocksOf", unfollowed := true, recurses := true, apart := false, narrowed := true }
def FnLocksOfUptoSaid : Prop := fnLocksOfUptoRow.holds Try.pinned (OpenSpec.upto fnLocksOfSpec)

/-- 'laws.FnUpdatesPart', WHERE WHAT IT READS IS OF BULK AT MOST 1048576: true; the input reads as it did. -/
def fnUpdatesPartUptoRow : OpenClaim := { program := "ytilpbddeijolbaa", sum := "f59354d0ca8548eea35c803e37478c46e2295ff68693b4b7be9f39b5e9dd1586", func := "loop.example/atomicpush/laws.FnUpdatesPart", spec := "fnUpdatesPart", apart := false, narrowed := true }
def FnUpdatesPartUptoSaid : Prop := fnUpdatesPartUptoRow.holds Try.pinned (OpenSpec.upto fnUpdatesPartSpec)

/-- 'laws.FnExactUpdatesCross', WHERE WHAT IT READS IS OF BULK AT MOST 1048576: true; the input reads as it did. -/
def fnExactUpdatesCrossUptoRow : OpenClaim := { program := "ytilpbddeijolbaa", sum := "f59354d0ca8548eea35c803e37478c46e2295ff68693b4b7be9f39b5e9dd1586", func := "loop.example/atomicpush/laws.FnExactUpdatesCross", spec := "fnExactUpdatesCross", unfollowed := true, recurses := true, apart := false, narrowed := true }
def FnExactUpdatesCrossUptoSaid : Prop := fnExactUpdatesCrossUptoRow.holds Try.pinned (OpenSpec.upto fnExactUpdatesCrossSpec)

/-- 'laws.FnFreeAll', WHERE WHAT IT READS IS OF BULK AT MOST 1048576: true; the input reads as it did. -/
def fnFreeAllUptoRow : OpenClaim := { program := "ytilpbddeijolbaa", sum := "f59354d0ca8548eea35c803e37478c46e2295ff68693b4b7be9f39b5e9dd1586", func := "loop.example/atomicpush/laws.FnFreeAll", spec := "fnFreeAll", unfollowed := true, recurses := true, apart := false, narrowed := true }
def FnFreeAllUptoSaid : Prop := fnFreeAllUptoRow.holds Try.pinned (OpenSpec.upto fnFreeAllSpec)

/-- 'laws.FnDifferBack', WHERE WHAT IT READS IS OF BULK AT MOST 1048576: true; the input reads as it did. -/
def fnDifferBackUptoRow : OpenClaim := { program := "ytilpbddeijolbaa", sum := "f59354d0ca8548eea35c803e37478c46e2295ff68693b4b7be9f39b5e9dd1586", func := "loop.example/atomicpush/laws.FnDifferBack", spec := "fnDifferBack", unfollowed := true, recurses := true, apart := false, narrowed := true }
def FnDifferBackUptoSaid : Prop := fnDifferBackUptoRow.holds Try.pinned (OpenSpec.upto fnDifferBackSpec)

/-- 'laws.FnExactLocksFree', WHERE WHAT IT READS IS OF BULK AT MOST 1048576: true; the input reads as it did. -/
def fnExactLocksFreeUptoRow : OpenClaim := { program := "ytilpbddeijolbaa", sum := "f59354d0ca8548eea35c803e37478c46e2295ff68693b4b7be9f39b5e9dd1586", func := "loop.example/atomicpush/laws.FnExactLocksFree", spec := "fnExactLocksFree", unfollowed := true, recurses := true, apart := false, narrowed := true }
def FnExactLocksFreeUptoSaid : Prop := fnExactLocksFreeUptoRow.holds Try.pinned (OpenSpec.upto fnExactLocksFreeSpec)

/-- 'laws.FnCross', WHERE WHAT IT READS IS OF BULK AT MOST 1048576: true; the input reads as it did. -/
def fnCrossUptoRow : OpenClaim := { program := "ytilpbddeijolbaa", sum := "f59354d0ca8548eea35c803e37478c46e2295ff68693b4b7be9f39b5e9dd1586", func := "loop.example/atomicpush/laws.FnCross", spec := "fnCross", unfollowed := true, recurses := true, apart := false, narrowed := true }
def FnCrossUptoSaid : Prop := fnCrossUptoRow.holds Try.pinned (OpenSpec.upto fnCrossSpec)

/-- 'laws.FnExactRefsDiffer', WHERE WHAT IT READS IS OF BULK AT MOST 1048576: true; the input reads as it did. -/
def fnExactRefsDifferUptoRow : OpenClaim := { program := "ytilpbddeijolbaa", sum := "f59354d0ca8548eea35c803e37478c46e2295ff68693b4b7be9f39b5e9dd1586", func := "loop.example/atomicpush/laws.FnExactRefsDiffer", spec := "fnExactRefsDiffer", unfollowed := true, recurses := true, apart := false, narrowed := true }
def FnExactRefsDifferUptoSaid : Prop := fnExactRefsDifferUptoRow.holds Try.pinned (OpenSpec.upto fnExactRefsDifferSpec)

/-- 'laws.FnFree', WHERE WHAT IT READS IS OF BULK AT MOST 1048576: true; the input reads as it did. -/
def fnFreeUptoRow : OpenClaim := { program := "ytilpbddeijolbaa", sum := "f59354d0ca8548eea35c803e37478c46e2295ff68693b4b7be9f39b5e9dd1586", func := "loop.example/atomicpush/laws.FnFree", spec := "fnFree", unfollowed := true, recurses := true, apart := false, narrowed := true }
def FnFreeUptoSaid : Prop := fnFreeUptoRow.holds Try.pinned (OpenSpec.upto fnFreeSpec)

end Rows
end Go.Proofs.Ytilpbddeijolbaa
