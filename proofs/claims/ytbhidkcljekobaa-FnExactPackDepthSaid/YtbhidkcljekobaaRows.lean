/-
  No cell of these rows narrows 'for every input' (looked for: loops, veiled, ifaces, maps, wideKeys, modest, calm, conditions, laid).
  DERIVED. THE GIVEN ROWS OF THIS SEAT. 9 by the template 'for every input the law returns true; each argument reads behind the call as it read before'; 0 by the template 'total and deterministic' (their statements: YtbhidkcljekobaaTotals.lean).
  GIVEN WITH THE SEED: the statements are not yours to turn. If you find one false, say at which input.
  Laid BY PROGRAM, IN A SANDBOX (cutbox-rows.mjs): the forced cells as the released guide's own fill.sh prints them over the translation 51c76a188fead39f… (all of the seat's roots in one cut). By AI agents, Wed Nov 11 2026. No macro, syntax, notation, axiom, sorry.
-/
import Derived.Test.YtbhidkcljekobaaChecked
import GoSem.Claim
import GoSem.ClaimJoined
import GoSem.ClaimMapViews
import Derived.JoinedTies
import Derived.KernelRfl
namespace Go.Proofs.Ytbhidkcljekobaa
/- THE CELL 'sum', in the pinned program and in every row, IS THE sha256 OF THE DUMP (.gsa) THAT YtbhidkcljekobaaProg.lean LOADS. Nothing in Lean hashes anything: it is a label: what it is worth is what the hold of that sum in a sandbox is worth. -/
noncomputable def Try.pinned : Pinned := { name := "ytbhidkcljekobaa", sum := "51c76a188fead39f21792fcac5161affc54ccbdd7ef766d6a3066915e1fc676c", checked := Try.checked }
namespace Rows
def none {H : Type} : Left H := { results := [], args := [] }

/-- 'laws.FnSizeSum': WHATEVER THE INPUT: true; the input reads as it did. -/
def fnSizeSumSpec : ChangeSpec := { name := "fnSizeSum", fn := fun _ => fun
  | [d1, d2] => { results := [.lit (.bool true)], args := [d1, d2] }
  | _ => none }
def fnSizeSumRow : OpenClaim := { program := "ytbhidkcljekobaa", sum := "51c76a188fead39f21792fcac5161affc54ccbdd7ef766d6a3066915e1fc676c", func := "loop.example/atomicpush/laws.FnSizeSum", spec := "fnSizeSum", apart := false }
def FnSizeSumSaid : Prop := fnSizeSumRow.holds Try.pinned (OpenSpec.ofChange fnSizeSumSpec)

/-- ITS FALSE NEIGHBOUR: 'it returns false'. Refute it at one input. -/
def fnSizeSumWrong : ChangeSpec := { name := "fnSizeSum", fn := fun _ => fun
  | [d1, d2] => { results := [.lit (.bool false)], args := [d1, d2] }
  | _ => none }
def FnSizeSumWrongFalsely : Prop := fnSizeSumRow.holds Try.pinned (OpenSpec.ofChange fnSizeSumWrong)

/-- 'laws.FnExactDeltaSize': WHATEVER THE INPUT: true; the input reads as it did. -/
def fnExactDeltaSizeSpec : ChangeSpec := { name := "fnExactDeltaSize", fn := fun _ => fun
  | [d] => { results := [.lit (.bool true)], args := [d] }
  | _ => none }
def fnExactDeltaSizeRow : OpenClaim := { program := "ytbhidkcljekobaa", sum := "51c76a188fead39f21792fcac5161affc54ccbdd7ef766d6a3066915e1fc676c", func := "loop.example/atomicpush/laws.FnExactDeltaSize", spec := "fnExactDeltaSize", apart := false }
def FnExactDeltaSizeSaid : Prop := fnExactDeltaSizeRow.holds Try.pinned (OpenSpec.ofChange fnExactDeltaSizeSpec)

/-- ITS FALSE NEIGHBOUR: 'it returns false'. Refute it at one input. -/
def fnExactDeltaSizeWrong : ChangeSpec := { name := "fnExactDeltaSize", fn := fun _ => fun
  | [d] => { results := [.lit (.bool false)], args := [d] }
  | _ => none }
def FnExactDeltaSizeWrongFalsely : Prop := fnExactDeltaSizeRow.holds Try.pinned (OpenSpec.ofChange fnExactDeltaSizeWrong)

/-- 'laws.FnExactPackDepth': WHATEVER THE INPUT: true; the input reads as it did. -/
def fnExactPackDepthSpec : ChangeSpec := { name := "fnExactPackDepth", fn := fun _ => fun
  | [d1, d2] => { results := [.lit (.bool true)], args := [d1, d2] }
  | _ => none }
def fnExactPackDepthRow : OpenClaim := { program := "ytbhidkcljekobaa", sum := "51c76a188fead39f21792fcac5161affc54ccbdd7ef766d6a3066915e1fc676c", func := "loop.example/atomicpush/laws.FnExactPackDepth", spec := "fnExactPackDepth", apart := false }
def FnExactPackDepthSaid : Prop := fnExactPackDepthRow.holds Try.pinned (OpenSpec.ofChange fnExactPackDepthSpec)

/-- ITS FALSE NEIGHBOUR: 'it returns false'. Refute it at one input. -/
def fnExactPackDepthWrong : ChangeSpec := { name := "fnExactPackDepth", fn := fun _ => fun
  | [d1, d2] => { results := [.lit (.bool false)], args := [d1, d2] }
  | _ => none }
def FnExactPackDepthWrongFalsely : Prop := fnExactPackDepthRow.holds Try.pinned (OpenSpec.ofChange fnExactPackDepthWrong)

/-- 'laws.FnDeltaCopies': WHATEVER THE INPUT: true; the input reads as it did. -/
def fnDeltaCopiesSpec : ChangeSpec := { name := "fnDeltaCopies", fn := fun _ => fun
  | [d] => { results := [.lit (.bool true)], args := [d] }
  | _ => none }
def fnDeltaCopiesRow : OpenClaim := { program := "ytbhidkcljekobaa", sum := "51c76a188fead39f21792fcac5161affc54ccbdd7ef766d6a3066915e1fc676c", func := "loop.example/atomicpush/laws.FnDeltaCopies", spec := "fnDeltaCopies", inPlace := ["internal/bytealg.IndexByteString", "internal/bytealg.IndexString"], named := ["internal/bytealg.MaxLen"], apart := false }
def FnDeltaCopiesSaid : Prop := fnDeltaCopiesRow.holds Try.pinned (OpenSpec.ofChange fnDeltaCopiesSpec)

/-- ITS FALSE NEIGHBOUR: 'it returns false'. Refute it at one input. -/
def fnDeltaCopiesWrong : ChangeSpec := { name := "fnDeltaCopies", fn := fun _ => fun
  | [d] => { results := [.lit (.bool false)], args := [d] }
  | _ => none }
def FnDeltaCopiesWrongFalsely : Prop := fnDeltaCopiesRow.holds Try.pinned (OpenSpec.ofChange fnDeltaCopiesWrong)

/-- 'laws.FnDeltaNone': WHATEVER THE INPUT: true; the input reads as it did. -/
def fnDeltaNoneSpec : ChangeSpec := { name := "fnDeltaNone", fn := fun _ => fun
  | [d] => { results := [.lit (.bool true)], args := [d] }
  | _ => none }
def fnDeltaNoneRow : OpenClaim := { program := "ytbhidkcljekobaa", sum := "51c76a188fead39f21792fcac5161affc54ccbdd7ef766d6a3066915e1fc676c", func := "loop.example/atomicpush/laws.FnDeltaNone", spec := "fnDeltaNone", inPlace := ["internal/bytealg.IndexByteString", "internal/bytealg.IndexString"], named := ["internal/bytealg.MaxLen"], apart := false }
def FnDeltaNoneSaid : Prop := fnDeltaNoneRow.holds Try.pinned (OpenSpec.ofChange fnDeltaNoneSpec)

/-- ITS FALSE NEIGHBOUR: 'it returns false'. Refute it at one input. -/
def fnDeltaNoneWrong : ChangeSpec := { name := "fnDeltaNone", fn := fun _ => fun
  | [d] => { results := [.lit (.bool false)], args := [d] }
  | _ => none }
def FnDeltaNoneWrongFalsely : Prop := fnDeltaNoneRow.holds Try.pinned (OpenSpec.ofChange fnDeltaNoneWrong)

/-- 'laws.FnDeltaOps': WHATEVER THE INPUT: true; the input reads as it did. -/
def fnDeltaOpsSpec : ChangeSpec := { name := "fnDeltaOps", fn := fun _ => fun
  | [d] => { results := [.lit (.bool true)], args := [d] }
  | _ => none }
def fnDeltaOpsRow : OpenClaim := { program := "ytbhidkcljekobaa", sum := "51c76a188fead39f21792fcac5161affc54ccbdd7ef766d6a3066915e1fc676c", func := "loop.example/atomicpush/laws.FnDeltaOps", spec := "fnDeltaOps", inPlace := ["internal/bytealg.IndexByteString", "internal/bytealg.IndexString"], named := ["internal/bytealg.MaxLen"], apart := false }
def FnDeltaOpsSaid : Prop := fnDeltaOpsRow.holds Try.pinned (OpenSpec.ofChange fnDeltaOpsSpec)

/-- ITS FALSE NEIGHBOUR: 'it returns false'. Refute it at one input. -/
def fnDeltaOpsWrong : ChangeSpec := { name := "fnDeltaOps", fn := fun _ => fun
  | [d] => { results := [.lit (.bool false)], args := [d] }
  | _ => none }
def FnDeltaOpsWrongFalsely : Prop := fnDeltaOpsRow.holds Try.pinned (OpenSpec.ofChange fnDeltaOpsWrong)

/-- 'laws.FnDeltaSelf': WHATEVER THE INPUT: true; the input reads as it did. -/
def fnDeltaSelfSpec : ChangeSpec := { name := "fnDeltaSelf", fn := fun _ => fun
  | [d] => { results := [.lit (.bool true)], args := [d] }
  | _ => none }
def fnDeltaSelfRow : OpenClaim := { program := "ytbhidkcljekobaa", sum := "51c76a188fead39f21792fcac5161affc54ccbdd7ef766d6a3066915e1fc676c", func := "loop.example/atomicpush/laws.FnDeltaSelf", spec := "fnDeltaSelf", inPlace := ["internal/bytealg.IndexByteString", "internal/bytealg.IndexString"], named := ["internal/bytealg.MaxLen"], apart := false }
def FnDeltaSelfSaid : Prop := fnDeltaSelfRow.holds Try.pinned (OpenSpec.ofChange fnDeltaSelfSpec)

/-- ITS FALSE NEIGHBOUR: 'it returns false'. Refute it at one input. -/
def fnDeltaSelfWrong : ChangeSpec := { name := "fnDeltaSelf", fn := fun _ => fun
  | [d] => { results := [.lit (.bool false)], args := [d] }
  | _ => none }
def FnDeltaSelfWrongFalsely : Prop := fnDeltaSelfRow.holds Try.pinned (OpenSpec.ofChange fnDeltaSelfWrong)

/-- 'laws.FnDeltaSize': WHATEVER THE INPUT: true; the input reads as it did. -/
def fnDeltaSizeSpec : ChangeSpec := { name := "fnDeltaSize", fn := fun _ => fun
  | [d] => { results := [.lit (.bool true)], args := [d] }
  | _ => none }
def fnDeltaSizeRow : OpenClaim := { program := "ytbhidkcljekobaa", sum := "51c76a188fead39f21792fcac5161affc54ccbdd7ef766d6a3066915e1fc676c", func := "loop.example/atomicpush/laws.FnDeltaSize", spec := "fnDeltaSize", inPlace := ["internal/bytealg.IndexByteString", "internal/bytealg.IndexString"], named := ["internal/bytealg.MaxLen"], apart := false }
def FnDeltaSizeSaid : Prop := fnDeltaSizeRow.holds Try.pinned (OpenSpec.ofChange fnDeltaSizeSpec)

/-- ITS FALSE NEIGHBOUR: 'it returns false'. Refute it at one input. -/
def fnDeltaSizeWrong : ChangeSpec := { name := "fnDeltaSize", fn := fun _ => fun
  | [d] => { results := [.lit (.bool false)], args := [d] }
  | _ => none }
def FnDeltaSizeWrongFalsely : Prop := fnDeltaSizeRow.holds Try.pinned (OpenSpec.ofChange fnDeltaSizeWrong)

/-- 'laws.FnExactDeltaMake': WHATEVER THE INPUT: true; the input reads as it did. -/
def fnExactDeltaMakeSpec : ChangeSpec := { name := "fnExactDeltaMake", fn := fun _ => fun
  | [d1, d2] => { results := [.lit (.bool true)], args := [d1, d2] }
  | _ => none }
def fnExactDeltaMakeRow : OpenClaim := { program := "ytbhidkcljekobaa", sum := "51c76a188fead39f21792fcac5161affc54ccbdd7ef766d6a3066915e1fc676c", func := "loop.example/atomicpush/laws.FnExactDeltaMake", spec := "fnExactDeltaMake", inPlace := ["internal/bytealg.IndexByteString", "internal/bytealg.IndexString"], named := ["internal/bytealg.MaxLen"], apart := false }
def FnExactDeltaMakeSaid : Prop := fnExactDeltaMakeRow.holds Try.pinned (OpenSpec.ofChange fnExactDeltaMakeSpec)

/-- ITS FALSE NEIGHBOUR: 'it returns false'. Refute it at one input. -/
def fnExactDeltaMakeWrong : ChangeSpec := { name := "fnExactDeltaMake", fn := fun _ => fun
  | [d1, d2] => { results := [.lit (.bool false)], args := [d1, d2] }
  | _ => none }
def FnExactDeltaMakeWrongFalsely : Prop := fnExactDeltaMakeRow.holds Try.pinned (OpenSpec.ofChange fnExactDeltaMakeWrong)

/- THE SECOND FORM. 'bulk': how many values and letters a reading holds, each counted each time it is reached (what is shared counts as often as it is met; a slice's spare places count too). A statement '..UptoSaid' is the law's where the arguments, and the package variables that the reading takes, are together of bulk at most 1048576: NARROWER than '..Said'. Prove '..Said' where nothing that the law and all that it calls make is longer than what came in: it says more and counts as full. Else prove '..UptoSaid'. A law counts once. -/
mutual
def uptoBulk {H : Type} : DataW H → Nat
  | .lit (.string bytes) => bytes.length + 1
  | .lit _ => 1
  | .nil => 1
  | .ptr d => uptoBulk d + 1
  | .slice elems spare => uptoBulkAll elems + uptoBulkAll spare + 1
  | .agg parts => uptoBulkAll parts + 1
  | .iface _ d => uptoBulk d + 1
  | .map entries => uptoBulkEntries entries + 1
  | .held _ => 1
def uptoBulkAll {H : Type} : List (DataW H) → Nat
  | [] => 0
  | d :: r => uptoBulk d + uptoBulkAll r
def uptoBulkEntries {H : Type} : List (Lit × DataW H) → Nat
  | [] => 0
  | x :: r => uptoBulkEntry x + uptoBulkEntries r
def uptoBulkEntry {H : Type} : Lit × DataW H → Nat
  | (.string bytes, d) => bytes.length + uptoBulk d + 1
  | (_, d) => uptoBulk d + 1
 end
def uptoSmall : (H : Type) → List (DataW H) → Bool := fun _ ds => decide (uptoBulkAll ds ≤ 1048576)
def OpenSpec.upto (s : _root_.Go.ChangeSpec) : _root_.Go.OpenSpec := { _root_.Go.OpenSpec.ofChange s with cond := some uptoSmall }

/-- 'laws.FnSizeSum', WHERE WHAT IT READS IS OF BULK AT MOST 1048576: true; the input reads as it did. -/
def fnSizeSumUptoRow : OpenClaim := { program := "ytbhidkcljekobaa", sum := "51c76a188fead39f21792fcac5161affc54ccbdd7ef766d6a3066915e1fc676c", func := "loop.example/atomicpush/laws.FnSizeSum", spec := "fnSizeSum", apart := false, narrowed := true }
def FnSizeSumUptoSaid : Prop := fnSizeSumUptoRow.holds Try.pinned (OpenSpec.upto fnSizeSumSpec)

/-- 'laws.FnExactDeltaSize', WHERE WHAT IT READS IS OF BULK AT MOST 1048576: true; the input reads as it did. -/
def fnExactDeltaSizeUptoRow : OpenClaim := { program := "ytbhidkcljekobaa", sum := "51c76a188fead39f21792fcac5161affc54ccbdd7ef766d6a3066915e1fc676c", func := "loop.example/atomicpush/laws.FnExactDeltaSize", spec := "fnExactDeltaSize", apart := false, narrowed := true }
def FnExactDeltaSizeUptoSaid : Prop := fnExactDeltaSizeUptoRow.holds Try.pinned (OpenSpec.upto fnExactDeltaSizeSpec)

/-- 'laws.FnExactPackDepth', WHERE WHAT IT READS IS OF BULK AT MOST 1048576: true; the input reads as it did. -/
def fnExactPackDepthUptoRow : OpenClaim := { program := "ytbhidkcljekobaa", sum := "51c76a188fead39f21792fcac5161affc54ccbdd7ef766d6a3066915e1fc676c", func := "loop.example/atomicpush/laws.FnExactPackDepth", spec := "fnExactPackDepth", apart := false, narrowed := true }
def FnExactPackDepthUptoSaid : Prop := fnExactPackDepthUptoRow.holds Try.pinned (OpenSpec.upto fnExactPackDepthSpec)

/-- 'laws.FnDeltaCopies', WHERE WHAT IT READS IS OF BULK AT MOST 1048576: true; the input reads as it did. -/
def fnDeltaCopiesUptoRow : OpenClaim := { program := "ytbhidkcljekobaa", sum := "51c76a188fead39f21792fcac5161affc54ccbdd7ef766d6a3066915e1fc676c", func := "loop.example/atomicpush/laws.FnDeltaCopies", spec := "fnDeltaCopies", inPlace := ["internal/bytealg.IndexByteString", "internal/bytealg.IndexString"], named := ["internal/bytealg.MaxLen"], apart := false, narrowed := true }
def FnDeltaCopiesUptoSaid : Prop := fnDeltaCopiesUptoRow.holds Try.pinned (OpenSpec.upto fnDeltaCopiesSpec)

/-- 'laws.FnDeltaNone', WHERE WHAT IT READS IS OF BULK AT MOST 1048576: true; the input reads as it did. -/
def fnDeltaNoneUptoRow : OpenClaim := { program := "ytbhidkcljekobaa", sum := "51c76a188fead39f21792fcac5161affc54ccbdd7ef766d6a3066915e1fc676c", func := "loop.example/atomicpush/laws.FnDeltaNone", spec := "fnDeltaNone", inPlace := ["internal/bytealg.IndexByteString", "internal/bytealg.IndexString"], named := ["internal/bytealg.MaxLen"], apart := false, narrowed := true }
def FnDeltaNoneUptoSaid : Prop := fnDeltaNoneUptoRow.holds Try.pinned (OpenSpec.upto fnDeltaNoneSpec)

/-- 'laws.FnDeltaOps', WHERE WHAT IT READS IS OF BULK AT MOST 1048576: true; the input reads as it did. -/
def fnDeltaOpsUptoRow : OpenClaim := { program := "ytbhidkcljekobaa", sum := "51c76a188fead39f21792fcac5161affc54ccbdd7ef766d6a3066915e1fc676c", func := "loop.example/atomicpush/laws.FnDeltaOps", spec := "fnDeltaOps", inPlace := ["internal/bytealg.IndexByteString", "internal/bytealg.IndexString"], named := ["internal/bytealg.MaxLen"], apart := false, narrowed := true }
def FnDeltaOpsUptoSaid : Prop := fnDeltaOpsUptoRow.holds Try.pinned (OpenSpec.upto fnDeltaOpsSpec)

/-- 'laws.FnDeltaSelf', WHERE WHAT IT READS IS OF BULK AT MOST 1048576: true; the input reads as it did. -/
def fnDeltaSelfUptoRow : OpenClaim := { program := "ytbhidkcljekobaa", sum := "51c76a188fead39f21792fcac5161affc54ccbdd7ef766d6a3066915e1fc676c", func := "loop.example/atomicpush/laws.FnDeltaSelf", spec := "fnDeltaSelf", inPlace := ["internal/bytealg.IndexByteString", "internal/bytealg.IndexString"], named := ["internal/bytealg.MaxLen"], apart := false, narrowed := true }
def FnDeltaSelfUptoSaid : Prop := fnDeltaSelfUptoRow.holds Try.pinned (OpenSpec.upto fnDeltaSelfSpec)

/-- 'laws.FnDeltaSize', WHERE WHAT IT READS IS OF BULK AT MOST 1048576: true; the input reads as it did. -/
def fnDeltaSizeUptoRow : OpenClaim := { program := "ytbhidkcljekobaa", sum := "51c76a188fead39f21792fcac5161affc54ccbdd7ef766d6a3066915e1fc676c", func := "loop.example/atomicpush/laws.FnDeltaSize", spec := "fnDeltaSize", inPlace := ["internal/bytealg.IndexByteString", "internal/bytealg.IndexString"], named := ["internal/bytealg.MaxLen"], apart := false, narrowed := true }
def FnDeltaSizeUptoSaid : Prop := fnDeltaSizeUptoRow.holds Try.pinned (OpenSpec.upto fnDeltaSizeSpec)

/-- 'laws.FnExactDeltaMake', WHERE WHAT IT READS IS OF BULK AT MOST 1048576: true; the input reads as it did. -/
def fnExactDeltaMakeUptoRow : OpenClaim := { program := "ytbhidkcljekobaa", sum := "51c76a188fead39f21792fcac5161affc54ccbdd7ef766d6a3066915e1fc676c", func := "loop.example/atomicpush/laws.FnExactDeltaMake", spec := "fnExactDeltaMake", inPlace := ["internal/bytealg.IndexByteString", "internal/bytealg.IndexString"], named := ["internal/bytealg.MaxLen"], apart := false, narrowed := true }
def FnExactDeltaMakeUptoSaid : Prop := fnExactDeltaMakeUptoRow.holds Try.pinned (OpenSpec.upto fnExactDeltaMakeSpec)

end Rows
end Go.Proofs.Ytbhidkcljekobaa
