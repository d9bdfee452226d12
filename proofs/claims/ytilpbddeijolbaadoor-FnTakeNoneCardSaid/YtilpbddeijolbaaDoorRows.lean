/-
  NARROWER THAN 'FOR EVERY INPUT', by the rows' own cells (each row's printed sentence says how): FnExactLocksTake: ifaces, laid · FnTake: ifaces, laid · FnTakeNone: ifaces, laid.
  DERIVED. THE GIVEN ROWS OF THIS SEAT. 3 by the template 'for every input the law returns true; each argument reads behind the call as it read before'; 0 by the template 'total and deterministic' (their statements: YtilpbddeijolbaaDoorTotals.lean).
  GIVEN WITH THE SEED: the statements are not yours to turn. If you find one false, say at which input.
  Laid BY PROGRAM, IN A SANDBOX (cutbox-rows.mjs): the forced cells as the released guide's own fill.sh prints them over the translation 0534cfed59f942ec… (all of the seat's roots in one cut). By AI agents, Wed Nov 11 2026. No macro, syntax, notation, axiom, sorry.
-/
import Derived.Test.YtilpbddeijolbaaDoorChecked
import GoSem.Claim
import GoSem.ClaimJoined
import GoSem.ClaimMapViews
import Derived.JoinedTies
import Derived.KernelRfl
namespace Go.Proofs.YtilpbddeijolbaaDoor
/- THE CELL 'sum', in the pinned program and in every row, IS THE sha256 OF THE DUMP (.gsa) THAT YtilpbddeijolbaaDoorProg.lean LOADS. Nothing in Lean hashes anything: it is a label: what it is worth is what the hold of that sum in a sandbox is worth. -/
noncomputable def Tryd.pinned : Pinned := { name := "ytilpbddeijolbaadoor", sum := "0534cfed59f942ec14cbde605c4f2fa80c0f6e2483da5fb5a841b304270e8c0a", checked := Tryd.checked }
namespace Rows
def none {H : Type} : Left H := { results := [], args := [] }

/- WHAT THE LISTED PACKAGE-LEVEL VARIABLES READ AS WHEN THE CALL BEGINS. Each datum BY PROGRAM (the guide's laid-datum.mjs) off the statement by which the dump's own 'gosem.cut.vars' lays the variable. In a bare row this is a premise. The card (YtilpbddeijolbaaDoorCards.lean) ties it to the program's text. -/
def laid_loop_example_atomicpush_impl_errLocked {H : Type} : DataW H := .iface "*errors.errorString" (.ptr (.agg [.lit (.string [108, 111, 99, 107, 101, 100])]))

/-- 'laws.FnExactLocksTake': WHATEVER THE INPUT: true; the input reads as it did. -/
def fnExactLocksTakeSpec : ChangeSpec := { name := "fnExactLocksTake", vars := ["loop.example/atomicpush/impl.errLocked"], fn := fun _ => fun
  | [d1, d2, d3, g1] => { results := [.lit (.bool true)], args := [d1, d2, d3], vars := [g1] }
  | _ => none }
def fnExactLocksTakeRow : OpenClaim := { program := "ytilpbddeijolbaadoor", sum := "0534cfed59f942ec14cbde605c4f2fa80c0f6e2483da5fb5a841b304270e8c0a", func := "loop.example/atomicpush/laws.FnExactLocksTake", spec := "fnExactLocksTake", inPlace := ["internal/reflectlite.TypeOf"], unfollowed := true, recurses := true, named := ["loop.example/atomicpush/impl.errLocked"], ifaces := true, apart := false, laid := [("loop.example/atomicpush/impl.errLocked", laid_loop_example_atomicpush_impl_errLocked)] }
def FnExactLocksTakeSaid : Prop := fnExactLocksTakeRow.holds Tryd.pinned (OpenSpec.ofChange fnExactLocksTakeSpec)

/-- ITS FALSE NEIGHBOUR: 'it returns false'. Refute it at one input. -/
def fnExactLocksTakeWrong : ChangeSpec := { name := "fnExactLocksTake", vars := ["loop.example/atomicpush/impl.errLocked"], fn := fun _ => fun
  | [d1, d2, d3, g1] => { results := [.lit (.bool false)], args := [d1, d2, d3], vars := [g1] }
  | _ => none }
def FnExactLocksTakeWrongFalsely : Prop := fnExactLocksTakeRow.holds Tryd.pinned (OpenSpec.ofChange fnExactLocksTakeWrong)

/-- 'laws.FnTake': WHATEVER THE INPUT: true; the input reads as it did. -/
def fnTakeSpec : ChangeSpec := { name := "fnTake", vars := ["loop.example/atomicpush/impl.errLocked"], fn := fun _ => fun
  | [d, g1] => { results := [.lit (.bool true)], args := [d], vars := [g1] }
  | _ => none }
def fnTakeRow : OpenClaim := { program := "ytilpbddeijolbaadoor", sum := "0534cfed59f942ec14cbde605c4f2fa80c0f6e2483da5fb5a841b304270e8c0a", func := "loop.example/atomicpush/laws.FnTake", spec := "fnTake", inPlace := ["internal/reflectlite.TypeOf"], unfollowed := true, recurses := true, named := ["loop.example/atomicpush/impl.errLocked"], ifaces := true, apart := false, laid := [("loop.example/atomicpush/impl.errLocked", laid_loop_example_atomicpush_impl_errLocked)] }
def FnTakeSaid : Prop := fnTakeRow.holds Tryd.pinned (OpenSpec.ofChange fnTakeSpec)

/-- ITS FALSE NEIGHBOUR: 'it returns false'. Refute it at one input. -/
def fnTakeWrong : ChangeSpec := { name := "fnTake", vars := ["loop.example/atomicpush/impl.errLocked"], fn := fun _ => fun
  | [d, g1] => { results := [.lit (.bool false)], args := [d], vars := [g1] }
  | _ => none }
def FnTakeWrongFalsely : Prop := fnTakeRow.holds Tryd.pinned (OpenSpec.ofChange fnTakeWrong)

/-- 'laws.FnTakeNone': WHATEVER THE INPUT: true; the input reads as it did. -/
def fnTakeNoneSpec : ChangeSpec := { name := "fnTakeNone", vars := ["loop.example/atomicpush/impl.errLocked"], fn := fun _ => fun
  | [d, g1] => { results := [.lit (.bool true)], args := [d], vars := [g1] }
  | _ => none }
def fnTakeNoneRow : OpenClaim := { program := "ytilpbddeijolbaadoor", sum := "0534cfed59f942ec14cbde605c4f2fa80c0f6e2483da5fb5a841b304270e8c0a", func := "loop.example/atomicpush/laws.FnTakeNone", spec := "fnTakeNone", inPlace := ["internal/reflectlite.TypeOf"], unfollowed := true, recurses := true, named := ["loop.example/atomicpush/impl.errLocked"], ifaces := true, apart := false, laid := [("loop.example/atomicpush/impl.errLocked", laid_loop_example_atomicpush_impl_errLocked)] }
def FnTakeNoneSaid : Prop := fnTakeNoneRow.holds Tryd.pinned (OpenSpec.ofChange fnTakeNoneSpec)

/-- ITS FALSE NEIGHBOUR: 'it returns false'. Refute it at one input. -/
def fnTakeNoneWrong : ChangeSpec := { name := "fnTakeNone", vars := ["loop.example/atomicpush/impl.errLocked"], fn := fun _ => fun
  | [d, g1] => { results := [.lit (.bool false)], args := [d], vars := [g1] }
  | _ => none }
def FnTakeNoneWrongFalsely : Prop := fnTakeNoneRow.holds Tryd.pinned (OpenSpec.ofChange fnTakeNoneWrong)

/- THE SECOND FORM. 'bulk': how many values and letters a reading holds, each counted each time it is reached (what is shared counts as often as it is met; a slice's spare places count too). A statement '..UptoSaid' is the law's where the arguments, and the package variables that the reading takes, are together of bulk at most 1048576: NARROWER than '..Said'. Prove '..Said' where nothing that the law and all that it calls make is longer than what came in: it says more and counts as full. Else prove '..UptoSaid'. A law counts once. -/
mutual
def uptoBulk {H : Type} : DataW H → Nat
  | .lit (.string bytes) => bytes.length + 1
  | .lit _ => 1
  | .nil => 1
  | .ptr d => uptoBulk d + 1
  | .slice elems spare => uptoBulkAll elems + uptoBulkAll spare + 1
  | .agg parts => uptoBulkAll parts + 1
  | .iface _ d => uptoBulk d + 1
  | .map entries => uptoBulkEntries entries + 1
  | .held _ => 1
def uptoBulkAll {H : Type} : List (DataW H) → Nat
  | [] => 0
  | d :: r => uptoBulk d + uptoBulkAll r
def uptoBulkEntries {H : Type} : List (Lit × DataW H) → Nat
  | [] => 0
  | x :: r => uptoBulkEntry x + uptoBulkEntries r
def uptoBulkEntry {H : Type} : Lit × DataW H → Nat
  | (.string bytes, d) => bytes.length + uptoBulk d + 1
  | (_, d) => uptoBulk d + 1
 end
def uptoSmall : (H : Type) → List (DataW H) → Bool := fun _ ds => decide (uptoBulkAll ds ≤ 1048576)
def OpenSpec.upto (s : _root_.Go.ChangeSpec) : _root_.Go.OpenSpec := { _root_.Go.OpenSpec.ofChange s with cond := some uptoSmall }

/-- 'laws.FnExactLocksTake', WHERE WHAT IT READS IS OF BULK AT MOST 1048576: true; the input reads as it did. -/
def fnExactLocksTakeUptoRow : OpenClaim := { program := "ytilpbddeijolbaadoor", sum := "0534cfed59f942ec14cbde605c4f2fa80c0f6e2483da5fb5a841b304270e8c0a", func := "loop.example/atomicpush/laws.FnExactLocksTake", spec := "fnExactLocksTake", inPlace := ["internal/reflectlite.TypeOf"], unfollowed := true, recurses := true, named := ["loop.example/atomicpush/impl.errLocked"], ifaces := true, apart := false, laid := [("loop.example/atomicpush/impl.errLocked", laid_loop_example_atomicpush_impl_errLocked)], narrowed := true }
def FnExactLocksTakeUptoSaid : Prop := fnExactLocksTakeUptoRow.holds Tryd.pinned (OpenSpec.upto fnExactLocksTakeSpec)

/-- 'laws.FnTake', WHERE WHAT IT READS IS OF BULK AT MOST 1048576: true; the input reads as it did. -/
def fnTakeUptoRow : OpenClaim := { program := "ytilpbddeijolbaadoor", sum := "0534cfed59f942ec14cbde605c4f2fa80c0f6e2483da5fb5a841b304270e8c0a", func := "loop.example/atomicpush/laws.FnTake", spec := "fnTake", inPlace := ["internal/reflectlite.TypeOf"], unfollowed := true, recurses := true, named := ["loop.example/atomicpush/impl.errLocked"], ifaces := true, apart := false, laid := [("loop.example/atomicpush/impl.errLocked", laid_loop_example_atomicpush_impl_errLocked)], narrowed := true }
def FnTakeUptoSaid : Prop := fnTakeUptoRow.holds Tryd.pinned (OpenSpec.upto fnTakeSpec)

/-- 'laws.FnTakeNone', WHERE WHAT IT READS IS OF BULK AT MOST 1048576: true; the input reads as it did. -/
def fnTakeNoneUptoRow : OpenClaim := { program := "ytilpbddeijolbaadoor", sum := "0534cfed59f942ec14cbde605c4f2fa80c0f6e2483da5fb5a841b304270e8c0a", func := "loop.example/atomicpush/laws.FnTakeNone", spec := "fnTakeNone", inPlace := ["internal/reflectlite.TypeOf"], unfollowed := true, recurses := true, named := ["loop.example/atomicpush/impl.errLocked"], ifaces := true, apart := false, laid := [("loop.example/atomicpush/impl.errLocked", laid_loop_example_atomicpush_impl_errLocked)], narrowed := true }
def FnTakeNoneUptoSaid : Prop := fnTakeNoneUptoRow.holds Tryd.pinned (OpenSpec.upto fnTakeNoneSpec)

end Rows
end Go.Proofs.YtilpbddeijolbaaDoor
