/-
  NARROWER THAN 'FOR EVERY INPUT', by the rows' own cells (each row's printed sentence says how): FnMatchExact: laid · FnMatchStar: laid · FnClashParts: laid · FnExactNameValid: laid · FnExactNameClashes: laid · FnNameBad: laid · FnNameLong: laid · FnExactNameMatches: laid · FnExactNameParts: laid · FnMatchSelf: laid · FnNameParts: laid · FnPartsCount: laid · FnClash: laid · FnClashNot: laid · FnMatchOne: laid.
  DERIVED. THE GIVEN ROWS OF THIS SEAT. 15 by the template 'for every input the law returns true; each argument reads behind the call as it read before'; 0 by the template 'total and deterministic' (their statements: YtjmnnogpinggmaaDoorTotals.lean).
  GIVEN WITH THE SEED: the statements are not yours to turn. If you find one false, say at which input.
  Laid BY PROGRAM, IN A SANDBOX (cutbox-rows.mjs): the forced cells as the released guide's own fill.sh prints them over the translation c003cd619620d8c5… (all of the seat's roots in one cut). By AI agents, Wed Nov 11 2026. No macro, syntax, notation, axiom, sorry.
-/
import Derived.Test.YtjmnnogpinggmaaDoorChecked
import GoSem.PinnedTables
import GoSem.Claim
import GoSem.ClaimJoined
import GoSem.ClaimMapViews
import Derived.JoinedTies
import Derived.KernelRfl
namespace Go.Proofs.YtjmnnogpinggmaaDoor
/- THE CELL 'sum', in the pinned program and in every row, IS THE sha256 OF THE DUMP (.gsa) THAT YtjmnnogpinggmaaDoorProg.lean LOADS. Nothing in Lean hashes anything: it is a label: what it is worth is what the hold of that sum in a sandbox is worth. -/
noncomputable def Tryd.pinned : Pinned := { name := "ytjmnnogpinggmaadoor", sum := "c003cd619620d8c53c3c448bb2af600f7847eeb743cf205f73b40d101e86b70b", checked := Tryd.checked }
namespace Rows
def none {H : Type} : Left H := { results := [], args := [] }

/- WHAT THE LISTED PACKAGE-LEVEL VARIABLES READ AS WHEN THE CALL BEGINS. Each datum BY PROGRAM (the guide's laid-datum.mjs) off the statement by which the dump's own 'gosem.cut.vars' lays the variable. In a bare row this is a premise. The card (YtjmnnogpinggmaaDoorCards.lean) ties it to the program's text. -/
def laid_unicode_utf8_acceptRanges {H : Type} : DataW H := .agg [.agg [.lit (.int .u8 128), .lit (.int .u8 191)], .agg [.lit (.int .u8 160), .lit (.int .u8 191)], .agg [.lit (.int .u8 128), .lit (.int .u8 159)], .agg [.lit (.int .u8 144), .lit (.int .u8 191)], .agg [.lit (.int .u8 128), .lit (.int .u8 143)], .agg [.lit (.int .u8 0), .lit (.int .u8 0)], .agg [.lit (.int .u8 0), .lit (.int .u8 0)], .agg [.lit (.int .u8 0), .lit (.int .u8 0)], .agg [.lit (.int .u8 0), .lit (.int .u8 0)], .agg [.lit (.int .u8 0), .lit (.int .u8 0)], .agg [.lit (.int .u8 0), .lit (.int .u8 0)], .agg [.lit (.int .u8 0), .lit (.int .u8 0)], .agg [.lit (.int .u8 0), .lit (.int .u8 0)], .agg [.lit (.int .u8 0), .lit (.int .u8 0)], .agg [.lit (.int .u8 0), .lit (.int .u8 0)], .agg [.lit (.int .u8 0), .lit (.int .u8 0)]]
/-- One of Go's own tables, pinned by name: the form's constant. -/
def laid_unicode_utf8_first : DataW Unit := Go.Pinned.utf8First

/-- 'laws.FnMatchExact': WHATEVER THE INPUT: true; the input reads as it did. -/
def fnMatchExactSpec : ChangeSpec := { name := "fnMatchExact", fn := fun _ => fun
  | [d] => { results := [.lit (.bool true)], args := [d] }
  | _ => none }
def fnMatchExactRow : OpenClaim := { program := "ytjmnnogpinggmaadoor", sum := "c003cd619620d8c53c3c448bb2af600f7847eeb743cf205f73b40d101e86b70b", func := "loop.example/atomicpush/laws.FnMatchExact", spec := "fnMatchExact", inPlace := ["internal/bytealg.CountString", "internal/bytealg.IndexByteString", "internal/bytealg.IndexString"], unfollowed := true, recurses := true, named := ["unicode/utf8.first", "unicode/utf8.acceptRanges", "internal/bytealg.MaxLen"], apart := false, laid := [("unicode/utf8.acceptRanges", laid_unicode_utf8_acceptRanges), ("unicode/utf8.first", laid_unicode_utf8_first)] }
def FnMatchExactSaid : Prop := fnMatchExactRow.holds Tryd.pinned (OpenSpec.ofChange fnMatchExactSpec)

/-- ITS FALSE NEIGHBOUR: 'it returns false'. Refute it at one input. -/
def fnMatchExactWrong : ChangeSpec := { name := "fnMatchExact", fn := fun _ => fun
  | [d] => { results := [.lit (.bool false)], args := [d] }
  | _ => none }
def FnMatchExactWrongFalsely : Prop := fnMatchExactRow.holds Tryd.pinned (OpenSpec.ofChange fnMatchExactWrong)

/-- 'laws.FnMatchStar': WHATEVER THE INPUT: true; the input reads as it did. -/
def fnMatchStarSpec : ChangeSpec := { name := "fnMatchStar", fn := fun _ => fun
  | [d] => { results := [.lit (.bool true)], args := [d] }
  | _ => none }
def fnMatchStarRow : OpenClaim := { program := "ytjmnnogpinggmaadoor", sum := "c003cd619620d8c53c3c448bb2af600f7847eeb743cf205f73b40d101e86b70b", func := "loop.example/atomicpush/laws.FnMatchStar", spec := "fnMatchStar", inPlace := ["internal/bytealg.CountString", "internal/bytealg.IndexByteString", "internal/bytealg.IndexString"], unfollowed := true, recurses := true, named := ["unicode/utf8.first", "unicode/utf8.acceptRanges", "internal/bytealg.MaxLen"], apart := false, laid := [("unicode/utf8.acceptRanges", laid_unicode_utf8_acceptRanges), ("unicode/utf8.first", laid_unicode_utf8_first)] }
def FnMatchStarSaid : Prop := fnMatchStarRow.holds Tryd.pinned (OpenSpec.ofChange fnMatchStarSpec)

/-- ITS FALSE NEIGHBOUR: 'it returns false'. Refute it at one input. -/
def fnMatchStarWrong : ChangeSpec := { name := "fnMatchStar", fn := fun _ => fun
  | [d] => { results := [.lit (.bool false)], args := [d] }
  | _ => none }
def FnMatchStarWrongFalsely : Prop := fnMatchStarRow.holds Tryd.pinned (OpenSpec.ofChange fnMatchStarWrong)

/-- 'laws.FnClashParts': WHATEVER THE INPUT: true; the input reads as it did. -/
def fnClashPartsSpec : ChangeSpec := { name := "fnClashParts", fn := fun _ => fun
  | [d] => { results := [.lit (.bool true)], args := [d] }
  | _ => none }
def fnClashPartsRow : OpenClaim := { program := "ytjmnnogpinggmaadoor", sum := "c003cd619620d8c53c3c448bb2af600f7847eeb743cf205f73b40d101e86b70b", func := "loop.example/atomicpush/laws.FnClashParts", spec := "fnClashParts", inPlace := ["internal/bytealg.CountString", "internal/bytealg.IndexByteString", "internal/bytealg.IndexString"], unfollowed := true, recurses := true, named := ["unicode/utf8.first", "unicode/utf8.acceptRanges", "internal/bytealg.MaxLen"], apart := false, laid := [("unicode/utf8.acceptRanges", laid_unicode_utf8_acceptRanges), ("unicode/utf8.first", laid_unicode_utf8_first)] }
def FnClashPartsSaid : Prop := fnClashPartsRow.holds Tryd.pinned (OpenSpec.ofChange fnClashPartsSpec)

/-- ITS FALSE NEIGHBOUR: 'it returns false'. Refute it at one input. -/
def fnClashPartsWrong : ChangeSpec := { name := "fnClashParts", fn := fun _ => fun
  | [d] => { results := [.lit (.bool false)], args := [d] }
  | _ => none }
def FnClashPartsWrongFalsely : Prop := fnClashPartsRow.holds Tryd.pinned (OpenSpec.ofChange fnClashPartsWrong)

/-- 'laws.FnExactNameValid': WHATEVER THE INPUT: true; the input reads as it did. -/
def fnExactNameValidSpec : ChangeSpec := { name := "fnExactNameValid", fn := fun _ => fun
  | [d] => { results := [.lit (.bool true)], args := [d] }
  | _ => none }
def fnExactNameValidRow : OpenClaim := { program := "ytjmnnogpinggmaadoor", sum := "c003cd619620d8c53c3c448bb2af600f7847eeb743cf205f73b40d101e86b70b", func := "loop.example/atomicpush/laws.FnExactNameValid", spec := "fnExactNameValid", inPlace := ["internal/bytealg.CountString", "internal/bytealg.IndexByteString", "internal/bytealg.IndexString"], unfollowed := true, recurses := true, named := ["unicode/utf8.first", "unicode/utf8.acceptRanges", "internal/bytealg.MaxLen"], apart := false, laid := [("unicode/utf8.acceptRanges", laid_unicode_utf8_acceptRanges), ("unicode/utf8.first", laid_unicode_utf8_first)] }
def FnExactNameValidSaid : Prop := fnExactNameValidRow.holds Tryd.pinned (OpenSpec.ofChange fnExactNameValidSpec)

/-- ITS FALSE NEIGHBOUR: 'it returns false'. Refute it at one input. -/
def fnExactNameValidWrong : ChangeSpec := { name := "fnExactNameValid", fn := fun _ => fun
  | [d] => { results := [.lit (.bool false)], args := [d] }
  | _ => none }
def FnExactNameValidWrongFalsely : Prop := fnExactNameValidRow.holds Tryd.pinned (OpenSpec.ofChange fnExactNameValidWrong)

/-- 'laws.FnExactNameClashes': WHATEVER THE INPUT: true; the input reads as it did. -/
def fnExactNameClashesSpec : ChangeSpec := { name := "fnExactNameClashes", fn := fun _ => fun
  | [d1, d2] => { results := [.lit (.bool true)], args := [d1, d2] }
  | _ => none }
def fnExactNameClashesRow : OpenClaim := { program := "ytjmnnogpinggmaadoor", sum := "c003cd619620d8c53c3c448bb2af600f7847eeb743cf205f73b40d101e86b70b", func := "loop.example/atomicpush/laws.FnExactNameClashes", spec := "fnExactNameClashes", inPlace := ["internal/bytealg.CountString", "internal/bytealg.IndexByteString", "internal/bytealg.IndexString"], unfollowed := true, recurses := true, named := ["unicode/utf8.first", "unicode/utf8.acceptRanges", "internal/bytealg.MaxLen"], apart := false, laid := [("unicode/utf8.acceptRanges", laid_unicode_utf8_acceptRanges), ("unicode/utf8.first", laid_unicode_utf8_first)] }
def FnExactNameClashesSaid : Prop := fnExactNameClashesRow.holds Tryd.pinned (OpenSpec.ofChange fnExactNameClashesSpec)

/-- ITS FALSE NEIGHBOUR: 'it returns false'. Refute it at one input. -/
def fnExactNameClashesWrong : ChangeSpec := { name := "fnExactNameClashes", fn := fun _ => fun
  | [d1, d2] => { results := [.lit (.bool false)], args := [d1, d2] }
  | _ => none }
def FnExactNameClashesWrongFalsely : Prop := fnExactNameClashesRow.holds Tryd.pinned (OpenSpec.ofChange fnExactNameClashesWrong)

/-- 'laws.FnNameBad': WHATEVER THE INPUT: true; the input reads as it did. -/
def fnNameBadSpec : ChangeSpec := { name := "fnNameBad", fn := fun _ => fun
  | [d] => { results := [.lit (.bool true)], args := [d] }
  | _ => none }
def fnNameBadRow : OpenClaim := { program := "ytjmnnogpinggmaadoor", sum := "c003cd619620d8c53c3c448bb2af600f7847eeb743cf205f73b40d101e86b70b", func := "loop.example/atomicpush/laws.FnNameBad", spec := "fnNameBad", inPlace := ["internal/bytealg.CountString", "internal/bytealg.IndexByteString", "internal/bytealg.IndexString"], unfollowed := true, recurses := true, named := ["unicode/utf8.first", "unicode/utf8.acceptRanges", "internal/bytealg.MaxLen"], apart := false, laid := [("unicode/utf8.acceptRanges", laid_unicode_utf8_acceptRanges), ("unicode/utf8.first", laid_unicode_utf8_first)] }
def FnNameBadSaid : Prop := fnNameBadRow.holds Tryd.pinned (OpenSpec.ofChange fnNameBadSpec)

/-- ITS FALSE NEIGHBOUR: 'it returns false'. Refute it at one input. -/
def fnNameBadWrong : ChangeSpec := { name := "fnNameBad", fn := fun _ => fun
  | [d] => { results := [.lit (.bool false)], args := [d] }
  | _ => none }
def FnNameBadWrongFalsely : Prop := fnNameBadRow.holds Tryd.pinned (OpenSpec.ofChange fnNameBadWrong)

/-- 'laws.FnNameLong': WHATEVER THE INPUT: true; the input reads as it did. -/
def fnNameLongSpec : ChangeSpec := { name := "fnNameLong", fn := fun _ => fun
  | [d] => { results := [.lit (.bool true)], args := [d] }
  | _ => none }
def fnNameLongRow : OpenClaim := { program := "ytjmnnogpinggmaadoor", sum := "c003cd619620d8c53c3c448bb2af600f7847eeb743cf205f73b40d101e86b70b", func := "loop.example/atomicpush/laws.FnNameLong", spec := "fnNameLong", inPlace := ["internal/bytealg.CountString", "internal/bytealg.IndexByteString", "internal/bytealg.IndexString"], unfollowed := true, recurses := true, named := ["unicode/utf8.first", "unicode/utf8.acceptRanges", "internal/bytealg.MaxLen"], apart := false, laid := [("unicode/utf8.acceptRanges", laid_unicode_utf8_acceptRanges), ("unicode/utf8.first", laid_unicode_utf8_first)] }
def FnNameLongSaid : Prop := fnNameLongRow.holds Tryd.pinned (OpenSpec.ofChange fnNameLongSpec)

/-- ITS FALSE NEIGHBOUR: 'it returns false'. Refute it at one input. -/
def fnNameLongWrong : ChangeSpec := { name := "fnNameLong", fn := fun _ => fun
  | [d] => { results := [.lit (.bool false)], args := [d] }
  | _ => none }
def FnNameLongWrongFalsely : Prop := fnNameLongRow.holds Tryd.pinned (OpenSpec.ofChange fnNameLongWrong)

/-- 'laws.FnExactNameMatches': WHATEVER THE INPUT: true; the input reads as it did. -/
def fnExactNameMatchesSpec : ChangeSpec := { name := "fnExactNameMatches", fn := fun _ => fun
  | [d1, d2] => { results := [.lit (.bool true)], args := [d1, d2] }
  | _ => none }
def fnExactNameMatchesRow : OpenClaim := { program := "ytjmnnogpinggmaadoor", sum := "c003cd619620d8c53c3c448bb2af600f7847eeb743cf205f73b40d101e86b70b", func := "loop.example/atomicpush/laws.FnExactNameMatches", spec := "fnExactNameMatches", inPlace := ["internal/bytealg.CountString", "internal/bytealg.IndexByteString", "internal/bytealg.IndexString"], unfollowed := true, recurses := true, named := ["unicode/utf8.first", "unicode/utf8.acceptRanges", "internal/bytealg.MaxLen"], apart := false, laid := [("unicode/utf8.acceptRanges", laid_unicode_utf8_acceptRanges), ("unicode/utf8.first", laid_unicode_utf8_first)] }
def FnExactNameMatchesSaid : Prop := fnExactNameMatchesRow.holds Tryd.pinned (OpenSpec.ofChange fnExactNameMatchesSpec)

/-- ITS FALSE NEIGHBOUR: 'it returns false'. Refute it at one input. -/
def fnExactNameMatchesWrong : ChangeSpec := { name := "fnExactNameMatches", fn := fun _ => fun
  | [d1, d2] => { results := [.lit (.bool false)], args := [d1, d2] }
  | _ => none }
def FnExactNameMatchesWrongFalsely : Prop := fnExactNameMatchesRow.holds Tryd.pinned (OpenSpec.ofChange fnExactNameMatchesWrong)

/-- 'laws.FnExactNameParts': WHATEVER THE INPUT: true; the input reads as it did. -/
def fnExactNamePartsSpec : ChangeSpec := { name := "fnExactNameParts", fn := fun _ => fun
  | [d] => { results := [.lit (.bool true)], args := [d] }
  | _ => none }
def fnExactNamePartsRow : OpenClaim := { program := "ytjmnnogpinggmaadoor", sum := "c003cd619620d8c53c3c448bb2af600f7847eeb743cf205f73b40d101e86b70b", func := "loop.example/atomicpush/laws.FnExactNameParts", spec := "fnExactNameParts", inPlace := ["internal/bytealg.CountString", "internal/bytealg.IndexByteString", "internal/bytealg.IndexString"], unfollowed := true, recurses := true, named := ["unicode/utf8.first", "unicode/utf8.acceptRanges", "internal/bytealg.MaxLen"], apart := false, laid := [("unicode/utf8.acceptRanges", laid_unicode_utf8_acceptRanges), ("unicode/utf8.first", laid_unicode_utf8_first)] }
def FnExactNamePartsSaid : Prop := fnExactNamePartsRow.holds Tryd.pinned (OpenSpec.ofChange fnExactNamePartsSpec)

/-- ITS FALSE NEIGHBOUR: 'it returns false'. Refute it at one input. -/
def fnExactNamePartsWrong : ChangeSpec := { name := "fnExactNameParts", fn := fun _ => fun
  | [d] => { results := [.lit (.bool false)], args := [d] }
  | _ => none }
def FnExactNamePartsWrongFalsely : Prop := fnExactNamePartsRow.holds Tryd.pinned (OpenSpec.ofChange fnExactNamePartsWrong)

/-- 'laws.FnMatchSelf': WHATEVER THE INPUT: true; the input reads as it did. -/
def fnMatchSelfSpec : ChangeSpec := { name := "fnMatchSelf", fn := fun _ => fun
  | [d] => { results := [.lit (.bool true)], args := [d] }
  | _ => none }
def fnMatchSelfRow : OpenClaim := { program := "ytjmnnogpinggmaadoor", sum := "c003cd619620d8c53c3c448bb2af600f7847eeb743cf205f73b40d101e86b70b", func := "loop.example/atomicpush/laws.FnMatchSelf", spec := "fnMatchSelf", inPlace := ["internal/bytealg.CountString", "internal/bytealg.IndexByteString", "internal/bytealg.IndexString"], unfollowed := true, recurses := true, named := ["unicode/utf8.first", "unicode/utf8.acceptRanges", "internal/bytealg.MaxLen"], apart := false, laid := [("unicode/utf8.acceptRanges", laid_unicode_utf8_acceptRanges), ("unicode/utf8.first", laid_unicode_utf8_first)] }
def FnMatchSelfSaid : Prop := fnMatchSelfRow.holds Tryd.pinned (OpenSpec.ofChange fnMatchSelfSpec)

/-- ITS FALSE NEIGHBOUR: 'it returns false'. Refute it at one input. -/
def fnMatchSelfWrong : ChangeSpec := { name := "fnMatchSelf", fn := fun _ => fun
  | [d] => { results := [.lit (.bool false)], args := [d] }
  | _ => none }
def FnMatchSelfWrongFalsely : Prop := fnMatchSelfRow.holds Tryd.pinned (OpenSpec.ofChange fnMatchSelfWrong)

/-- 'laws.FnNameParts': WHATEVER THE INPUT: true; the input reads as it did. -/
def fnNamePartsSpec : ChangeSpec := { name := "fnNameParts", fn := fun _ => fun
  | [d] => { results := [.lit (.bool true)], args := [d] }
  | _ => none }
def fnNamePartsRow : OpenClaim := { program := "ytjmnnogpinggmaadoor", sum := "c003cd619620d8c53c3c448bb2af600f7847eeb743cf205f73b40d101e86b70b", func := "loop.example/atomicpush/laws.FnNameParts", spec := "fnNameParts", inPlace := ["internal/bytealg.CountString", "internal/bytealg.IndexByteString", "internal/bytealg.IndexString"], unfollowed := true, recurses := true, named := ["unicode/utf8.first", "unicode/utf8.acceptRanges", "internal/bytealg.MaxLen"], apart := false, laid := [("unicode/utf8.acceptRanges", laid_unicode_utf8_acceptRanges), ("unicode/utf8.first", laid_unicode_utf8_first)] }
def FnNamePartsSaid : Prop := fnNamePartsRow.holds Tryd.pinned (OpenSpec.ofChange fnNamePartsSpec)

/-- ITS FALSE NEIGHBOUR: 'it returns false'. Refute it at one input. -/
def fnNamePartsWrong : ChangeSpec := { name := "fnNameParts", fn := fun _ => fun
  | [d] => { results := [.lit (.bool false)], args := [d] }
  | _ => none }
def FnNamePartsWrongFalsely : Prop := fnNamePartsRow.holds Tryd.pinned (OpenSpec.ofChange fnNamePartsWrong)

/-- 'laws.FnPartsCount': WHATEVER THE INPUT: true; the input reads as it did. -/
def fnPartsCountSpec : ChangeSpec := { name := "fnPartsCount", fn := fun _ => fun
  | [d] => { results := [.lit (.bool true)], args := [d] }
  | _ => none }
def fnPartsCountRow : OpenClaim := { program := "ytjmnnogpinggmaadoor", sum := "c003cd619620d8c53c3c448bb2af600f7847eeb743cf205f73b40d101e86b70b", func := "loop.example/atomicpush/laws.FnPartsCount", spec := "fnPartsCount", inPlace := ["internal/bytealg.CountString", "internal/bytealg.IndexByteString", "internal/bytealg.IndexString"], unfollowed := true, recurses := true, named := ["unicode/utf8.first", "unicode/utf8.acceptRanges", "internal/bytealg.MaxLen"], apart := false, laid := [("unicode/utf8.acceptRanges", laid_unicode_utf8_acceptRanges), ("unicode/utf8.first", laid_unicode_utf8_first)] }
def FnPartsCountSaid : Prop := fnPartsCountRow.holds Tryd.pinned (OpenSpec.ofChange fnPartsCountSpec)

/-- ITS FALSE NEIGHBOUR: 'it returns false'. Refute it at one input. -/
def fnPartsCountWrong : ChangeSpec := { name := "fnPartsCount", fn := fun _ => fun
  | [d] => { results := [.lit (.bool false)], args := [d] }
  | _ => none }
def FnPartsCountWrongFalsely : Prop := fnPartsCountRow.holds Tryd.pinned (OpenSpec.ofChange fnPartsCountWrong)

/-- 'laws.FnClash': WHATEVER THE INPUT: true; the input reads as it did. -/
def fnClashSpec : ChangeSpec := { name := "fnClash", fn := fun _ => fun
  | [d] => { results := [.lit (.bool true)], args := [d] }
  | _ => none }
def fnClashRow : OpenClaim := { program := "ytjmnnogpinggmaadoor", sum := "c003cd619620d8c53c3c448bb2af600f7847eeb743cf205f73b40d101e86b70b", func := "loop.example/atomicpush/laws.FnClash", spec := "fnClash", inPlace := ["internal/bytealg.CountString", "internal/bytealg.IndexByteString", "internal/bytealg.IndexString"], unfollowed := true, recurses := true, named := ["unicode/utf8.first", "unicode/utf8.acceptRanges", "internal/bytealg.MaxLen"], apart := false, laid := [("unicode/utf8.acceptRanges", laid_unicode_utf8_acceptRanges), ("unicode/utf8.first", laid_unicode_utf8_first)] }
def FnClashSaid : Prop := fnClashRow.holds Tryd.pinned (OpenSpec.ofChange fnClashSpec)

/-- ITS FALSE NEIGHBOUR: 'it returns false'. Refute it at one input. -/
def fnClashWrong : ChangeSpec := { name := "fnClash", fn := fun _ => fun
  | [d] => { results := [.lit (.bool false)], args := [d] }
  | _ => none }
def FnClashWrongFalsely : Prop := fnClashRow.holds Tryd.pinned (OpenSpec.ofChange fnClashWrong)

/-- 'laws.FnClashNot': WHATEVER THE INPUT: true; the input reads as it did. -/
def fnClashNotSpec : ChangeSpec := { name := "fnClashNot", fn := fun _ => fun
  | [d] => { results := [.lit (.bool true)], args := [d] }
  | _ => none }
def fnClashNotRow : OpenClaim := { program := "ytjmnnogpinggmaadoor", sum := "c003cd619620d8c53c3c448bb2af600f7847eeb743cf205f73b40d101e86b70b", func := "loop.example/atomicpush/laws.FnClashNot", spec := "fnClashNot", inPlace := ["internal/bytealg.CountString", "internal/bytealg.IndexByteString", "internal/bytealg.IndexString"], unfollowed := true, recurses := true, named := ["unicode/utf8.first", "unicode/utf8.acceptRanges", "internal/bytealg.MaxLen"], apart := false, laid := [("unicode/utf8.acceptRanges", laid_unicode_utf8_acceptRanges), ("unicode/utf8.first", laid_unicode_utf8_first)] }
def FnClashNotSaid : Prop := fnClashNotRow.holds Tryd.pinned (OpenSpec.ofChange fnClashNotSpec)

/-- ITS FALSE NEIGHBOUR: 'it returns false'. Refute it at one input. -/
def fnClashNotWrong : ChangeSpec := { name := "fnClashNot", fn := fun _ => fun
  | [d] => { results := [.lit (.bool false)], args := [d] }
  | _ => none }
def FnClashNotWrongFalsely : Prop := fnClashNotRow.holds Tryd.pinned (OpenSpec.ofChange fnClashNotWrong)

/-- 'laws.FnMatchOne': WHATEVER THE INPUT: true; the input reads as it did. -/
def fnMatchOneSpec : ChangeSpec := { name := "fnMatchOne", fn := fun _ => fun
  | [d] => { results := [.lit (.bool true)], args := [d] }
  | _ => none }
def fnMatchOneRow : OpenClaim := { program := "ytjmnnogpinggmaadoor", sum := "c003cd619620d8c53c3c448bb2af600f7847eeb743cf205f73b40d101e86b70b", func := "loop.example/atomicpush/laws.FnMatchOne", spec := "fnMatchOne", inPlace := ["internal/bytealg.CountString", "internal/bytealg.IndexByteString", "internal/bytealg.IndexString"], unfollowed := true, recurses := true, named := ["unicode/utf8.first", "unicode/utf8.acceptRanges", "internal/bytealg.MaxLen"], apart := false, laid := [("unicode/utf8.acceptRanges", laid_unicode_utf8_acceptRanges), ("unicode/utf8.first", laid_unicode_utf8_first)] }
def FnMatchOneSaid : Prop := fnMatchOneRow.holds Tryd.pinned (OpenSpec.ofChange fnMatchOneSpec)

/-- ITS FALSE NEIGHBOUR: 'it returns false'. Refute it at one input. -/
def fnMatchOneWrong : ChangeSpec := { name := "fnMatchOne", fn := fun _ => fun
  | [d] => { results := [.lit (.bool false)], args := [d] }
  | _ => none }
def FnMatchOneWrongFalsely : Prop := fnMatchOneRow.holds Tryd.pinned (OpenSpec.ofChange fnMatchOneWrong)

/- THE SECOND FORM. 'bulk': how many values and letters a reading holds, each counted each time it is reached (what is shared counts as often as it is met; a slice's spare places count too). A statement '..UptoSaid' is the law's where the arguments, and the package variables that the reading takes, are together of bulk at most 1048576: NARROWER than '..Said'. Prove '..Said' where nothing that the law and all that it calls make is longer than what came in: it says more and counts as full. Else prove '..UptoSaid'. A law counts once. -/
mutual
def uptoBulk {H : Type} : DataW H → Nat
  | .lit (.string bytes) => bytes.length + 1
  | .lit _ => 1
  | .nil => 1
  | .ptr d => uptoBulk d + 1
  | .slice elems spare => uptoBulkAll elems + uptoBulkAll spare + 1
  | .agg parts => uptoBulkAll parts + 1
  | .iface _ d => uptoBulk d + 1
  | .map entries => uptoBulkEntries entries + 1
  | .held _ => 1
def uptoBulkAll {H : Type} : List (DataW H) → Nat
  | [] => 0
  | d :: r => uptoBulk d + uptoBulkAll r
def uptoBulkEntries {H : Type} : List (Lit × DataW H) → Nat
  | [] => 0
  | x :: r => uptoBulkEntry x + uptoBulkEntries r
def uptoBulkEntry {H : Type} : Lit × DataW H → Nat
  | (.string bytes, d) => bytes.length + uptoBulk d + 1
  | (_, d) => uptoBulk d + 1
 end
def uptoSmall : (H : Type) → List (DataW H) → Bool := fun _ ds => decide (uptoBulkAll ds ≤ 1048576)
def OpenSpec.upto (s : _root_.Go.ChangeSpec) : _root_.Go.OpenSpec := { _root_.Go.OpenSpec.ofChange s with cond := some uptoSmall }

/-- 'laws.FnMatchExact', WHERE WHAT IT READS IS OF BULK AT MOST 1048576: true; the input reads as it did. -/
def fnMatchExactUptoRow : OpenClaim := { program := "ytjmnnogpinggmaadoor", sum := "c003cd619620d8c53c3c448bb2af600f7847eeb743cf205f73b40d101e86b70b", func := "loop.example/atomicpush/laws.FnMatchExact", spec := "fnMatchExact", inPlace := ["internal/bytealg.CountString", "internal/bytealg.IndexByteString", "internal/bytealg.IndexString"], unfollowed := true, recurses := true, named := ["unicode/utf8.first", "unicode/utf8.acceptRanges", "internal/bytealg.MaxLen"], apart := false, laid := [("unicode/utf8.acceptRanges", laid_unicode_utf8_acceptRanges), ("unicode/utf8.first", laid_unicode_utf8_first)], narrowed := true }
def FnMatchExactUptoSaid : Prop := fnMatchExactUptoRow.holds Tryd.pinned (OpenSpec.upto fnMatchExactSpec)

/-- 'laws.FnMatchStar', WHERE WHAT IT READS IS OF BULK AT MOST 1048576: true; the input reads as it did. -/
def fnMatchStarUptoRow : OpenClaim := { program := "ytjmnnogpinggmaadoor", sum := "c003cd619620d8c53c3c448bb2af600f7847eeb743cf205f73b40d101e86b70b", func := "loop.example/atomicpush/laws.FnMatchStar", spec := "fnMatchStar", inPlace := ["internal/bytealg.CountString", "internal/bytealg.IndexByteString", "internal/bytealg.IndexString"], unfollowed := true, recurses := true, named := ["unicode/utf8.first", "unicode/utf8.acceptRanges", "internal/bytealg.MaxLen"], apart := false, laid := [("unicode/utf8.acceptRanges", laid_unicode_utf8_acceptRanges), ("unicode/utf8.first", laid_unicode_utf8_first)], narrowed := true }
def FnMatchStarUptoSaid : Prop := fnMatchStarUptoRow.holds Tryd.pinned (OpenSpec.upto fnMatchStarSpec)

/-- 'laws.FnClashParts', WHERE WHAT IT READS IS OF BULK AT MOST 1048576: true; the input reads as it did. -/
def fnClashPartsUptoRow : OpenClaim := { program := "ytjmnnogpinggmaadoor", sum := "c003cd619620d8c53c3c448bb2af600f7847eeb743cf205f73b40d101e86b70b", func := "loop.example/atomicpush/laws.FnClashParts", spec := "fnClashParts", inPlace := ["internal/bytealg.CountString", "internal/bytealg.IndexByteString", "internal/bytealg.IndexString"], unfollowed := true, recurses := true, named := ["unicode/utf8.first", "unicode/utf8.acceptRanges", "internal/bytealg.MaxLen"], apart := false, laid := [("unicode/utf8.acceptRanges", laid_unicode_utf8_acceptRanges), ("unicode/utf8.first", laid_unicode_utf8_first)], narrowed := true }
def FnClashPartsUptoSaid : Prop := fnClashPartsUptoRow.holds Tryd.pinned (OpenSpec.upto fnClashPartsSpec)

/-- 'laws.FnExactNameValid', WHERE WHAT IT READS IS OF BULK AT MOST 1048576: true; the input reads as it did. -/
def fnExactNameValidUptoRow : OpenClaim := { program := "ytjmnnogpinggmaadoor", sum := "c003cd619620d8c53c3c448bb2af600f7847eeb743cf205f73b40d101e86b70b", func := "loop.example/atomicpush/laws.FnExactNameValid", spec := "fnExactNameValid", inPlace := ["internal/bytealg.CountString", "internal/bytealg.IndexByteString", "internal/bytealg.IndexString"], unfollowed := true, recurses := true, named := ["unicode/utf8.first", "unicode/utf8.acceptRanges", "internal/bytealg.MaxLen"], apart := false, laid := [("unicode/utf8.acceptRanges", laid_unicode_utf8_acceptRanges), ("unicode/utf8.first", laid_unicode_utf8_first)], narrowed := true }
def FnExactNameValidUptoSaid : Prop := fnExactNameValidUptoRow.holds Tryd.pinned (OpenSpec.upto fnExactNameValidSpec)

/-- 'laws.FnExactNameClashes', WHERE WHAT IT READS IS OF BULK AT MOST 1048576: true; the input reads as it did. -/
def fnExactNameClashesUptoRow : OpenClaim := { program := "ytjmnnogpinggmaadoor", sum := "c003cd619620d8c53c3c448bb2af600f7847eeb743cf205f73b40d101e86b70b", func := "loop.example/atomicpush/laws.FnExactNameClashes", spec := "fnExactNameClashes", inPlace := ["internal/bytealg.CountString", "internal/bytealg.IndexByteString", "internal/bytealg.IndexString"], unfollowed := true, recurses := true, named := ["unicode/utf8.first", "unicode/utf8.acceptRanges", "internal/bytealg.MaxLen"], apart := false, laid := [("unicode/utf8.acceptRanges", laid_unicode_utf8_acceptRanges), ("unicode/utf8.first", laid_unicode_utf8_first)], narrowed := true }
def FnExactNameClashesUptoSaid : Prop := fnExactNameClashesUptoRow.holds Tryd.pinned (OpenSpec.upto fnExactNameClashesSpec)

/-- 'laws.FnNameBad', WHERE WHAT IT READS IS OF BULK AT MOST 1048576: true; the input reads as it did. -/
def fnNameBadUptoRow : OpenClaim := { program := "ytjmnnogpinggmaadoor", sum := "c003cd619620d8c53c3c448bb2af600f7847eeb743cf205f73b40d101e86b70b", func := "loop.example/atomicpush/laws.FnNameBad", spec := "fnNameBad", inPlace := ["internal/bytealg.CountString", "internal/bytealg.IndexByteString", "internal/bytealg.IndexString"], unfollowed := true, recurses := true, named := ["unicode/utf8.first", "unicode/utf8.acceptRanges", "internal/bytealg.MaxLen"], apart := false, laid := [("unicode/utf8.acceptRanges", laid_unicode_utf8_acceptRanges), ("unicode/utf8.first", laid_unicode_utf8_first)], narrowed := true }
def FnNameBadUptoSaid : Prop := fnNameBadUptoRow.holds Tryd.pinned (OpenSpec.upto fnNameBadSpec)

/-- 'laws.FnNameLong', WHERE WHAT IT READS IS OF BULK AT MOST 1048576: true; the input reads as it did. -/
def fnNameLongUptoRow : OpenClaim := { program := "ytjmnnogpinggmaadoor", sum := "c003cd619620d8c53c3c448bb2af600f7847eeb743cf205f73b40d101e86b70b", func := "loop.example/atomicpush/laws.FnNameLong", spec := "fnNameLong", inPlace := ["internal/bytealg.CountString", "internal/bytealg.IndexByteString", "internal/bytealg.IndexString"], unfollowed := true, recurses := true, named := ["unicode/utf8.first", "unicode/utf8.acceptRanges", "internal/bytealg.MaxLen"], apart := false, laid := [("unicode/utf8.acceptRanges", laid_unicode_utf8_acceptRanges), ("unicode/utf8.first", laid_unicode_utf8_first)], narrowed := true }
def FnNameLongUptoSaid : Prop := fnNameLongUptoRow.holds Tryd.pinned (OpenSpec.upto fnNameLongSpec)

/-- 'laws.FnExactNameMatches', WHERE WHAT IT READS IS OF BULK AT MOST 1048576: true; the input reads as it did. -/
def fnExactNameMatchesUptoRow : OpenClaim := { program := "ytjmnnogpinggmaadoor", sum := "c003cd619620d8c53c3c448bb2af600f7847eeb743cf205f73b40d101e86b70b", func := "loop.example/atomicpush/laws.FnExactNameMatches", spec := "fnExactNameMatches", inPlace := ["internal/bytealg.CountString", "internal/bytealg.IndexByteString", "internal/bytealg.IndexString"], unfollowed := true, recurses := true, named := ["unicode/utf8.first", "unicode/utf8.acceptRanges", "internal/bytealg.MaxLen"], apart := false, laid := [("unicode/utf8.acceptRanges", laid_unicode_utf8_acceptRanges), ("unicode/utf8.first", laid_unicode_utf8_first)], narrowed := true }
def FnExactNameMatchesUptoSaid : Prop := fnExactNameMatchesUptoRow.holds Tryd.pinned (OpenSpec.upto fnExactNameMatchesSpec)

/-- 'laws.FnExactNameParts', WHERE WHAT IT READS IS OF BULK AT MOST 1048576: true; the input reads as it did. -/
def fnExactNamePartsUptoRow : OpenClaim := { program := "ytjmnnogpinggmaadoor", sum := "c003cd619620d8c53c3c448bb2af600f7847eeb743cf205f73b40d101e86b70b", func := "loop.example/atomicpush/laws.FnExactNameParts", spec := "fnExactNameParts", inPlace := ["internal/bytealg.CountString", "internal/bytealg.IndexByteString", "internal/bytealg.IndexString"], unfollowed := true, recurses := true, named := ["unicode/utf8.first", "unicode/utf8.acceptRanges", "internal/bytealg.MaxLen"], apart := false, laid := [("unicode/utf8.acceptRanges", laid_unicode_utf8_acceptRanges), ("unicode/utf8.first", laid_unicode_utf8_first)], narrowed := true }
def FnExactNamePartsUptoSaid : Prop := fnExactNamePartsUptoRow.holds Tryd.pinned (OpenSpec.upto fnExactNamePartsSpec)

/-- 'laws.FnMatchSelf', WHERE WHAT IT READS IS OF BULK AT MOST 1048576: true; the input reads as it did. -/
def fnMatchSelfUptoRow : OpenClaim := { program := "ytjmnnogpinggmaadoor", sum := "c003cd619620d8c53c3c448bb2af600f7847eeb743cf205f73b40d101e86b70b", func := "loop.example/atomicpush/laws.FnMatchSelf", spec := "fnMatchSelf", inPlace := ["internal/bytealg.CountString", "internal/bytealg.IndexByteString", "internal/bytealg.IndexString"], unfollowed := true, recurses := true, named := ["unicode/utf8.first", "unicode/utf8.acceptRanges", "internal/bytealg.MaxLen"], apart := false, laid := [("unicode/utf8.acceptRanges", laid_unicode_utf8_acceptRanges), ("unicode/utf8.first", laid_unicode_utf8_first)], narrowed := true }
def FnMatchSelfUptoSaid : Prop := fnMatchSelfUptoRow.holds Tryd.pinned (OpenSpec.upto fnMatchSelfSpec)

/-- 'laws.FnNameParts', WHERE WHAT IT READS IS OF BULK AT MOST 1048576: true; the input reads as it did. -/
def fnNamePartsUptoRow : OpenClaim := { program := "ytjmnnogpinggmaadoor", sum := "c003cd619620d8c53c3c448bb2af600f7847eeb743cf205f73b40d101e86b70b", func := "loop.example/atomicpush/laws.FnNameParts", spec := "fnNameParts", inPlace := ["internal/bytealg.CountString", "internal/bytealg.IndexByteString", "internal/bytealg.IndexString"], unfollowed := true, recurses := true, named := ["unicode/utf8.first", "unicode/utf8.acceptRanges", "internal/bytealg.MaxLen"], apart := false, laid := [("unicode/utf8.acceptRanges", laid_unicode_utf8_acceptRanges), ("unicode/utf8.first", laid_unicode_utf8_first)], narrowed := true }
def FnNamePartsUptoSaid : Prop := fnNamePartsUptoRow.holds Tryd.pinned (OpenSpec.upto fnNamePartsSpec)

/-- 'laws.FnPartsCount', WHERE WHAT IT READS IS OF BULK AT MOST 1048576: true; the input reads as it did. -/
def fnPartsCountUptoRow : OpenClaim := { program := "ytjmnnogpinggmaadoor", sum := "c003cd619620d8c53c3c448bb2af600f7847eeb743cf205f73b40d101e86b70b", func := "loop.example/atomicpush/laws.FnPartsCount", spec := "fnPartsCount", inPlace := ["internal/bytealg.CountString", "internal/bytealg.IndexByteString", "internal/bytealg.IndexString"], unfollowed := true, recurses := true, named := ["unicode/utf8.first", "unicode/utf8.acceptRanges", "internal/bytealg.MaxLen"], apart := false, laid := [("unicode/utf8.acceptRanges", laid_unicode_utf8_acceptRanges), ("unicode/utf8.first", laid_unicode_utf8_first)], narrowed := true }
def FnPartsCountUptoSaid : Prop := fnPartsCountUptoRow.holds Tryd.pinned (OpenSpec.upto fnPartsCountSpec)

/-- 'laws.FnClash', WHERE WHAT IT READS IS OF BULK AT MOST 1048576: true; the input reads as it did. -/
def fnClashUptoRow : OpenClaim := { program := "ytjmnnogpinggmaadoor", sum := "c003cd619620d8c53c3c448bb2af600f7847eeb743cf205f73b40d101e86b70b", func := "loop.example/atomicpush/laws.FnClash", spec := "fnClash", inPlace := ["internal/bytealg.CountString", "internal/bytealg.IndexByteString", "internal/bytealg.IndexString"], unfollowed := true, recurses := true, named := ["unicode/utf8.first", "unicode/utf8.acceptRanges", "internal/bytealg.MaxLen"], apart := false, laid := [("unicode/utf8.acceptRanges", laid_unicode_utf8_acceptRanges), ("unicode/utf8.first", laid_unicode_utf8_first)], narrowed := true }
def FnClashUptoSaid : Prop := fnClashUptoRow.holds Tryd.pinned (OpenSpec.upto fnClashSpec)

/-- 'laws.FnClashNot', WHERE WHAT IT READS IS OF BULK AT MOST 1048576: true; the input reads as it did. -/
def fnClashNotUptoRow : OpenClaim := { program := "ytjmnnogpinggmaadoor", sum := "c003cd619620d8c53c3c448bb2af600f7847eeb743cf205f73b40d101e86b70b", func := "loop.example/atomicpush/laws.FnClashNot", spec := "fnClashNot", inPlace := ["internal/bytealg.CountString", "internal/bytealg.IndexByteString", "internal/bytealg.IndexString"], unfollowed := true, recurses := true, named := ["unicode/utf8.first", "unicode/utf8.acceptRanges", "internal/bytealg.MaxLen"], apart := false, laid := [("unicode/utf8.acceptRanges", laid_unicode_utf8_acceptRanges), ("unicode/utf8.first", laid_unicode_utf8_first)], narrowed := true }
def FnClashNotUptoSaid : Prop := fnClashNotUptoRow.holds Tryd.pinned (OpenSpec.upto fnClashNotSpec)

/-- 'laws.FnMatchOne', WHERE WHAT IT READS IS OF BULK AT MOST 1048576: true; the input reads as it did. -/
def fnMatchOneUptoRow : OpenClaim := { program := "ytjmnnogpinggmaadoor", sum := "c003cd619620d8c53c3c448bb2af600f7847eeb743cf205f73b40d101e86b70b", func := "loop.example/atomicpush/laws.FnMatchOne", spec := "fnMatchOne", inPlace := ["internal/bytealg.CountString", "internal/bytealg.IndexByteString", "internal/bytealg.IndexString"], unfollowed := true, recurses := true, named := ["unicode/utf8.first", "unicode/utf8.acceptRanges", "internal/bytealg.MaxLen"], apart := false, laid := [("unicode/utf8.acceptRanges", laid_unicode_utf8_acceptRanges), ("unicode/utf8.first", laid_unicode_utf8_first)], narrowed := true }
def FnMatchOneUptoSaid : Prop := fnMatchOneUptoRow.holds Tryd.pinned (OpenSpec.upto fnMatchOneSpec)

end Rows
end Go.Proofs.YtjmnnogpinggmaaDoor
