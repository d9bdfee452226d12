/-
  DERIVED. GIVEN WITH THE SEED: THE CARDS: each row of YtilpbddeijolbaaDoorRows.lean that lists a variable, with what it lists TIED to the program's text (the seventh form; the later family's looks); each row that meets fmt, with fmt's text TOLD by the authors' own Lean function (tested against real Go, not proved from fmt's source: count such statements apart). THE CARD IS WHAT COUNTS. Prove the row's statement (the work); the ties are given (YtilpbddeijolbaaDoorTie.lean); close each card by the builder's one call (the guide's Derived/Test/ToyasCard.lean, 'card_holds'). Laid BY PROGRAM, IN A SANDBOX (cutbox-door.mjs). By AI agents, Wed Nov 11 2026. No macro, syntax, notation, axiom, sorry.
-/
import Derived.Test.YtilpbddeijolbaaDoorRows
import GoSem.ClaimSeven
namespace Go.Proofs.YtilpbddeijolbaaDoor
namespace Rows

/-- THE TIED CARD OF 'laws.FnExactLocksTake'. -/
def fnExactLocksTakeCard : Claim7 := { stood := { row := fnExactLocksTakeRow, standIns := [], harness := (true, "c717c8195f219aaf927d0a0cab96f2e152b24509bb0c3ef00b87cd3ed97c83eb"), looks := true }, kinds := [], alts := [], laidByText := true, laidKinds := [.sentinel], laidTests := true, laidLooks := .later }
def FnExactLocksTakeCardSaid : Prop := Claim7.holds Tryd.pinned (.plain (OpenSpec.ofChange fnExactLocksTakeSpec)) fnExactLocksTakeCard

/-- THE TIED CARD OF 'laws.FnTake'. -/
def fnTakeCard : Claim7 := { stood := { row := fnTakeRow, standIns := [], harness := (true, "c717c8195f219aaf927d0a0cab96f2e152b24509bb0c3ef00b87cd3ed97c83eb"), looks := true }, kinds := [], alts := [], laidByText := true, laidKinds := [.sentinel], laidTests := true, laidLooks := .later }
def FnTakeCardSaid : Prop := Claim7.holds Tryd.pinned (.plain (OpenSpec.ofChange fnTakeSpec)) fnTakeCard

/-- THE TIED CARD OF 'laws.FnTakeNone'. -/
def fnTakeNoneCard : Claim7 := { stood := { row := fnTakeNoneRow, standIns := [], harness := (true, "c717c8195f219aaf927d0a0cab96f2e152b24509bb0c3ef00b87cd3ed97c83eb"), looks := true }, kinds := [], alts := [], laidByText := true, laidKinds := [.sentinel], laidTests := true, laidLooks := .later }
def FnTakeNoneCardSaid : Prop := Claim7.holds Tryd.pinned (.plain (OpenSpec.ofChange fnTakeNoneSpec)) fnTakeNoneCard

/-- THE SECOND FORM's CARD OF 'laws.FnExactLocksTake'. -/
def fnExactLocksTakeUptoCard : Claim7 := { stood := { row := fnExactLocksTakeUptoRow, standIns := [], harness := (true, "c717c8195f219aaf927d0a0cab96f2e152b24509bb0c3ef00b87cd3ed97c83eb"), looks := true }, kinds := [], alts := [], laidByText := true, laidKinds := [.sentinel], laidTests := true, laidLooks := .later }
def FnExactLocksTakeUptoCardSaid : Prop := Claim7.holds Tryd.pinned (.plain (OpenSpec.upto fnExactLocksTakeSpec)) fnExactLocksTakeUptoCard

/-- THE SECOND FORM's CARD OF 'laws.FnTake'. -/
def fnTakeUptoCard : Claim7 := { stood := { row := fnTakeUptoRow, standIns := [], harness := (true, "c717c8195f219aaf927d0a0cab96f2e152b24509bb0c3ef00b87cd3ed97c83eb"), looks := true }, kinds := [], alts := [], laidByText := true, laidKinds := [.sentinel], laidTests := true, laidLooks := .later }
def FnTakeUptoCardSaid : Prop := Claim7.holds Tryd.pinned (.plain (OpenSpec.upto fnTakeSpec)) fnTakeUptoCard

/-- THE SECOND FORM's CARD OF 'laws.FnTakeNone'. -/
def fnTakeNoneUptoCard : Claim7 := { stood := { row := fnTakeNoneUptoRow, standIns := [], harness := (true, "c717c8195f219aaf927d0a0cab96f2e152b24509bb0c3ef00b87cd3ed97c83eb"), looks := true }, kinds := [], alts := [], laidByText := true, laidKinds := [.sentinel], laidTests := true, laidLooks := .later }
def FnTakeNoneUptoCardSaid : Prop := Claim7.holds Tryd.pinned (.plain (OpenSpec.upto fnTakeNoneSpec)) fnTakeNoneUptoCard
end Rows
end Go.Proofs.YtilpbddeijolbaaDoor
