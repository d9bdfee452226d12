/-
  DERIVED. GIVEN WITH THE SEED: THE CARDS: each row of YtjmnnogpinggmaaDoorRows.lean that lists a variable, with what it lists TIED to the program's text (the seventh form; the later family's looks); each row that meets fmt, with fmt's text TOLD by the authors' own Lean function (tested against real Go, not proved from fmt's source: count such statements apart). THE CARD IS WHAT COUNTS. Prove the row's statement (the work); the ties are given (YtjmnnogpinggmaaDoorTie.lean); close each card by the builder's one call (the guide's Derived/Test/ToyasCard.lean, 'card_holds'). Laid BY PROGRAM, IN A SANDBOX (cutbox-door.mjs). By AI agents, Wed Nov 11 2026. No macro, syntax, notation, axiom, sorry.
-/
import Derived.Test.YtjmnnogpinggmaaDoorRows
import GoSem.ClaimSeven
namespace Go.Proofs.YtjmnnogpinggmaaDoor
namespace Rows

/-- THE TIED CARD OF 'laws.FnMatchExact'. -/
def fnMatchExactCard : Claim7 := { stood := { row := fnMatchExactRow, standIns := [], harness := (true, "5d7b27699adf6aa4303d3de668a7c3150c04e5a87965bab53939a9c73c259877"), looks := false }, kinds := [], alts := [], laidByText := true, laidKinds := [.data, .pinned], laidTests := true, laidLooks := .later }
def FnMatchExactCardSaid : Prop := Claim7.holds Tryd.pinned (.plain (OpenSpec.ofChange fnMatchExactSpec)) fnMatchExactCard

/-- THE TIED CARD OF 'laws.FnMatchStar'. -/
def fnMatchStarCard : Claim7 := { stood := { row := fnMatchStarRow, standIns := [], harness := (true, "5d7b27699adf6aa4303d3de668a7c3150c04e5a87965bab53939a9c73c259877"), looks := false }, kinds := [], alts := [], laidByText := true, laidKinds := [.data, .pinned], laidTests := true, laidLooks := .later }
def FnMatchStarCardSaid : Prop := Claim7.holds Tryd.pinned (.plain (OpenSpec.ofChange fnMatchStarSpec)) fnMatchStarCard

/-- THE TIED CARD OF 'laws.FnClashParts'. -/
def fnClashPartsCard : Claim7 := { stood := { row := fnClashPartsRow, standIns := [], harness := (true, "5d7b27699adf6aa4303d3de668a7c3150c04e5a87965bab53939a9c73c259877"), looks := false }, kinds := [], alts := [], laidByText := true, laidKinds := [.data, .pinned], laidTests := true, laidLooks := .later }
def FnClashPartsCardSaid : Prop := Claim7.holds Tryd.pinned (.plain (OpenSpec.ofChange fnClashPartsSpec)) fnClashPartsCard

/-- THE TIED CARD OF 'laws.FnExactNameValid'. -/
def fnExactNameValidCard : Claim7 := { stood := { row := fnExactNameValidRow, standIns := [], harness := (true, "5d7b27699adf6aa4303d3de668a7c3150c04e5a87965bab53939a9c73c259877"), looks := false }, kinds := [], alts := [], laidByText := true, laidKinds := [.data, .pinned], laidTests := true, laidLooks := .later }
def FnExactNameValidCardSaid : Prop := Claim7.holds Tryd.pinned (.plain (OpenSpec.ofChange fnExactNameValidSpec)) fnExactNameValidCard

/-- THE TIED CARD OF 'laws.FnExactNameClashes'. -/
def fnExactNameClashesCard : Claim7 := { stood := { row := fnExactNameClashesRow, standIns := [], harness := (true, "5d7b27699adf6aa4303d3de668a7c3150c04e5a87965bab53939a9c73c259877"), looks := false }, kinds := [], alts := [], laidByText := true, laidKinds := [.data, .pinned], laidTests := true, laidLooks := .later }
def FnExactNameClashesCardSaid : Prop := Claim7.holds Tryd.pinned (.plain (OpenSpec.ofChange fnExactNameClashesSpec)) fnExactNameClashesCard

/-- THE TIED CARD OF 'laws.FnNameBad'. -/
def fnNameBadCard : Claim7 := { stood := { row := fnNameBadRow, standIns := [], harness := (true, "5d7b27699adf6aa4303d3de668a7c3150c04e5a87965bab53939a9c73c259877"), looks := false }, kinds := [], alts := [], laidByText := true, laidKinds := [.data, .pinned], laidTests := true, laidLooks := .later }
def FnNameBadCardSaid : Prop := Claim7.holds Tryd.pinned (.plain (OpenSpec.ofChange fnNameBadSpec)) fnNameBadCard

/-- THE TIED CARD OF 'laws.FnNameLong'. -/
def fnNameLongCard : Claim7 := { stood := { row := fnNameLongRow, standIns := [], harness := (true, "5d7b27699adf6aa4303d3de668a7c3150c04e5a87965bab53939a9c73c259877"), looks := false }, kinds := [], alts := [], laidByText := true, laidKinds := [.data, .pinned], laidTests := true, laidLooks := .later }
def FnNameLongCardSaid : Prop := Claim7.holds Tryd.pinned (.plain (OpenSpec.ofChange fnNameLongSpec)) fnNameLongCard

/-- THE TIED CARD OF 'laws.FnExactNameMatches'. -/
def fnExactNameMatchesCard : Claim7 := { stood := { row := fnExactNameMatchesRow, standIns := [], harness := (true, "5d7b27699adf6aa4303d3de668a7c3150c04e5a87965bab53939a9c73c259877"), looks := false }, kinds := [], alts := [], laidByText := true, laidKinds := [.data, .pinned], laidTests := true, laidLooks := .later }
def FnExactNameMatchesCardSaid : Prop := Claim7.holds Tryd.pinned (.plain (OpenSpec.ofChange fnExactNameMatchesSpec)) fnExactNameMatchesCard

/-- THE TIED CARD OF 'laws.FnExactNameParts'. -/
def fnExactNamePartsCard : Claim7 := { stood := { row := fnExactNamePartsRow, standIns := [], harness := (true, "5d7b27699adf6aa4303d3de668a7c3150c04e5a87965bab53939a9c73c259877"), looks := false }, kinds := [], alts := [], laidByText := true, laidKinds := [.data, .pinned], laidTests := true, laidLooks := .later }
def FnExactNamePartsCardSaid : Prop := Claim7.holds Tryd.pinned (.plain (OpenSpec.ofChange fnExactNamePartsSpec)) fnExactNamePartsCard

/-- THE TIED CARD OF 'laws.FnMatchSelf'. -/
def fnMatchSelfCard : Claim7 := { stood := { row := fnMatchSelfRow, standIns := [], harness := (true, "5d7b27699adf6aa4303d3de668a7c3150c04e5a87965bab53939a9c73c259877"), looks := false }, kinds := [], alts := [], laidByText := true, laidKinds := [.data, .pinned], laidTests := true, laidLooks := .later }
def FnMatchSelfCardSaid : Prop := Claim7.holds Tryd.pinned (.plain (OpenSpec.ofChange fnMatchSelfSpec)) fnMatchSelfCard

/-- THE TIED CARD OF 'laws.FnNameParts'. -/
def fnNamePartsCard : Claim7 := { stood := { row := fnNamePartsRow, standIns := [], harness := (true, "5d7b27699adf6aa4303d3de668a7c3150c04e5a87965bab53939a9c73c259877"), looks := false }, kinds := [], alts := [], laidByText := true, laidKinds := [.data, .pinned], laidTests := true, laidLooks := .later }
def FnNamePartsCardSaid : Prop := Claim7.holds Tryd.pinned (.plain (OpenSpec.ofChange fnNamePartsSpec)) fnNamePartsCard

/-- THE TIED CARD OF 'laws.FnPartsCount'. -/
def fnPartsCountCard : Claim7 := { stood := { row := fnPartsCountRow, standIns := [], harness := (true, "5d7b27699adf6aa4303d3de668a7c3150c04e5a87965bab53939a9c73c259877"), looks := false }, kinds := [], alts := [], laidByText := true, laidKinds := [.data, .pinned], laidTests := true, laidLooks := .later }
def FnPartsCountCardSaid : Prop := Claim7.holds Tryd.pinned (.plain (OpenSpec.ofChange fnPartsCountSpec)) fnPartsCountCard

/-- THE TIED CARD OF 'laws.FnClash'. -/
def fnClashCard : Claim7 := { stood := { row := fnClashRow, standIns := [], harness := (true, "5d7b27699adf6aa4303d3de668a7c3150c04e5a87965bab53939a9c73c259877"), looks := false }, kinds := [], alts := [], laidByText := true, laidKinds := [.data, .pinned], laidTests := true, laidLooks := .later }
def FnClashCardSaid : Prop := Claim7.holds Tryd.pinned (.plain (OpenSpec.ofChange fnClashSpec)) fnClashCard

/-- THE TIED CARD OF 'laws.FnClashNot'. -/
def fnClashNotCard : Claim7 := { stood := { row := fnClashNotRow, standIns := [], harness := (true, "5d7b27699adf6aa4303d3de668a7c3150c04e5a87965bab53939a9c73c259877"), looks := false }, kinds := [], alts := [], laidByText := true, laidKinds := [.data, .pinned], laidTests := true, laidLooks := .later }
def FnClashNotCardSaid : Prop := Claim7.holds Tryd.pinned (.plain (OpenSpec.ofChange fnClashNotSpec)) fnClashNotCard

/-- THE TIED CARD OF 'laws.FnMatchOne'. -/
def fnMatchOneCard : Claim7 := { stood := { row := fnMatchOneRow, standIns := [], harness := (true, "5d7b27699adf6aa4303d3de668a7c3150c04e5a87965bab53939a9c73c259877"), looks := false }, kinds := [], alts := [], laidByText := true, laidKinds := [.data, .pinned], laidTests := true, laidLooks := .later }
def FnMatchOneCardSaid : Prop := Claim7.holds Tryd.pinned (.plain (OpenSpec.ofChange fnMatchOneSpec)) fnMatchOneCard

/-- THE SECOND FORM's CARD OF 'laws.FnMatchExact'. -/
def fnMatchExactUptoCard : Claim7 := { stood := { row := fnMatchExactUptoRow, standIns := [], harness := (true, "5d7b27699adf6aa4303d3de668a7c3150c04e5a87965bab53939a9c73c259877"), looks := false }, kinds := [], alts := [], laidByText := true, laidKinds := [.data, .pinned], laidTests := true, laidLooks := .later }
def FnMatchExactUptoCardSaid : Prop := Claim7.holds Tryd.pinned (.plain (OpenSpec.upto fnMatchExactSpec)) fnMatchExactUptoCard

/-- THE SECOND FORM's CARD OF 'laws.FnMatchStar'. -/
def fnMatchStarUptoCard : Claim7 := { stood := { row := fnMatchStarUptoRow, standIns := [], harness := (true, "5d7b27699adf6aa4303d3de668a7c3150c04e5a87965bab53939a9c73c259877"), looks := false }, kinds := [], alts := [], laidByText := true, laidKinds := [.data, .pinned], laidTests := true, laidLooks := .later }
def FnMatchStarUptoCardSaid : Prop := Claim7.holds Tryd.pinned (.plain (OpenSpec.upto fnMatchStarSpec)) fnMatchStarUptoCard

/-- THE SECOND FORM's CARD OF 'laws.FnClashParts'. -/
def fnClashPartsUptoCard : Claim7 := { stood := { row := fnClashPartsUptoRow, standIns := [], harness := (true, "5d7b27699adf6aa4303d3de668a7c3150c04e5a87965bab53939a9c73c259877"), looks := false }, kinds := [], alts := [], laidByText := true, laidKinds := [.data, .pinned], laidTests := true, laidLooks := .later }
def FnClashPartsUptoCardSaid : Prop := Claim7.holds Tryd.pinned (.plain (OpenSpec.upto fnClashPartsSpec)) fnClashPartsUptoCard

/-- THE SECOND FORM's CARD OF 'laws.FnExactNameValid'. -/
def fnExactNameValidUptoCard : Claim7 := { stood := { row := fnExactNameValidUptoRow, standIns := [], harness := (true, "5d7b27699adf6aa4303d3de668a7c3150c04e5a87965bab53939a9c73c259877"), looks := false }, kinds := [], alts := [], laidByText := true, laidKinds := [.data, .pinned], laidTests := true, laidLooks := .later }
def FnExactNameValidUptoCardSaid : Prop := Claim7.holds Tryd.pinned (.plain (OpenSpec.upto fnExactNameValidSpec)) fnExactNameValidUptoCard

/-- THE SECOND FORM's CARD OF 'laws.FnExactNameClashes'. -/
def fnExactNameClashesUptoCard : Claim7 := { stood := { row := fnExactNameClashesUptoRow, standIns := [], harness := (true, "5d7b27699adf6aa4303d3de668a7c3150c04e5a87965bab53939a9c73c259877"), looks := false }, kinds := [], alts := [], laidByText := true, laidKinds := [.data, .pinned], laidTests := true, laidLooks := .later }
def FnExactNameClashesUptoCardSaid : Prop := Claim7.holds Tryd.pinned (.plain (OpenSpec.upto fnExactNameClashesSpec)) fnExactNameClashesUptoCard

/-- THE SECOND FORM's CARD OF 'laws.FnNameBad'. -/
def fnNameBadUptoCard : Claim7 := { stood := { row := fnNameBadUptoRow, standIns := [], harness := (true, "5d7b27699adf6aa4303d3de668a7c3150c04e5a87965bab53939a9c73c259877"), looks := false }, kinds := [], alts := [], laidByText := true, laidKinds := [.data, .pinned], laidTests := true, laidLooks := .later }
def FnNameBadUptoCardSaid : Prop := Claim7.holds Tryd.pinned (.plain (OpenSpec.upto fnNameBadSpec)) fnNameBadUptoCard

/-- THE SECOND FORM's CARD OF 'laws.FnNameLong'. -/
def fnNameLongUptoCard : Claim7 := { stood := { row := fnNameLongUptoRow, standIns := [], harness := (true, "5d7b27699adf6aa4303d3de668a7c3150c04e5a87965bab53939a9c73c259877"), looks := false }, kinds := [], alts := [], laidByText := true, laidKinds := [.data, .pinned], laidTests := true, laidLooks := .later }
def FnNameLongUptoCardSaid : Prop := Claim7.holds Tryd.pinned (.plain (OpenSpec.upto fnNameLongSpec)) fnNameLongUptoCard

/-- THE SECOND FORM's CARD OF 'laws.FnExactNameMatches'. -/
def fnExactNameMatchesUptoCard : Claim7 := { stood := { row := fnExactNameMatchesUptoRow, standIns := [], harness := (true, "5d7b27699adf6aa4303d3de668a7c3150c04e5a87965bab53939a9c73c259877"), looks := false }, kinds := [], alts := [], laidByText := true, laidKinds := [.data, .pinned], laidTests := true, laidLooks := .later }
def FnExactNameMatchesUptoCardSaid : Prop := Claim7.holds Tryd.pinned (.plain (OpenSpec.upto fnExactNameMatchesSpec)) fnExactNameMatchesUptoCard

/-- THE SECOND FORM's CARD OF 'laws.FnExactNameParts'. -/
def fnExactNamePartsUptoCard : Claim7 := { stood := { row := fnExactNamePartsUptoRow, standIns := [], harness := (true, "5d7b27699adf6aa4303d3de668a7c3150c04e5a87965bab53939a9c73c259877"), looks := false }, kinds := [], alts := [], laidByText := true, laidKinds := [.data, .pinned], laidTests := true, laidLooks := .later }
def FnExactNamePartsUptoCardSaid : Prop := Claim7.holds Tryd.pinned (.plain (OpenSpec.upto fnExactNamePartsSpec)) fnExactNamePartsUptoCard

/-- THE SECOND FORM's CARD OF 'laws.FnMatchSelf'. -/
def fnMatchSelfUptoCard : Claim7 := { stood := { row := fnMatchSelfUptoRow, standIns := [], harness := (true, "5d7b27699adf6aa4303d3de668a7c3150c04e5a87965bab53939a9c73c259877"), looks := false }, kinds := [], alts := [], laidByText := true, laidKinds := [.data, .pinned], laidTests := true, laidLooks := .later }
def FnMatchSelfUptoCardSaid : Prop := Claim7.holds Tryd.pinned (.plain (OpenSpec.upto fnMatchSelfSpec)) fnMatchSelfUptoCard

/-- THE SECOND FORM's CARD OF 'laws.FnNameParts'. -/
def fnNamePartsUptoCard : Claim7 := { stood := { row := fnNamePartsUptoRow, standIns := [], harness := (true, "5d7b27699adf6aa4303d3de668a7c3150c04e5a87965bab53939a9c73c259877"), looks := false }, kinds := [], alts := [], laidByText := true, laidKinds := [.data, .pinned], laidTests := true, laidLooks := .later }
def FnNamePartsUptoCardSaid : Prop := Claim7.holds Tryd.pinned (.plain (OpenSpec.upto fnNamePartsSpec)) fnNamePartsUptoCard

/-- THE SECOND FORM's CARD OF 'laws.FnPartsCount'. -/
def fnPartsCountUptoCard : Claim7 := { stood := { row := fnPartsCountUptoRow, standIns := [], harness := (true, "5d7b27699adf6aa4303d3de668a7c3150c04e5a87965bab53939a9c73c259877"), looks := false }, kinds := [], alts := [], laidByText := true, laidKinds := [.data, .pinned], laidTests := true, laidLooks := .later }
def FnPartsCountUptoCardSaid : Prop := Claim7.holds Tryd.pinned (.plain (OpenSpec.upto fnPartsCountSpec)) fnPartsCountUptoCard

/-- THE SECOND FORM's CARD OF 'laws.FnClash'. -/
def fnClashUptoCard : Claim7 := { stood := { row := fnClashUptoRow, standIns := [], harness := (true, "5d7b27699adf6aa4303d3de668a7c3150c04e5a87965bab53939a9c73c259877"), looks := false }, kinds := [], alts := [], laidByText := true, laidKinds := [.data, .pinned], laidTests := true, laidLooks := .later }
def FnClashUptoCardSaid : Prop := Claim7.holds Tryd.pinned (.plain (OpenSpec.upto fnClashSpec)) fnClashUptoCard

/-- THE SECOND FORM's CARD OF 'laws.FnClashNot'. -/
def fnClashNotUptoCard : Claim7 := { stood := { row := fnClashNotUptoRow, standIns := [], harness := (true, "5d7b27699adf6aa4303d3de668a7c3150c04e5a87965bab53939a9c73c259877"), looks := false }, kinds := [], alts := [], laidByText := true, laidKinds := [.data, .pinned], laidTests := true, laidLooks := .later }
def FnClashNotUptoCardSaid : Prop := Claim7.holds Tryd.pinned (.plain (OpenSpec.upto fnClashNotSpec)) fnClashNotUptoCard

/-- THE SECOND FORM's CARD OF 'laws.FnMatchOne'. -/
def fnMatchOneUptoCard : Claim7 := { stood := { row := fnMatchOneUptoRow, standIns := [], harness := (true, "5d7b27699adf6aa4303d3de668a7c3150c04e5a87965bab53939a9c73c259877"), looks := false }, kinds := [], alts := [], laidByText := true, laidKinds := [.data, .pinned], laidTests := true, laidLooks := .later }
def FnMatchOneUptoCardSaid : Prop := Claim7.holds Tryd.pinned (.plain (OpenSpec.upto fnMatchOneSpec)) fnMatchOneUptoCard
end Rows
end Go.Proofs.YtjmnnogpinggmaaDoor
