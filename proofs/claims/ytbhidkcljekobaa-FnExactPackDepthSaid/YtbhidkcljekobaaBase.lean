/- The closed facts of this seat's translation that every statement of the seat asks for. -/
import Derived.Test.YtbhidkcljekobaaRows
import Derived.Test.YtbhidkcljekobaaKit
namespace Go.Proofs.Ytbhidkcljekobaa
set_option linter.unusedVariables false
set_option linter.unusedSimpArgs false
open Go.ChangeShapes Go.WideShapes Go.ChangeAt Go.RowKit

theorem Try.ownF : ownKnob Try.prog.godebug = none := by kernel_rfl
theorem Try.laidF : laidOutB Try.prog = true := by kernel_rfl
theorem Try.rowedF : mapsRowed Try.prog = true := by kernel_rfl
theorem Try.stopsF : Try.prog.stops = [] := by kernel_rfl
theorem Try.knobsF : Try.prog.stopKnobs = [] := by kernel_rfl
theorem Try.plainF : Try.prog.plainKeys = true := by kernel_rfl
theorem Try.heardF : Try.prog.stopsHeard = true := by kernel_rfl
theorem Try.laterF : Try.prog.laysLater = false := by kernel_rfl
theorem Try.reflectF : Try.prog.bearsReflect = false := by kernel_rfl
theorem Try.doorF : Try.prog.doorFits [] = true := by kernel_rfl

set_option maxRecDepth 100000 in
theorem Try.initF : ∃ rest, Try.prog.initOrder.toList = [104, 97, 114, 110, 101, 115, 115].map Char.ofNat ++ Char.ofNat 32 :: ([49, 100, 51, 56, 51, 51, 49, 100, 53, 101, 54, 102, 99, 57, 54, 98, 102, 98, 54, 50, 99, 102, 52, 53, 97, 97, 98, 48, 102, 97, 52, 57, 52, 49, 97, 54, 52, 101, 51, 55, 54, 49, 101, 57, 50, 55, 99, 54, 49, 53, 57, 97, 53, 99, 51, 101, 101, 97, 99, 52, 54, 49, 55, 57].map Char.ofNat ++ Char.ofNat 32 :: ([99, 117, 116].map Char.ofNat ++ Char.ofNat 32 :: rest)) :=
  ⟨_, String.toList_ofList⟩
theorem Try.headF : ∃ rest, behindMainWord (wordsSigns Try.prog.initOrder.toList) = "cut".toList :: rest := by
  obtain ⟨rest, h⟩ := Try.initF
  exact ⟨_, head_of _ ([49, 100, 51, 56, 51, 51, 49, 100, 53, 101, 54, 102, 99, 57, 54, 98, 102, 98, 54, 50, 99, 102, 52, 53, 97, 97, 98, 48, 102, 97, 52, 57, 52, 49, 97, 54, 52, 101, 51, 55, 54, 49, 101, 57, 50, 55, 99, 54, 49, 53, 57, 97, 53, 99, 51, 101, 101, 97, 99, 52, 54, 49, 55, 57].map Char.ofNat) rest (by decide) (by decide) (by rw [h]; simp)⟩

theorem Try.facts : ProgFacts Try.prog := by
  obtain ⟨rest, h⟩ := Try.headF
  exact ⟨Try.ownF, Try.laidF, Try.rowedF, Try.stopsF, Try.knobsF, Try.plainF, Try.heardF, may_of _ _ h Try.laterF Try.reflectF Try.doorF, lifts_of _ _ h, make_of _ _ h⟩

end Go.Proofs.Ytbhidkcljekobaa
