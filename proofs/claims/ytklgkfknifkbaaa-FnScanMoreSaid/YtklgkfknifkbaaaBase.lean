/- The closed facts of this seat's translation that every statement of the seat asks for. -/
import Derived.Test.YtklgkfknifkbaaaRows
import Derived.Test.YtklgkfknifkbaaaKit
namespace Go.Proofs.Ytklgkfknifkbaaa
set_option linter.unusedVariables false
set_option linter.unusedSimpArgs false
open Go.ChangeShapes Go.WideShapes Go.ChangeAt Go.RowKit

theorem Try.ownF : ownKnob Try.prog.godebug = none := by kernel_rfl
theorem Try.laidF : laidOutB Try.prog = true := by kernel_rfl
theorem Try.rowedF : mapsRowed Try.prog = true := by kernel_rfl
theorem Try.stopsF : Try.prog.stops = [] := by kernel_rfl
theorem Try.knobsF : Try.prog.stopKnobs = [] := by kernel_rfl
theorem Try.plainF : Try.prog.plainKeys = true := by kernel_rfl
theorem Try.heardF : Try.prog.stopsHeard = true := by kernel_rfl
theorem Try.laterF : Try.prog.laysLater = false := by kernel_rfl
theorem Try.reflectF : Try.prog.bearsReflect = false := by kernel_rfl
theorem Try.doorF : Try.prog.doorFits [] = true := by kernel_rfl

set_option maxRecDepth 100000 in
theorem Try.initF : ∃ rest, Try.prog.initOrder.toList = [104, 97, 114, 110, 101, 115, 115].map Char.ofNat ++ Char.ofNat 32 :: ([102, 53, 52, 99, 57, 56, 57, 49, 57, 56, 97, 98, 102, 101, 51, 56, 56, 102, 55, 50, 56, 52, 48, 100, 54, 48, 48, 97, 102, 101, 48, 55, 49, 102, 48, 101, 49, 99, 48, 51, 49, 99, 53, 102, 50, 100, 48, 99, 55, 52, 98, 56, 49, 97, 98, 50, 49, 102, 101, 56, 57, 55, 49, 97].map Char.ofNat ++ Char.ofNat 32 :: ([99, 117, 116].map Char.ofNat ++ Char.ofNat 32 :: rest)) :=
  ⟨_, String.toList_ofList⟩
theorem Try.headF : ∃ rest, behindMainWord (wordsSigns Try.prog.initOrder.toList) = "cut".toList :: rest := by
  obtain ⟨rest, h⟩ := Try.initF
  exact ⟨_, head_of _ ([102, 53, 52, 99, 57, 56, 57, 49, 57, 56, 97, 98, 102, 101, 51, 56, 56, 102, 55, 50, 56, 52, 48, 100, 54, 48, 48, 97, 102, 101, 48, 55, 49, 102, 48, 101, 49, 99, 48, 51, 49, 99, 53, 102, 50, 100, 48, 99, 55, 52, 98, 56, 49, 97, 98, 50, 49, 102, 101, 56, 57, 55, 49, 97].map Char.ofNat) rest (by decide) (by decide) (by rw [h]; simp)⟩

theorem Try.facts : ProgFacts Try.prog := by
  obtain ⟨rest, h⟩ := Try.headF
  exact ⟨Try.ownF, Try.laidF, Try.rowedF, Try.stopsF, Try.knobsF, Try.plainF, Try.heardF, may_of _ _ h Try.laterF Try.reflectF Try.doorF, lifts_of _ _ h, make_of _ _ h⟩

end Go.Proofs.Ytklgkfknifkbaaa
