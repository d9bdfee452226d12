/- The closed facts of this seat's translation that every statement of the seat asks for. -/
import Derived.Test.YtjmnnogpinggmaaDoorRows
import Derived.Test.YtjmnnogpinggmaaDoorKit
namespace Go.Proofs.YtjmnnogpinggmaaDoor
set_option linter.unusedVariables false
set_option linter.unusedSimpArgs false
open Go.ChangeShapes Go.WideShapes Go.ChangeAt Go.RowKit

theorem Tryd.ownF : ownKnob Tryd.prog.godebug = none := by kernel_rfl
theorem Tryd.laidF : laidOutB Tryd.prog = true := by kernel_rfl
theorem Tryd.rowedF : mapsRowed Tryd.prog = true := by kernel_rfl
theorem Tryd.stopsF : Tryd.prog.stops = [] := by kernel_rfl
theorem Tryd.knobsF : Tryd.prog.stopKnobs = [] := by kernel_rfl
theorem Tryd.plainF : Tryd.prog.plainKeys = true := by kernel_rfl
theorem Tryd.heardF : Tryd.prog.stopsHeard = true := by kernel_rfl
theorem Tryd.laterF : Tryd.prog.laysLater = false := by kernel_rfl
theorem Tryd.reflectF : Tryd.prog.bearsReflect = false := by kernel_rfl
theorem Tryd.doorF : Tryd.prog.doorFits [] = true := by kernel_rfl

set_option maxRecDepth 100000 in
theorem Tryd.initF : ∃ rest, Tryd.prog.initOrder.toList = [104, 97, 114, 110, 101, 115, 115].map Char.ofNat ++ Char.ofNat 32 :: ([53, 100, 55, 98, 50, 55, 54, 57, 57, 97, 100, 102, 54, 97, 97, 52, 51, 48, 51, 100, 51, 100, 101, 54, 54, 56, 97, 55, 99, 51, 49, 53, 48, 99, 48, 52, 101, 53, 97, 56, 55, 57, 54, 53, 98, 97, 98, 53, 51, 57, 51, 57, 97, 57, 99, 55, 51, 99, 50, 53, 57, 56, 55, 55].map Char.ofNat ++ Char.ofNat 32 :: ([99, 117, 116].map Char.ofNat ++ Char.ofNat 32 :: rest)) :=
  ⟨_, String.toList_ofList⟩
theorem Tryd.headF : ∃ rest, behindMainWord (wordsSigns Tryd.prog.initOrder.toList) = "cut".toList :: rest := by
  obtain ⟨rest, h⟩ := Tryd.initF
  exact ⟨_, head_of _ ([53, 100, 55, 98, 50, 55, 54, 57, 57, 97, 100, 102, 54, 97, 97, 52, 51, 48, 51, 100, 51, 100, 101, 54, 54, 56, 97, 55, 99, 51, 49, 53, 48, 99, 48, 52, 101, 53, 97, 56, 55, 57, 54, 53, 98, 97, 98, 53, 51, 57, 51, 57, 97, 57, 99, 55, 51, 99, 50, 53, 57, 56, 55, 55].map Char.ofNat) rest (by decide) (by decide) (by rw [h]; simp)⟩

theorem Tryd.facts : ProgFacts Tryd.prog := by
  obtain ⟨rest, h⟩ := Tryd.headF
  exact ⟨Tryd.ownF, Tryd.laidF, Tryd.rowedF, Tryd.stopsF, Tryd.knobsF, Tryd.plainF, Tryd.heardF, may_of _ _ h Tryd.laterF Tryd.reflectF Tryd.doorF, lifts_of _ _ h, make_of _ _ h⟩

end Go.Proofs.YtjmnnogpinggmaaDoor
