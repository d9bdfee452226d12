/- The contract of the program's check of a record. -/
import Derived.Test.YtklgkfknifkbaaaTypes
import Derived.Test.YtklgkfknifkbaaaFrame
namespace Go.Proofs.Ytklgkfknifkbaaa
set_option linter.unusedVariables false
set_option linter.unusedSimpArgs false
open Go.RowKit

theorem checkOf_ok (l : List UInt8) (w0 : World) (hl : (l.length : Int) ≤ 1048576) :
    Calls Try.prog 54 #[.string (bs l)] w0 fun e w => e = .returned (.int .u8 ((chk l : Int))) ∧ Own w0 [] [] w :=
  (checkOf_any (bs l) w0 (by rw [bs_size]; omega)).mono fun e w' ⟨h1, h2⟩ => ⟨h1, Own.of_below h2⟩

end Go.Proofs.Ytklgkfknifkbaaa
