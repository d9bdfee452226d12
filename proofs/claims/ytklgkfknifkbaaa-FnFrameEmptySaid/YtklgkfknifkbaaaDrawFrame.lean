/- DrawLogFrame returns some text of at most 13 bytes. -/
import Derived.Test.YtklgkfknifkbaaaRecord
namespace Go.Proofs.Ytklgkfknifkbaaa
set_option linter.unusedVariables false
set_option linter.unusedSimpArgs false
open Go.RowKit

theorem below_grown {w a b : World} {g : Nat} (h : Below w.heap.size w a) (k : a.grownBy b (some g)) (hg : w.heap.size ≤ g) : Below w.heap.size w b :=
  h.grown k h.size (fun j hj => by cases hj; exact hg)

theorem drawLogFrame_any (a : Option Addr) (n c : Nat) (w : World) (h : CodeAt w a n c) :
    Calls Try.prog 34 #[.slice a n c] w fun e w' => ∃ s : ByteArray, e = .returned (.string s) ∧ s.size ≤ 13 ∧ Below w.heap.size w w' := by
  go_enter Try.func34, Try.ntmps34
  go_wp2_with fail
  refine (l6Open_any a n c w h).mono ?_
  rintro e w1 ⟨rfl, hb1, hR1⟩
  go_wp2_with fail
  refine (l91Record_any _ 0 w1 hR1 (by omega)).mono ?_
  rintro e w2 ⟨s, q, rfl, hs, hq, hg2, hR2⟩
  go_wp2_with fail
  go_ret
  exact ⟨s, rfl, hs, below_grown hb1 hg2 (Nat.le_refl _)⟩

end Go.Proofs.Ytklgkfknifkbaaa
