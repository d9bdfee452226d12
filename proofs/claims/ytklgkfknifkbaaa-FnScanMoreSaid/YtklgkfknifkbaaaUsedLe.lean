/- What is read takes no more bytes than there are. No conditions. -/
import Derived.Test.YtklgkfknifkbaaaPlain
namespace Go.Proofs.Ytklgkfknifkbaaa
set_option linter.unusedVariables false
set_option linter.unusedSimpArgs false
theorem used_scan (n : Nat) : ∀ l : List UInt8, l.length ≤ n → used (scan l) ≤ l.length := by
  induction n with
  | zero =>
    intro l h
    have : l = [] := List.eq_nil_of_length_eq_zero (by omega)
    subst this
    rw [scan_none rfl]; simp [used]
  | succ n ih =>
    intro l h
    cases hh : headRec l with
    | none => rw [scan_none hh]; simp [used]
    | some r =>
      have h2 := (headRec_some hh).2.1
      rw [scan_some hh, used_cons]
      have := ih (l.drop (r.length + 2)) (by rw [List.length_drop]; omega)
      rw [List.length_drop] at this
      omega
theorem used_le (l : List UInt8) : used (scan l) ≤ l.length := used_scan _ l (Nat.le_refl _)

end Go.Proofs.Ytklgkfknifkbaaa
