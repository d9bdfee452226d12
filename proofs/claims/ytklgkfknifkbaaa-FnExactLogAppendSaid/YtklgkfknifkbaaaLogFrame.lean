/- Contracts of both LogFrame functions, for all texts. -/
import Derived.Test.YtklgkfknifkbaaaFrameB
namespace Go.Proofs.Ytklgkfknifkbaaa
set_option linter.unusedVariables false
set_option linter.unusedSimpArgs false
open Go.RowKit

/-- What LogFrame returns. -/
def logFrame (s : ByteArray) : ByteArray := if isRec s then frameOf s else ⟨#[]⟩

theorem isRec_true {s : ByteArray} (h : isRec s = true) : 1 ≤ s.size ∧ s.size ≤ 12 := by
  simp [isRec, inR] at h; omega

theorem specLogFrame_any (s : ByteArray) (w : World) (hs : s.size ≤ maxLen) :
    Calls Try.prog 29 #[.string s] w fun e w' => e = .returned (.string (logFrame s)) ∧ Below w.heap.size w w' := by
  unfold maxLen at hs
  cases h : isRec s
  · have e1 : logFrame s = ⟨#[]⟩ := by simp [logFrame, h]
    rw [e1]
    clear e1
    have h' : inR s.size 1 12 = false := h
    go_enter Try.func29, Try.ntmps29
    go_wp2_with (go_at_call 50; refine (l6In_any _ _ _ _).mono ?_; rintro e w' ⟨rfl, rfl⟩)
    go_ret
    exact ⟨rfl, Below.refl _ _⟩
  · have e1 : logFrame s = frameOf s := by simp [logFrame, h]
    rw [e1]
    clear e1
    have h' : inR s.size 1 12 = true := h
    obtain ⟨h1, h2⟩ := isRec_true h
    go_enter Try.func29, Try.ntmps29
    go_wp2_with (first
      | (go_at_call 50; refine (l6In_any _ _ _ _).mono ?_; rintro e w' ⟨rfl, rfl⟩)
      | (go_at_call 52; refine (l4Frame_any s _ h2).mono ?_; rintro e w1 ⟨rfl, hb1⟩))
    go_ret
    exact ⟨rfl, hb1⟩

theorem implLogFrame_any (s : ByteArray) (w : World) (hs : s.size ≤ maxLen) :
    Calls Try.prog 30 #[.string s] w fun e w' => e = .returned (.string (logFrame s)) ∧ Below w.heap.size w w' := by
  unfold maxLen at hs
  cases h : isRec s
  · have e1 : logFrame s = ⟨#[]⟩ := by simp [logFrame, h]
    rw [e1]
    clear e1
    go_enter Try.func30, Try.ntmps30
    go_wp2_with (go_at_call 53; refine (isRecord_any s _ (by omega)).mono ?_; rintro e w' ⟨rfl, rfl⟩)
    go_ret
    exact ⟨rfl, Below.refl _ _⟩
  · have e1 : logFrame s = frameOf s := by simp [logFrame, h]
    rw [e1]
    obtain ⟨h1, h2⟩ := isRec_true h
    exact implFrame_any s w h1 h2

end Go.Proofs.Ytklgkfknifkbaaa
