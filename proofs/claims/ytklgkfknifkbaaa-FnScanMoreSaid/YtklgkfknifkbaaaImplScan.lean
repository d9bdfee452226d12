/- The contract of the program's LogScan, in the words of the small logic of steps. No conditions but the length of the text. -/
import Derived.Test.YtklgkfknifkbaaaScanImpl
import Derived.Test.YtklgkfknifkbaaaSScan
namespace Go.Proofs.Ytklgkfknifkbaaa
set_option linter.unusedVariables false
set_option linter.unusedSimpArgs false
open Go.RowKit

theorem strV_flat (rs : List (List UInt8)) : rs.map strV = rs.flatMap encStr := by
  induction rs with
  | nil => rfl
  | cons r rs ih => rw [List.map_cons, List.flatMap_cons, ih]; rfl

theorem iLogScan_ok (l : List UInt8) (w0 : World) (hl : (l.length : Int) ≤ 1048576) :
    Calls Try.prog 37 #[.string (bs l)] w0 fun e w => ∃ (P : Option Addr), ∃ (N : Nat), ∃ (C : Nat), e = .returned (.tuple #[.slice P N C, .int .i64 ((used (scan l) : Int))]) ∧ ((N : Int) = (scan l).length) ∧ ((N : Int) ≤ l.length) ∧ ((used (scan l) : Int) ≤ l.length) ∧ Own w0 [] [.row 9 1 (.slice P N C) N ((scan l).flatMap encStr)] w := by
  refine (callsIn_wide.1 (implScan_in 4 (Nat.le_refl _) (bs l) (by rw [bs_size]; omega) w0)).mono ?_
  rintro e w ⟨v, rfl, hrow, hB⟩
  have h1 := used_le l
  have h2 := length_used (scan l)
  have hform : ∃ P C, v = .slice P (scan l).length C := by
    rcases hrow.2 with ⟨hv, hn⟩ | ⟨g, cap, cur, hv, _⟩
    · exact ⟨none, 0, by rw [hv]; show Value.slice none 0 0 = .slice none (scan (bs l).data.toList).length 0; rw [hn]⟩
    · exact ⟨_, _, hv⟩
  obtain ⟨P, C, rfl⟩ := hform
  refine ⟨P, (scan l).length, C, rfl, rfl, by omega, by omega, hB.os, hB.tape, hB.output, hB.size, fun i hi _ => hB.block i hi, fun r hr => ?_, ?_, fun r hr b hb => ?_⟩
  · simp at hr; subst hr
    simp only [Res.holds]
    rw [← strV_flat]
    exact row_base hrow (Nat.zero_le _)
  · have hnd : ∀ r : Res, ([r].filterMap Res.blk).Nodup := fun r => by cases h : r.blk <;> simp [h]
    exact hnd _
  · simp at hr; subst hr
    right
    exact (hrow.lt b hb).1
end Go.Proofs.Ytklgkfknifkbaaa
