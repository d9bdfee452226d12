/- The frame of a record: what both LogFrame functions return. -/
import Derived.Test.YtklgkfknifkbaaaFrame
import Derived.Deep.RegionWith
namespace Go.Proofs.Ytklgkfknifkbaaa
set_option linter.unusedVariables false
set_option linter.unusedSimpArgs false
open Go.RowKit

/-- What the conversion of one byte to a text gives, by the byte's cell. -/
def oneText (P : Program) (src dst : TypeId) (W : World) (g : Nat) : Option Value → Result Value
  | some (.int .u8 v) => .ok (.string ⟨#[UInt8.ofNat v.toNat]⟩) W
  | _ => (convert src dst (.slice (some ⟨g, 0, none⟩) 1 1)).run P W
theorem oneText_some (P : Program) (src dst : TypeId) (W : World) (g : Nat) (v : Int) : oneText P src dst W g (some (.int .u8 v)) = .ok (.string ⟨#[UInt8.ofNat v.toNat]⟩) W := rfl
theorem conv_one (W : World) (g : Nat) : (convert 34 9 (.slice (some ⟨g, 0, none⟩) 1 1)).run Try.prog W = oneText Try.prog 34 9 W g (W.cell? ⟨g, 0, none⟩) := by
  unfold oneText
  split
  · rename_i v h
    exact run_convert_bytes_arg W 34 5 Try.underlying34 Try.underlying5 g 0 1 1 [v] rfl
      (fun i hi => by obtain rfl : i = 0 := by omega
                      exact h) 9 Try.underlying9
  · rfl

/-- The frame of a record: a byte with its length, its bytes, a check. -/
def frameOf (s : ByteArray) : ByteArray := ByteArray.mk #[UInt8.ofNat s.size] ++ s ++ ByteArray.mk #[UInt8.ofNat (chk s.data.toList)]
theorem ret_str {a b : ByteArray} (h : a = b) : Ending.returned (.string a) = Ending.returned (.string b) := by rw [h]

/-- Whether a text can be a record. -/
def isRec (s : ByteArray) : Bool := inR s.size 1 12
theorem isRecord_any (s : ByteArray) (w : World) (_hs : s.size ≤ 9223372036854775807) :
    Calls Try.prog 53 #[.string s] w fun e w' => e = .returned (.bool (isRec s)) ∧ w = w' := by
  go_enter Try.func53, Try.ntmps53
  go_wp2_with (go_at_call 51; refine (inRange_any _ _ _ _).mono ?_; rintro e w' ⟨rfl, rfl⟩)
  go_ret
  exact ⟨rfl, rfl⟩

set_option maxHeartbeats 4000000 in
theorem l4Frame_any (s : ByteArray) (w : World) (hs : s.size ≤ 12) :
    Calls Try.prog 52 #[.string s] w fun e w' => e = .returned (.string (frameOf s)) ∧ Below w.heap.size w w' := by
  have q1 := conv_one
  have q2 := oneText_some
  have q3 : ¬ 9223372036854775807 < 1 + s.size := by omega
  have q4 : ¬ 9223372036854775807 < 1 + s.size + 1 := by omega
  have q5 : IntKind.u8.wrap (s.size : Int) = s.size := by rw [IntKind.wrap_u8]; omega
  go_enter Try.func52, Try.ntmps52
  go_wp2_with fail
  go_region_with (go_at_call 58; refine (l4Check_any s _ (by omega)).mono ?_; rintro e w' ⟨rfl, rfl⟩)
  all_goals go_wp2
  all_goals go_ret
  all_goals exact ⟨rfl, by repeat (first | exact Below.refl _ _ | apply alloc_below | apply Below.drew)⟩

set_option maxHeartbeats 4000000 in
theorem implFrame_any (s : ByteArray) (w : World) (h1 : 1 ≤ s.size) (hs : s.size ≤ 12) :
    Calls Try.prog 30 #[.string s] w fun e w' => e = .returned (.string (frameOf s)) ∧ Below w.heap.size w w' := by
  have q1 := conv_one
  have q2 := oneText_some
  have q3 : ¬ 9223372036854775807 < 1 + s.size := by omega
  have q4 : ¬ 9223372036854775807 < 1 + s.size + 1 := by omega
  have q5 : IntKind.u8.wrap (s.size : Int) = s.size := by rw [IntKind.wrap_u8]; omega
  have q6 : isRec s = true := by simp [isRec, inR]; omega
  go_enter Try.func30, Try.ntmps30
  go_wp2_with (go_at_call 53; refine (isRecord_any s _ (by omega)).mono ?_; rintro e w' ⟨rfl, rfl⟩)
  go_region_with (go_at_call 54; refine (checkOf_any s _ (by omega)).mono ?_; rintro e w1 ⟨rfl, hb1⟩; obtain ⟨hc1, hf1⟩ := bcell hb1; try (have z1 : w.heap.size < w1.heap.size := by have := hb1.size; simp at this; omega))
  all_goals go_wp2
  all_goals go_ret
  all_goals exact ⟨rfl, by repeat (first | exact Below.refl _ _ | apply alloc_below | apply Below.drew | refine step_below ?_ (by assumption))⟩

end Go.Proofs.Ytklgkfknifkbaaa
