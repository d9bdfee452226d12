/- Contracts of the functions on frames of records: the check, the frame. -/
import Derived.Test.YtklgkfknifkbaaaDisk
import Derived.Test.YtklgkfknifkbaaaPlain
import Derived.Lib.ConvBytes
namespace Go.Proofs.Ytklgkfknifkbaaa
set_option linter.unusedVariables false
set_option linter.unusedSimpArgs false
open Go.RowKit

theorem take_snoc (s : ByteArray) (k : Nat) (h : k < s.size) : s.data.toList.take (k + 1) = s.data.toList.take k ++ [s[k]] := by
  rw [List.take_succ_eq_append_getElem (by simpa using h)]; rfl
theorem int_val {k : IntKind} {a b : Int} (h : a = b) : Value.int k a = Value.int k b := by rw [h]
theorem ret_u8 {a b : Int} (h : a = b) : Ending.returned (.int .u8 a) = Ending.returned (.int .u8 b) := by rw [h]

set_option maxHeartbeats 400000 in
theorem l4Check_any (s : ByteArray) (w : World) (hs : s.size ≤ 1048576) :
    Calls Try.prog 58 #[.string s] w fun e w' => e = .returned (.int .u8 (chk s.data.toList : Nat)) ∧ w = w' := by
  go_enter Try.func58, Try.ntmps58
  go_wp2
  go_loop [3, 4] (fun n i => ∃ k : Nat, k ≤ s.size ∧ i = .int .i64 k ∧ n = .int .i64 (chkFrom (7 + 3 * s.size) (s.data.toList.take k))) (fun _ i => s.size - (intOf i).toNat)
  case atStart => exact ⟨0, Nat.zero_le _, rfl, by simp [chkFrom]⟩
  case round =>
    obtain ⟨k, hk, rfl, rfl⟩ := hrel
    have hd := chkFrom_le (7 + 3 * s.size) (s.data.toList.take k)
    by_cases hlt : k < s.size
    · have hb : (s[k].toNat : Int) < 256 := by have := s[k].toNat_lt; omega
      go_wp2
      go_round
      case rel => exact ⟨k + 1, by omega, by go_num, int_val (by rw [take_snoc s k hlt, chkFrom_snoc]; omega)⟩
      case measure => simp [intOf]; omega
    · obtain rfl : k = s.size := by omega
      have hc := chk_lt s.data.toList
      have he : s.data.toList.take s.size = s.data.toList := List.take_of_length_le (by simp)
      have hl : chkFrom (7 + 3 * s.size) s.data.toList = chk s.data.toList := by simp [chk]
      go_wp2
      go_ret
      exact ⟨ret_u8 (by omega), rfl⟩

/-- A text made a slice of bytes: new memory. -/
theorem conv_bytes (w : World) (s : ByteArray) : ∃ (cap : Nat) (w1 : World), (convert 9 34 (.string s)).run Try.prog w = .ok (.slice (some ⟨w.heap.size, 0, none⟩) s.size cap) w1 ∧
    Below w.heap.size w w1 ∧ ∀ (k : Nat) (h : k < s.size), w1.cell? ⟨w.heap.size, k, none⟩ = some (.int .u8 s[k].toNat) := by
  refine ⟨_, _, Lib.run_convert_string_bytes w 9 34 5 s Try.underlying9 Try.underlying34 Try.underlying5, ?_, ?_⟩
  · exact ⟨rfl, rfl, rfl, by rw [Lib.bytesWorld_size]; omega, fun k hk => Lib.bytesWorld_at_old _ _ _ _ hk⟩
  · intro k h
    rw [Lib.bytesWorld_cell _ _ _ _ h]
    simp [h]
    rfl

set_option maxHeartbeats 400000 in
theorem checkOf_any (s : ByteArray) (w : World) (hs : s.size ≤ 1048576) :
    Calls Try.prog 54 #[.string s] w fun e w' => e = .returned (.int .u8 (chk s.data.toList : Nat)) ∧ Below w.heap.size w w' := by
  obtain ⟨cap, w1, hrun, hb, hcell⟩ := conv_bytes w s
  go_enter Try.func54, Try.ntmps54
  go_wp2
  go_loop [3, 13] (fun n i => ∃ k : Nat, k ≤ s.size ∧ i = .int .i64 k ∧ n = .int .i64 (chkFrom (7 + 3 * s.size) (s.data.toList.take k))) (fun _ i => s.size - (intOf i).toNat)
  case atStart => exact ⟨0, Nat.zero_le _, rfl, by simp [chkFrom]⟩
  case round =>
    obtain ⟨k, hk, rfl, rfl⟩ := hrel
    have hd := chkFrom_le (7 + 3 * s.size) (s.data.toList.take k)
    by_cases hlt : k < s.size
    · have hb : (s[k].toNat : Int) < 256 := by have := s[k].toNat_lt; omega
      have hc := hcell k hlt
      clear hcell
      go_wp2
      go_round
      case rel => exact ⟨k + 1, by omega, by go_num, int_val (by rw [take_snoc s k hlt, chkFrom_snoc]; omega)⟩
      case measure => simp [intOf]; omega
    · obtain rfl : k = s.size := by omega
      have hc := chk_lt s.data.toList
      have he : s.data.toList.take s.size = s.data.toList := List.take_of_length_le (by simp)
      have hl : chkFrom (7 + 3 * s.size) s.data.toList = chk s.data.toList := by simp [chk]
      go_wp2
      go_ret
      exact ⟨ret_u8 (by omega), hb⟩

end Go.Proofs.Ytklgkfknifkbaaa
