/- Small facts on the reading of frames out of a text. -/
import Derived.Test.YtklgkfknifkbaaaFrame
import Derived.Maps.AppendAt
import Derived.Lib.Hide
import Derived.Lib.Strings
import Derived.IntWalk
namespace Go.Proofs.Ytklgkfknifkbaaa
set_option linter.unusedVariables false
set_option linter.unusedSimpArgs false
open Go.RowKit

/-- A text by its bytes. -/
def strV (r : List UInt8) : Value := .string ⟨r.toArray⟩
theorem Try.infoStr : (Try.prog.info? 9).map (fun i => (i.zero, i.size, i.bytes)) = some (some (.string ⟨#[]⟩), 1, 16) := by kernel_rfl

theorem getL (s : ByteArray) (k : Nat) (h : k < s.size) : s[k] = s.data.toList[k]'(by simpa using h) := rfl

theorem ret2_int {v : Value} {a b : Int} (h : a = b) : Ending.returned (.tuple #[v, .int .i64 a]) = Ending.returned (.tuple #[v, .int .i64 b]) := by rw [h]
theorem lenL (s : ByteArray) : s.data.toList.length = s.size := by rw [Array.length_toList]; rfl
theorem b_end {s : ByteArray} {k : Nat} (h : s.size ≤ k) : headRec (s.data.toList.drop k) = none := head_end (by rw [lenL]; exact h)
theorem b_bad {s : ByteArray} {k : Nat} (h : k < s.size) (hn : ¬ (1 ≤ s[k].toNat ∧ s[k].toNat ≤ 12)) : headRec (s.data.toList.drop k) = none := head_bad (by rw [lenL]; exact h) hn
theorem b_short {s : ByteArray} {k : Nat} (h : k < s.size) (hn : s.size < k + s[k].toNat + 2) : headRec (s.data.toList.drop k) = none :=
  head_short (by rw [lenL]; exact h) (by have e := lenL s; show s.data.toList.length < k + s[k].toNat + 2; omega)
theorem b_rec {s : ByteArray} {k n : Nat} : (s.extract (k + 1) (k + 1 + n)).data.toList = (s.data.toList.drop (k + 1)).take n := by
  rw [Lib.extract_data]; congr 1; omega
theorem b_wrong {s : ByteArray} {k : Nat} (h : k < s.size) (hf : k + s[k].toNat + 2 ≤ s.size) (hn : (s[k + 1 + s[k].toNat]'(by omega)).toNat ≠ chk (s.extract (k + 1) (k + 1 + s[k].toNat)).data.toList) : headRec (s.data.toList.drop k) = none := by
  rw [b_rec] at hn
  exact head_wrong (by rw [lenL]; exact h) (by have e := lenL s; show k + s[k].toNat + 2 ≤ s.data.toList.length; omega) hn
theorem b_right {s : ByteArray} {k : Nat} (h : k < s.size) (h1 : 1 ≤ s[k].toNat) (h2 : s[k].toNat ≤ 12) (hf : k + s[k].toNat + 2 ≤ s.size) (hn : (s[k + 1 + s[k].toNat]'(by omega)).toNat = chk (s.extract (k + 1) (k + 1 + s[k].toNat)).data.toList) :
    headRec (s.data.toList.drop k) = some (s.extract (k + 1) (k + 1 + s[k].toNat)).data.toList := by
  rw [b_rec] at hn ⊢
  exact head_right (by rw [lenL]; exact h) h1 h2 (by have e := lenL s; show k + s[k].toNat + 2 ≤ s.data.toList.length; omega) hn


end Go.Proofs.Ytklgkfknifkbaaa
