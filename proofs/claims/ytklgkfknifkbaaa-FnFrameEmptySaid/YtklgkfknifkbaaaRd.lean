/- The reader of a code: a number from 0 to n-1 is picked, the place moves on, nothing else turns. -/
import Derived.Test.YtklgkfknifkbaaaBase
import Derived.BigQuiet
import Derived.Deep.QuietTactic
import Derived.Deep.DeepCutAuto
import Derived.Lib.Hide
namespace Go.Proofs.Ytklgkfknifkbaaa
set_option linter.unusedVariables false
set_option linter.unusedSimpArgs false
open Go.ChangeShapes Go.WideShapes Go.RowKit

/-- Bytes that lie in memory below block g. -/
def BytesAt (W : World) (g : Nat) (a : Option Addr) (n : Nat) : Prop :=
  0 < n → ∃ b off, a = some ⟨b, off, none⟩ ∧ b < g ∧ ∀ k, k < n → ∃ x : Nat, x < 256 ∧ W.cell? ⟨b, off + k, none⟩ = some (.int .u8 x)

/-- Block g is a reader at place p. -/
def Rd (W : World) (g p : Nat) : Prop :=
  ∃ a n c, W.cell? ⟨g, 0, none⟩ = some (.slice a n c) ∧ W.cell? ⟨g, 1, none⟩ = some (.int .i64 p) ∧ W.frozen? ⟨g, 1, none⟩ = false ∧ n ≤ 2000 ∧ BytesAt W g a n

theorem BytesAt.keep {W W' : World} {g : Nat} {a : Option Addr} {n : Nat} (h : BytesAt W g a n) (hk : ∀ p : Addr, p.block < g → W'.cell? p = W.cell? p) : BytesAt W' g a n := by
  intro hn
  obtain ⟨b, off, rfl, hb, hc⟩ := h hn
  refine ⟨b, off, rfl, hb, fun k hkn => ?_⟩
  obtain ⟨x, hx, hcell⟩ := hc k hkn
  exact ⟨x, hx, (hk ⟨b, off + k, none⟩ hb).trans hcell⟩

/-- Only block g, and what is new, may have turned. -/
theorem grown_trans {w a b : World} {g : Nat} (h : w.grownBy a (some g)) (k : a.grownBy b (some g)) : w.grownBy b (some g) :=
  ⟨k.os.trans h.os, k.tape.trans h.tape, k.output.trans h.output, Nat.le_trans h.size k.size, fun i hi hne => (k.block i (Nat.lt_of_lt_of_le hi h.size) hne).trans (h.block i hi hne)⟩
theorem grown_drewN {w a : World} {g : Nat} (h : w.grownBy a (some g)) (n : Nat) : w.grownBy (a.drewN n) (some g) := ⟨h.os, h.tape, h.output, h.size, h.block⟩
theorem grown_set {w a : World} {g : Nat} (h : w.grownBy a (some g)) (o : Nat) (v : Value) : w.grownBy (a.setCell ⟨g, o, none⟩ v) (some g) :=
  ⟨h.os, h.tape, h.output, by simpa [World.setCell] using h.size, fun i hi hne => (Below.heap_setCell a ⟨g, o, none⟩ v i (by rintro rfl; exact hne rfl)).trans (h.block i hi hne)⟩

theorem Rd.next {w : World} {g p : Nat} (h : Rd w g p) : Rd (w.setCell ⟨g, 1, none⟩ (.int .i64 ((p : Int) + 1))) g (p + 1) := by
  obtain ⟨a, m, c, c0, c1, f1, hm, hb⟩ := h
  refine ⟨a, m, c, ?_, ?_, ?_, hm, hb.keep fun q hq => ?_⟩
  · rw [World.cell?_setCell_other w ⟨g, 1, none⟩ ⟨g, 0, none⟩ _ (by simp)]; exact c0
  · exact World.cell?_setCell_same' _ _ _ (by rw [c1]; rfl)
  · rw [World.frozen?_setCell]; exact f1
  · exact World.cell?_setCell_other w ⟨g, 1, none⟩ q _ (by rintro rfl; exact Nat.lt_irrefl _ hq)
theorem Rd.drewN {w : World} {g p : Nat} (h : Rd w g p) (n : Nat) : Rd (w.drewN n) g p := h
theorem Rd.same {w w' : World} {g p : Nat} (h : Rd w g p) (hs : ∀ k, k ≤ g → w'.heap[k]? = w.heap[k]?) : Rd w' g p := by
  obtain ⟨a, m, c, c0, c1, f1, hm, hb⟩ := h
  exact ⟨a, m, c, (World.cell?_of_block (hs g (Nat.le_refl _))).trans c0, (World.cell?_of_block (hs g (Nat.le_refl _))).trans c1, (World.frozen?_of_block (hs g (Nat.le_refl _))).trans f1, hm,
    hb.keep fun q hq => World.cell?_of_block (hs q.block (Nat.le_of_lt hq))⟩
theorem Rd.lt {w : World} {g p : Nat} (h : Rd w g p) : g < w.heap.size := by
  obtain ⟨a, m, c, c0, _⟩ := h
  exact World.block_lt_of_cell? w _ c0
theorem Rd.below {w w' : World} {g p : Nat} (h : Rd w g p) (hb : Below w.heap.size w w') : Rd w' g p := h.same fun k hk => hb.block k (Nat.lt_of_le_of_lt hk h.lt)
theorem Rd.alloc {w : World} {g p : Nat} (h : Rd w g p) (o : Obj) : Rd (w.alloc o) g p := h.below (alloc_below (Below.refl _ _) o)
/-- Behind a law that writes one row of the call's own, above the reader. -/
theorem Rd.grown {w w' : World} {g p : Nat} {row : Option Nat} (h : Rd w g p) (hg : w.grownBy w' row) (hr : ∀ k, row = some k → g < k) : Rd w' g p :=
  h.same fun k hk => hg.block k (Nat.lt_of_le_of_lt hk h.lt) (fun e => by have := hr k e.symm; omega)
theorem grown_alloc {w a : World} {row : Option Nat} (h : w.grownBy a row) (o : Obj) : w.grownBy (a.alloc o) row :=
  ⟨h.os, h.tape, h.output, Nat.le_trans h.size (by simp), fun i hi hne => (Below.heap_alloc a o i (Nat.lt_of_lt_of_le hi h.size)).trans (h.block i hi hne)⟩
theorem grown_own {w a b : World} {row0 row : Option Nat} (h : w.grownBy a row0) (k : a.grownBy b row) (hr : ∀ j, row = some j → w.heap.size ≤ j) : w.grownBy b row0 :=
  ⟨k.os.trans h.os, k.tape.trans h.tape, k.output.trans h.output, Nat.le_trans h.size k.size, fun i hi hne => (k.block i (Nat.lt_of_lt_of_le hi h.size) (fun e => by have := hr i e.symm; omega)).trans (h.block i hi hne)⟩
theorem grown_below {w a b : World} {row : Option Nat} (h : w.grownBy a row) (k : Below a.heap.size a b) : w.grownBy b row :=
  ⟨k.os.trans h.os, k.tape.trans h.tape, k.output.trans h.output, Nat.le_trans h.size k.size, fun i hi hne => (k.block i (Nat.lt_of_lt_of_le hi h.size)).trans (h.block i hi hne)⟩
theorem ret_int {a b : Int} (h : a = b) : Ending.returned (.int .i64 a) = Ending.returned (.int .i64 b) := by rw [h]

theorem ofInt_pos (a : Nat) (ha : a < 9223372036854775808) : (BitVec.ofInt 64 (a : Int)).toNat = a := by
  rw [BitVec.ofInt_natCast, BitVec.toNat_ofNat]; exact Nat.mod_eq_of_lt (by omega)
theorem xor_pos (a b : Nat) (ha : a < 4611686018427387904) (hb : b < 4611686018427387904) : bits .xor .i64 (a : Int) (b : Int) = ((a ^^^ b : Nat) : Int) := by
  have hx : a ^^^ b < 2 ^ 63 := Nat.xor_lt_two_pow (by omega) (by omega)
  show IntKind.i64.wrap ((BitVec.ofInt 64 (a : Int) ^^^ BitVec.ofInt 64 (b : Int)).toNat : Int) = _
  rw [BitVec.toNat_xor, ofInt_pos a (by omega), ofInt_pos b (by omega), IntKind.wrap_i64]
  omega
theorem pick_last (X : Int) (n : Nat) (h0 : 0 ≤ X) (h1 : X < 4611686018427387904) (hn : 1 ≤ n) : ∃ r : Nat, r < n ∧ (bits .xor .i64 X (X / 64)).tmod n = r := by
  obtain ⟨a, rfl⟩ := Int.eq_ofNat_of_zero_le h0
  have e : ((a : Int) / 64) = ((a / 64 : Nat) : Int) := by omega
  rw [e, xor_pos a (a / 64) (by omega) (by omega)]
  refine ⟨(a ^^^ (a / 64)) % n, Nat.mod_lt _ (by omega), ?_⟩
  rw [Int.tmod_eq_emod_of_nonneg (by omega)]
  omega

set_option maxHeartbeats 400000 in
theorem pick_any (g p n : Nat) (w : World) (h : Rd w g p) (hp : p ≤ 1000000) (h1 : 1 ≤ n) (hn : n ≤ 1000) :
    Calls Try.prog 61 #[.pointer (some ⟨g, 0, none⟩), .int .i64 n] w fun e w' =>
      (∃ r : Nat, r < n ∧ e = .returned (.int .i64 r)) ∧ w.grownBy w' (some g) ∧ Rd w' g (p + 1) := by
  have hR := h
  obtain ⟨a, m, c, c0, c1, f1, hm, hb⟩ := h
  have hG : w.grownBy (w.setCell ⟨g, 1, none⟩ (.int .i64 ((p : Int) + 1))) (some g) := grown_set (World.grownBy.refl w _) 1 _
  rcases Nat.eq_zero_or_pos m with h0 | h0
  · subst h0
    go_enter Try.func61, Try.ntmps61
    go_wp2
    go_ret
    exact ⟨⟨0, by omega, rfl⟩, hG, hR.next⟩
  · obtain ⟨b, off, rfl, hbg, hcell⟩ := hb h0
    have hm0 : ((m : Int) == 0) = false := by simp; omega
    by_cases hlt : p < m
    · obtain ⟨x, hx, hx0⟩ := hcell p hlt
      clear hcell hb
      go_enter Try.func61, Try.ntmps61
      go_wp2
      go_ret
      exact ⟨⟨x % n, Nat.mod_lt _ (by omega), ret_int (by omega)⟩, hG, hR.next⟩
    · obtain ⟨x, hx, hx0⟩ := hcell (p % m) (Nat.mod_lt _ (by omega))
      obtain ⟨y, hy, hy0⟩ := hcell ((p * 7 + 3) % m) (Nat.mod_lt _ (by omega))
      have e1 : (0 : Int) ≤ (p : Int) % (m : Int) := Int.emod_nonneg _ (by omega)
      have e2 : (p : Int) % (m : Int) < (m : Int) := Int.emod_lt_of_pos _ (by omega)
      have e3 : (0 : Int) ≤ ((p : Int) * 7 + 3) % (m : Int) := Int.emod_nonneg _ (by omega)
      have e4 : ((p : Int) * 7 + 3) % (m : Int) < (m : Int) := Int.emod_lt_of_pos _ (by omega)
      have e5 : (0 : Int) ≤ (p : Int) / (m : Int) := Int.ediv_nonneg (by omega) (by omega)
      have e6 : (p : Int) / (m : Int) ≤ (p : Int) := Int.ediv_le_self _ (by omega)
      clear hcell hb
      go_enter Try.func61, Try.ntmps61
      go_wp2
      go_quiet (fail)
      obtain ⟨r, hr, hr'⟩ := pick_last ((x : Int) * 131 + (y : Int) * 1117 + (p : Int) * 29 + (p : Int) / (m : Int) * 53) n (by omega) (by omega) h1
      have H := Lib.hid hr'
      clear hr'
      go_wp2
      go_ret
      exact ⟨⟨r, hr, ret_int H.out⟩, grown_drewN hG _, hR.next.drewN _⟩

end Go.Proofs.Ytklgkfknifkbaaa
