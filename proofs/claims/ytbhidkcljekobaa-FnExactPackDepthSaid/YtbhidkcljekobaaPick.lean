/- The reader of a code: a number from 0 to n-1 is picked, the place moves on, nothing else turns. No conditions but that the place is small. -/
import Derived.Test.YtbhidkcljekobaaTypes
import Derived.BigQuiet
import Derived.Deep.QuietTactic
import Derived.Deep.DeepCutAuto
import Derived.Lib.Hide
namespace Go.Proofs.Ytbhidkcljekobaa
set_option linter.unusedVariables false
set_option linter.unusedSimpArgs false
open Go.RowKit

/-- The bytes of a code lie in memory, apart from block g. -/
def Code (w : World) (g : Nat) (A : Option Addr) (m : Nat) : Prop :=
  m ≤ 2000 ∧ (0 < m → ∃ b off, A = some ⟨b, off, none⟩ ∧ b < w.heap.size ∧ b ≠ g ∧ ∀ k, k < m → ∃ x : Nat, x < 256 ∧ w.cell? ⟨b, off + k, none⟩ = some (.int .u8 x))
theorem Code.keep {w0 w : World} {g m : Nat} {A : Option Addr} {X : List Nat} {Γ : List Res} (h : Code w0 g A m) (O : Own w0 X Γ w) (hX : ∀ b ∈ X, b = g) : Code w g A m := by
  refine ⟨h.1, fun h0 => ?_⟩
  obtain ⟨b, off, e, hb, hne, hc⟩ := h.2 h0
  refine ⟨b, off, e, Nat.lt_of_lt_of_le hb O.size, hne, fun k hk => ?_⟩
  obtain ⟨x, hx, hcell⟩ := hc k hk
  exact ⟨x, hx, (O.old hb (fun hm => hne (hX b hm))).trans hcell⟩
theorem ret_int' {a b : Int} (h : a = b) : Ending.returned (.int .i64 a) = Ending.returned (.int .i64 b) := by rw [h]

theorem ofInt_pos (a : Nat) (ha : a < 9223372036854775808) : (BitVec.ofInt 64 (a : Int)).toNat = a := by
  rw [BitVec.ofInt_natCast, BitVec.toNat_ofNat]; exact Nat.mod_eq_of_lt (by omega)
theorem xor_pos (a b : Nat) (ha : a < 4611686018427387904) (hb : b < 4611686018427387904) : bits .xor .i64 (a : Int) (b : Int) = ((a ^^^ b : Nat) : Int) := by
  have hx : a ^^^ b < 2 ^ 63 := Nat.xor_lt_two_pow (by omega) (by omega)
  show IntKind.i64.wrap ((BitVec.ofInt 64 (a : Int) ^^^ BitVec.ofInt 64 (b : Int)).toNat : Int) = _
  rw [BitVec.toNat_xor, ofInt_pos a (by omega), ofInt_pos b (by omega), IntKind.wrap_i64]
  omega
theorem pick_last (X : Int) (n : Nat) (h0 : 0 ≤ X) (h1 : X < 4611686018427387904) (hn : 1 ≤ n) : ∃ r : Nat, r < n ∧ (bits .xor .i64 X (X / 64)).tmod n = r := by
  obtain ⟨a, rfl⟩ := Int.eq_ofNat_of_zero_le h0
  have e : ((a : Int) / 64) = ((a / 64 : Nat) : Int) := by omega
  rw [e, xor_pos a (a / 64) (by omega) (by omega)]
  refine ⟨(a ^^^ (a / 64)) % n, Nat.mod_lt _ (by omega), ?_⟩
  rw [Int.tmod_eq_emod_of_nonneg (by omega)]
  omega


set_option maxHeartbeats 400000 in
theorem pick_any (g p n m c : Nat) (a : Option Addr) (w : World) (c0 : w.cell? ⟨g, 0, none⟩ = some (.slice a m c)) (c1 : w.cell? ⟨g, 1, none⟩ = some (.int .i64 p)) (f1 : w.frozen? ⟨g, 1, none⟩ = false) (hC : Code w g a m)
    (hp : p ≤ 1000000) (h1 : 1 ≤ n) (hn : n ≤ 1000) :
    Calls Try.prog 43 #[.pointer (some ⟨g, 0, none⟩), .int .i64 n] w fun e w' =>
      (∃ r : Nat, r < n ∧ e = .returned (.int .i64 r)) ∧ ∃ k, w' = (w.setCell ⟨g, 1, none⟩ (.int .i64 ((p : Int) + 1))).drewN k := by
  obtain ⟨hm, hb⟩ := hC
  rcases Nat.eq_zero_or_pos m with h0 | h0
  · subst h0
    clear hb
    go_enter Try.func43, Try.ntmps43
    go_wp2
    go_ret
    exact ⟨⟨0, by omega, rfl⟩, 0, rfl⟩
  · obtain ⟨b, off, rfl, hbg, hne, hcell⟩ := hb h0
    have hm0 : ((m : Int) == 0) = false := by simp; omega
    by_cases hlt : p < m
    · obtain ⟨x, hx, hx0⟩ := hcell p hlt
      clear hcell hb
      go_enter Try.func43, Try.ntmps43
      go_wp2
      go_ret
      exact ⟨⟨x % n, Nat.mod_lt _ (by omega), ret_int' (by omega)⟩, 0, rfl⟩
    · obtain ⟨x, hx, hx0⟩ := hcell (p % m) (Nat.mod_lt _ (by omega))
      obtain ⟨y, hy, hy0⟩ := hcell ((p * 7 + 3) % m) (Nat.mod_lt _ (by omega))
      have e1 : (0 : Int) ≤ (p : Int) % (m : Int) := Int.emod_nonneg _ (by omega)
      have e2 : (p : Int) % (m : Int) < (m : Int) := Int.emod_lt_of_pos _ (by omega)
      have e3 : (0 : Int) ≤ ((p : Int) * 7 + 3) % (m : Int) := Int.emod_nonneg _ (by omega)
      have e4 : ((p : Int) * 7 + 3) % (m : Int) < (m : Int) := Int.emod_lt_of_pos _ (by omega)
      have e5 : (0 : Int) ≤ (p : Int) / (m : Int) := Int.ediv_nonneg (by omega) (by omega)
      have e6 : (p : Int) / (m : Int) ≤ (p : Int) := Int.ediv_le_self _ (by omega)
      clear hcell hb
      go_enter Try.func43, Try.ntmps43
      go_wp2
      go_quiet (fail)
      obtain ⟨r, hr, hr'⟩ := pick_last ((x : Int) * 131 + (y : Int) * 1117 + (p : Int) * 29 + (p : Int) / (m : Int) * 53) n (by omega) (by omega) h1
      have H := Lib.hid hr'
      clear hr'
      go_wp2
      go_ret
      exact ⟨⟨r, hr, ret_int' H.out⟩, _, rfl⟩

theorem pick_ok (g : Nat) (A : Option Addr) (m c : Nat) (p n : Int) (T : TypeId) (w0 : World) (hC : Code w0 g A m) (hp0 : 0 ≤ p) (hp : p ≤ 1000000) (h1 : 1 ≤ n) (hn : n ≤ 1000) (O : Own w0 [g] [.cells g [.slice A m c, .int .i64 p] T] w0) :
    Calls Try.prog 43 #[.pointer (some ⟨g, 0, none⟩), .int .i64 n] w0 fun e w => ∃ (r : Int), e = .returned (.int .i64 r) ∧ 0 ≤ r ∧ r < n ∧ Own w0 [g] [.cells g [.slice A m c, .int .i64 (p + 1)] T] w := by
  obtain ⟨p, rfl⟩ := Int.eq_ofNat_of_zero_le hp0
  obtain ⟨n, rfl⟩ := Int.eq_ofNat_of_zero_le (Int.le_trans (by decide) h1)
  refine (pick_any g p n m c A w0 (O.load 0 rfl rfl) (O.load 0 rfl rfl) (O.free 0 rfl) hC (by omega) (by omega) (by omega)).mono ?_
  rintro e w ⟨⟨r, hr, rfl⟩, k, rfl⟩
  exact ⟨r, rfl, by omega, by omega, (O.set 0 rfl 1 _).drawn _⟩

/-- A slice of bytes that came in. -/
def CodeIn (W : World) (A : Option Addr) (n c : Nat) : Prop :=
  n ≤ c ∧ c ≤ maxLen ∧ (0 < n → ∃ b off, A = some ⟨b, off, none⟩ ∧ b < W.heap.size ∧ ∀ k, k < n → ∃ x : Nat, x < 256 ∧ W.cell? ⟨b, off + k, none⟩ = some (.int .u8 x))
theorem Code.of {W : World} {A : Option Addr} {n c m g : Nat} (h : CodeIn W A n c) (hm : (m : Int) ≤ 2000) (hmn : (m : Int) ≤ n) (hg : W.heap.size ≤ g) : Code W g A m := by
  refine ⟨by omega, fun h0 => ?_⟩
  obtain ⟨b, off, e, hb, hc⟩ := h.2.2 (by omega)
  exact ⟨b, off, e, hb, by omega, fun k hk => hc k (by omega)⟩
theorem Own.fresh {w0 w : World} {Γ : List Res} (O : Own w0 [] Γ w) (i : Nat) {r : Res} {b : Nat} (h : Γ[i]? = some r) (hb : r.blk = some b) : w0.heap.size ≤ b := by
  rcases O.range r (List.mem_of_getElem? h) b hb with h | h
  · cases h
  · exact h
theorem CodeIn.keep {w0 w : World} {Γ : List Res} {A : Option Addr} {n c : Nat} (h : CodeIn w0 A n c) (O : Own w0 [] Γ w) : CodeIn w A n c := by
  refine ⟨h.1, h.2.1, fun h0 => ?_⟩
  obtain ⟨b, off, e, hb, hc⟩ := h.2.2 h0
  refine ⟨b, off, e, Nat.lt_of_lt_of_le hb O.size, fun k hk => ?_⟩
  obtain ⟨x, hx, hx'⟩ := hc k hk
  exact ⟨x, hx, (O.old hb (by simp)).trans hx'⟩
theorem u8of {x : Int} (h0 : 0 ≤ x) (h1 : x < 256) : ((UInt8.ofNat x.toNat).toNat : Int) = x := by rw [UInt8.toNat_ofNat']; omega
theorem encU8_of {x : Int} (h0 : 0 ≤ x) (h1 : x < 256) : encU8 (UInt8.ofNat x.toNat) = [.int .u8 x] := by unfold encU8; rw [u8of h0 h1]
theorem row_snoc {α : Type} {enc : α → List Value} {es : List α} {e : α} {ys : List Value} {E sz n : Nat} {v : Value} (h : ys = enc e) : Res.row E sz v n (es.flatMap enc ++ ys) = Res.row E sz v n ((es ++ [e]).flatMap enc) := by
  rw [h, List.flatMap_append]; simp
theorem mul_bd {a b A B : Int} (h0 : 0 ≤ a) (h1 : a ≤ A) (h2 : 0 ≤ b) (h3 : b ≤ B) : 0 ≤ a * b ∧ a * b ≤ A * B :=
  ⟨Int.mul_nonneg h0 h2, Int.mul_le_mul h1 h3 h2 (Int.le_trans h0 h1)⟩

end Go.Proofs.Ytbhidkcljekobaa
