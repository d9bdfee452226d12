/- The code of a law: a slice of bytes that came in, and the reader that is opened over it. -/
import Derived.Test.YtklgkfknifkbaaaRd
namespace Go.Proofs.Ytklgkfknifkbaaa
set_option linter.unusedVariables false
set_option linter.unusedSimpArgs false
open Go.ChangeShapes Go.WideShapes Go.RowKit

/-- A slice of bytes that came in. -/
def CodeAt (W : World) (a : Option Addr) (n c : Nat) : Prop :=
  n ≤ c ∧ c ≤ maxLen ∧ (0 < n → ∃ b off, a = some ⟨b, off, none⟩ ∧ b < W.heap.size ∧ ∀ k, k < n → ∃ x : Nat, x < 256 ∧ W.cell? ⟨b, off + k, none⟩ = some (.int .u8 x))

theorem addr_plain {W : World} {a : Addr} {v : Value} (h : W.cell? a = some v) : a = ⟨a.block, a.off, none⟩ := by
  obtain ⟨b, o, sp⟩ := a
  cases sp with
  | none => rfl
  | some q =>
    unfold World.cell? at h
    split at h <;> simp at h
theorem add_plain (b o k : Nat) : (⟨b, o, none⟩ : Addr).add k = ⟨b, o + k, none⟩ := by
  unfold Addr.add
  split
  · subst_vars; rfl
  · rfl

theorem open_code {H : Type} {enc : TypeId × Value → H} {W : World} {r : Reach} {b0 : Nat} {v : Value} {d : DataW H} {p : List MemPlace}
    (hv : Value.okWide Try.prog W r b0 34 v) (h : DataW.Trod enc Try.prog W 0 (fun _ => true) true 34 v d p) :
    ∃ a n c, v = .slice a n c ∧ CodeAt W a n c := by
  obtain ⟨a, n, c, rfl⟩ := okWide_slice Try.underlying34 hv
  refine ⟨a, n, c, rfl, ?_⟩
  obtain ⟨fuel, hf⟩ := h
  rcases open_ints Try.underlying34 Try.underlying5 (by kernel_rfl) hf with ⟨hcs, _⟩ | ⟨x, l, c', zs, hcs, _, hl, hm, hz, hx, hcell, hwz⟩
  · simp [Value.cells] at hcs
    obtain ⟨rfl, rfl, rfl⟩ := hcs
    exact ⟨Nat.le_refl _, by unfold maxLen; omega, fun h => absurd h (by omega)⟩
  · simp [Value.cells] at hcs
    obtain ⟨rfl, rfl, rfl⟩ := hcs
    refine ⟨hl, hm, fun hn => ?_⟩
    have hz' : zs.length = c := by simpa using hz
    have h0 := hcell 0 (by omega)
    rw [Addr.add_zero'] at h0
    have e := addr_plain h0
    have hlt := World.block_lt_of_cell? W x h0
    refine ⟨x.block, x.off, by rw [← e], hlt, fun k hk => ?_⟩
    have hc := hcell k (by omega)
    rw [e, add_plain] at hc
    have hw := hwz (zs.getD k 0) (by
      rw [List.getD_eq_getElem?_getD, List.getElem?_eq_getElem (by omega)]
      simp)
    have hb : 0 ≤ zs.getD k 0 ∧ zs.getD k 0 ≤ 255 := bounds_u8 hw
    exact ⟨(zs.getD k 0).toNat, by omega, by rw [hc]; congr 2; omega⟩

theorem CodeAt.below {W W' : World} {a : Option Addr} {n c : Nat} (h : CodeAt W a n c) (hb : Below W.heap.size W W') : CodeAt W' a n c := by
  obtain ⟨h1, h2, h3⟩ := h
  refine ⟨h1, h2, fun hn => ?_⟩
  obtain ⟨b, off, e, hlt, hc⟩ := h3 hn
  refine ⟨b, off, e, Nat.lt_of_lt_of_le hlt hb.size, fun k hk => ?_⟩
  obtain ⟨x, hx, hx'⟩ := hc k hk
  exact ⟨x, hx, (hb.cell (p := ⟨b, off + k, none⟩) hlt).trans hx'⟩

theorem Rd.new {w : World} {a : Option Addr} {n m c : Nat} (h : CodeAt w a n c) (hm : m ≤ 2000) (hmn : m ≤ n) (t : TypeId) : Rd (w.alloc (.cells #[.slice a m c, .int .i64 0] t)) w.heap.size 0 := by
  refine ⟨a, m, c, new_cell w _ t 0 _ rfl, new_cell w _ t 1 _ rfl, by go_simp, hm, fun hn => ?_⟩
  obtain ⟨b, off, rfl, hlt, hc⟩ := h.2.2 (by omega)
  refine ⟨b, off, rfl, hlt, fun k hk => ?_⟩
  obtain ⟨x, hx, hx'⟩ := hc k (by omega)
  exact ⟨x, hx, keep_alloc _ hx'⟩

set_option maxHeartbeats 400000 in
theorem l6Open_any (a : Option Addr) (n c : Nat) (w : World) (h : CodeAt w a n c) :
    Calls Try.prog 56 #[.slice a n c] w fun e w' => e = .returned (.pointer (some ⟨w.heap.size, 0, none⟩)) ∧ Below w.heap.size w w' ∧ Rd w' w.heap.size 0 := by
  have hC := h
  obtain ⟨h1, h2, h3⟩ := h
  unfold maxLen at h2
  clear h3
  by_cases hn : n ≤ 2000
  · go_enter Try.func56, Try.ntmps56
    go_wp2
    go_ret
    exact ⟨rfl, alloc_below (Below.refl _ _) _, Rd.new hC hn (Nat.le_refl _) _⟩
  · go_enter Try.func56, Try.ntmps56
    go_wp2
    go_ret
    exact ⟨rfl, alloc_below (Below.refl _ _) _, Rd.new hC (by omega) (by omega) _⟩

end Go.Proofs.Ytklgkfknifkbaaa
