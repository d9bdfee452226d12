/- The code of a law: a slice of bytes that came in. No conditions. -/
import Derived.Test.YtbhidkcljekobaaPick
namespace Go.Proofs.Ytbhidkcljekobaa
set_option linter.unusedVariables false
set_option linter.unusedSimpArgs false
open Go.ChangeShapes Go.WideShapes Go.RowKit

theorem addr_plain {W : World} {a : Addr} {v : Value} (h : W.cell? a = some v) : a = ⟨a.block, a.off, none⟩ := by
  obtain ⟨b, o, sp⟩ := a
  cases sp with
  | none => rfl
  | some q =>
    unfold World.cell? at h
    split at h <;> simp at h

theorem open_codeIn {H : Type} {enc : TypeId × Value → H} {W : World} {r : Reach} {b0 : Nat} {v : Value} {d : DataW H} {p : List MemPlace}
    (hv : Value.okWide Try.prog W r b0 22 v) (h : DataW.Trod enc Try.prog W 0 (fun _ => true) true 22 v d p) :
    ∃ a n c, v = .slice a n c ∧ CodeIn W a n c := by
  obtain ⟨a, n, c, rfl⟩ := okWide_slice Try.underlying22 hv
  refine ⟨a, n, c, rfl, ?_⟩
  obtain ⟨fuel, hf⟩ := h
  rcases open_ints Try.underlying22 Try.underlying5 (by kernel_rfl) hf with ⟨hcs, _⟩ | ⟨x, l, c', zs, hcs, _, hl, hm, hz, hx, hcell, hwz⟩
  · simp [Value.cells] at hcs
    obtain ⟨rfl, rfl, rfl⟩ := hcs
    exact ⟨Nat.le_refl _, by unfold maxLen; omega, fun h => absurd h (by omega)⟩
  · simp [Value.cells] at hcs
    obtain ⟨rfl, rfl, rfl⟩ := hcs
    refine ⟨hl, hm, fun hn => ?_⟩
    have hz' : zs.length = c := by simpa using hz
    have h0 := hcell 0 (by omega)
    rw [Addr.add_zero'] at h0
    have e := addr_plain h0
    have hlt := World.block_lt_of_cell? W x h0
    refine ⟨x.block, x.off, by rw [← e], hlt, fun k hk => ?_⟩
    have hc := hcell k (by omega)
    rw [e, plain_add] at hc
    have hw := hwz (zs.getD k 0) (by
      rw [List.getD_eq_getElem?_getD, List.getElem?_eq_getElem (by omega)]
      simp)
    have hb : 0 ≤ zs.getD k 0 ∧ zs.getD k 0 ≤ 255 := bounds_u8 hw
    exact ⟨(zs.getD k 0).toNat, by omega, by rw [hc]; congr 2; omega⟩

end Go.Proofs.Ytbhidkcljekobaa
