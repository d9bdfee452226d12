/- Slices of numbers and of updates that came in. No conditions. -/
import Derived.Test.YtilpbddeijolbaaDoorPick
import Derived.Test.YtilpbddeijolbaaDoorG2
import Derived.Deep.Slices
namespace Go.Proofs.YtilpbddeijolbaaDoor
set_option linter.unusedVariables false
set_option linter.unusedSimpArgs false
open Go.ChangeShapes Go.WideShapes Go.RowKit

theorem addr_plain' {W : World} {a : Addr} {v : Value} (h : W.cell? a = some v) : a = ⟨a.block, a.off, none⟩ := by
  obtain ⟨b, o, sp⟩ := a
  cases sp with
  | none => rfl
  | some q =>
    unfold World.cell? at h
    split at h <;> simp at h

theorem open_intsIn {H : Type} {enc : TypeId × Value → H} {W : World} {r : Reach} {b0 : Nat} {v : Value} {d : DataW H} {p : List MemPlace}
    (hv : Value.okWide Tryd.prog W r b0 22 v) (h : DataW.Trod enc Tryd.prog W 0 (fun _ => true) true 22 v d p) :
    ∃ a n c es, v = .slice a n c ∧ Arr W encInt 1 a es ∧ (n : Int) = es.length ∧ (n : Int) ≤ 9223372036854775807 := by
  obtain ⟨a, n, c, rfl⟩ := okWide_slice Tryd.underlying22 hv
  obtain ⟨fuel, hf⟩ := h
  rcases open_ints Tryd.underlying22 Tryd.underlying3 (by kernel_rfl) hf with ⟨hcs, _⟩ | ⟨x, l, c', zs, hcs, _, hl, hm, hz, hx, hcell, hwz⟩
  · simp [Value.cells] at hcs
    obtain ⟨rfl, rfl, rfl⟩ := hcs
    exact ⟨_, _, _, [], rfl, Arr.nil, rfl, by omega⟩
  · simp [Value.cells] at hcs
    obtain ⟨rfl, rfl, rfl⟩ := hcs
    have hz' : zs.length = c := by simpa using hz
    refine ⟨_, _, _, zs.take n, rfl, fun hpos => ?_, by rw [List.length_take]; omega, by unfold maxLen at hm; omega⟩
    rw [List.length_take] at hpos
    have h0 := hcell 0 (by omega)
    rw [Addr.add_zero'] at h0
    have e := addr_plain' h0
    have hlt := World.block_lt_of_cell? W x h0
    refine ⟨x.block, x.off, by rw [← e], hlt, fun k e' hk j v hj => ?_⟩
    rw [List.getElem?_take] at hk
    split at hk
    · rename_i hkn
      have hc := hcell k (by omega)
      rw [e, plain_add] at hc
      rw [List.getD_eq_getElem?_getD, hk] at hc
      match j, hj with
      | 0, hj =>
        simp [encInt] at hj
        subst hj
        simpa using hc
      | j + 1, hj => simp [encInt] at hj
    · cases hk

end Go.Proofs.YtilpbddeijolbaaDoor
