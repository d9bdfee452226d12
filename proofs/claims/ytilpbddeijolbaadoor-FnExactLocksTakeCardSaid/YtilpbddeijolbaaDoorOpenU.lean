/- Slices of updates that came in. No conditions. -/
import Derived.Test.YtilpbddeijolbaaDoorOpenS
import Derived.Test.YtilpbddeijolbaaDoorG2
import Derived.Deep.Slices
namespace Go.Proofs.YtilpbddeijolbaaDoor
set_option linter.unusedVariables false
set_option linter.unusedSimpArgs false
open Go.ChangeShapes Go.WideShapes Go.RowKit

theorem up_cells {H : Type} {enc : TypeId × Value → H} {W : World} {base : Nat} {sp : Nat → Bool} {held : Bool} {n : Nat} {cs : List Value} {x : DataW H × List MemPlace} (h : DataW.trod enc Tryd.prog W base sp held n 45 cs = some x) : ∃ u : Int × Int × Int, cs = encUp u := by
  obtain ⟨xs, k, hk, hxy, hlen, hxl, hf⟩ := DataW.trod_struct Tryd.underlying45 h
  have c3 : Tryd.prog.cellsOf 45 = 3 := by kernel_rfl
  have ci : Tryd.prog.cellsOf 3 = 1 := by kernel_rfl
  rw [c3] at hlen
  have hxl : xs.length = 3 := hxl
  have g0 := hf 0 _ rfl
  have g1 := hf 1 _ rfl
  have g2 := hf 2 _ rfl
  match cs, hlen, xs, hxl with
  | [a, b, c], _, [y0, y1, y2], _ =>
    simp [ci] at g0 g1 g2
    obtain ⟨n0, e0, _⟩ := DataW.trod_int Tryd.underlying3 g0
    obtain ⟨n1, e1, _⟩ := DataW.trod_int Tryd.underlying3 g1
    obtain ⟨n2, e2, _⟩ := DataW.trod_int Tryd.underlying3 g2
    injection e0 with e0
    injection e1 with e1
    injection e2 with e2
    subst e0; subst e1; subst e2
    exact ⟨(n0, n1, n2), rfl⟩

theorem open_upsIn {H : Type} {enc : TypeId × Value → H} {W : World} {r : Reach} {b0 : Nat} {v : Value} {d : DataW H} {p : List MemPlace}
    (hv : Value.okWide Tryd.prog W r b0 23 v) (h : DataW.Trod enc Tryd.prog W 0 (fun _ => true) true 23 v d p) :
    ∃ a n c es, v = .slice a n c ∧ Arr W encUp 3 a es ∧ (n : Int) = es.length ∧ (n : Int) ≤ 9223372036854775807 := by
  obtain ⟨a, n, c, rfl⟩ := okWide_slice Tryd.underlying23 hv
  obtain ⟨fuel, hf⟩ := h
  rcases Go.Deep.open_slice Tryd.underlying23 hf with ⟨hcs, _⟩ | ⟨x, l, c', m, nf, D, Pl, hcs, _, hl, hm, hmm, _, hx⟩
  · simp [Value.cells] at hcs
    obtain ⟨rfl, rfl, rfl⟩ := hcs
    exact ⟨_, _, _, [], rfl, Arr.nil, rfl, by omega⟩
  · simp [Value.cells] at hcs
    obtain ⟨rfl, rfl, rfl⟩ := hcs
    have hmc : m = c := by simpa using hmm
    subst hmc
    have c3 : Tryd.prog.cellsOf 45 = 3 := by kernel_rfl
    rw [c3] at hx
    obtain ⟨u, hu⟩ := Go.Deep.choose_lt (α := Int × Int × Int) (p := fun i u => W.cells? 0 (x.add (i * 3)) 3 = some (encUp u)) (fun i hi => by
      obtain ⟨cs', h1, h2⟩ := hx i hi
      obtain ⟨u, rfl⟩ := up_cells h2
      exact ⟨u, h1⟩)
    refine ⟨_, _, _, (List.range n).map u, rfl, fun hpos => ?_, by simp, by unfold maxLen at hm; omega⟩
    rw [List.length_map, List.length_range] at hpos
    obtain ⟨_, _, hc0⟩ := World.cells?_some (hu 0 (by omega))
    have h0 := hc0 0 (by simp [encUp])
    simp [Addr.add_zero', encUp] at h0
    have e := addr_plain' h0
    have hlt := World.block_lt_of_cell? W x h0
    refine ⟨x.block, x.off, by rw [← e], hlt, fun k e' hk j v hj => ?_⟩
    rw [List.getElem?_map] at hk
    have hkn : k < n := by
      by_cases hkn : k < n
      · exact hkn
      · rw [List.getElem?_eq_none (by simpa using hkn)] at hk; simp at hk
    rw [List.getElem?_range hkn] at hk
    simp at hk
    subst hk
    obtain ⟨_, _, hc⟩ := World.cells?_some (hu k (by omega))
    have hj3 : j < (encUp (u k)).length := (List.getElem?_eq_some_iff.1 hj).1
    have h2 := hc j hj3
    rw [Go.Deep.add_add, e, plain_add, hj] at h2
    rw [Nat.add_assoc]
    exact h2

end Go.Proofs.YtilpbddeijolbaaDoor
