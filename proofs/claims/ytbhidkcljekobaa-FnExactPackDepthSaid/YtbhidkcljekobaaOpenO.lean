/- Slices of operations that came in. No conditions. -/
import Derived.Test.YtbhidkcljekobaaDelA
import Derived.Deep.Slices
namespace Go.Proofs.Ytbhidkcljekobaa
set_option linter.unusedVariables false
set_option linter.unusedSimpArgs false
open Go.ChangeShapes Go.WideShapes Go.RowKit

theorem addr_plain' {W : World} {a : Addr} {v : Value} (h : W.cell? a = some v) : a = ⟨a.block, a.off, none⟩ := by
  obtain ⟨b, o, sp⟩ := a
  cases sp with
  | none => rfl
  | some q =>
    unfold World.cell? at h
    split at h <;> simp at h
theorem op_cells {H : Type} {enc : TypeId × Value → H} {W : World} {base : Nat} {sp : Nat → Bool} {held : Bool} {n : Nat} {cs : List Value} {x : DataW H × List MemPlace} (h : DataW.trod enc Try.prog W base sp held n 52 cs = some x) : ∃ u : Int × Int × List UInt8, cs = encOp u ∧ (u.2.2.length : Int) ≤ 9223372036854775807 := by
  obtain ⟨xs, k, hk, hxy, hlen, hxl, hf⟩ := DataW.trod_struct Try.underlying52 h
  have c3 : Try.prog.cellsOf 52 = 3 := by kernel_rfl
  have ci : Try.prog.cellsOf 3 = 1 := by kernel_rfl
  have cs' : Try.prog.cellsOf 9 = 1 := by kernel_rfl
  rw [c3] at hlen
  have hxl : xs.length = 3 := hxl
  have g0 := hf 0 _ rfl
  have g1 := hf 1 _ rfl
  have g2 := hf 2 _ rfl
  match cs, hlen, xs, hxl with
  | [a, b, c], _, [y0, y1, y2], _ =>
    simp [ci, cs'] at g0 g1 g2
    obtain ⟨n0, e0, _⟩ := DataW.trod_int Try.underlying3 g0
    obtain ⟨n1, e1, _⟩ := DataW.trod_int Try.underlying3 g1
    obtain ⟨s2, e2, _, hs⟩ := DataW.trod_string Try.underlying9 g2
    injection e0 with e0
    injection e1 with e1
    injection e2 with e2
    subst e0; subst e1; subst e2
    refine ⟨(n0, n1, s2.data.toList), by rw [bs_of s2]; rfl, ?_⟩
    rw [bs_of s2, bs_size] at hs
    unfold maxLen at hs
    show (s2.data.toList.length : Int) ≤ _
    omega

theorem open_opsIn {H : Type} {enc : TypeId × Value → H} {W : World} {r : Reach} {b0 : Nat} {v : Value} {d : DataW H} {p : List MemPlace}
    (hv : Value.okWide Try.prog W r b0 27 v) (h : DataW.Trod enc Try.prog W 0 (fun _ => true) true 27 v d p) :
    ∃ a n c es, v = .slice a n c ∧ Arr W encOp 3 a es ∧ (n : Int) = es.length ∧ (n : Int) ≤ 9223372036854775807 ∧ ∀ o ∈ es, (o.2.2.length : Int) ≤ 9223372036854775807 := by
  obtain ⟨a, n, c, rfl⟩ := okWide_slice Try.underlying27 hv
  obtain ⟨fuel, hf⟩ := h
  rcases Go.Deep.open_slice Try.underlying27 hf with ⟨hcs, _⟩ | ⟨x, l, c', m, nf, D, Pl, hcs, _, hl, hm, hmm, _, hx⟩
  · simp [Value.cells] at hcs
    obtain ⟨rfl, rfl, rfl⟩ := hcs
    exact ⟨_, _, _, [], rfl, Arr.nil, rfl, by omega, by simp⟩
  · simp [Value.cells] at hcs
    obtain ⟨rfl, rfl, rfl⟩ := hcs
    have hmc : m = c := by simpa using hmm
    subst hmc
    have c3 : Try.prog.cellsOf 52 = 3 := by kernel_rfl
    rw [c3] at hx
    obtain ⟨u, hu⟩ := Go.Deep.choose_lt (α := Int × Int × List UInt8) (p := fun i u => W.cells? 0 (x.add (i * 3)) 3 = some (encOp u) ∧ (u.2.2.length : Int) ≤ 9223372036854775807) (fun i hi => by
      obtain ⟨cs', h1, h2⟩ := hx i hi
      obtain ⟨u, rfl, hu⟩ := op_cells h2
      exact ⟨u, h1, hu⟩)
    refine ⟨_, _, _, (List.range n).map u, rfl, fun hpos => ?_, by simp, by unfold maxLen at hm; omega, fun o ho => ?_⟩
    · rw [List.length_map, List.length_range] at hpos
      obtain ⟨_, _, hc0⟩ := World.cells?_some (hu 0 (by omega)).1
      have h0 := hc0 0 (by simp [encOp])
      simp [Addr.add_zero', encOp] at h0
      have e := addr_plain' h0
      have hlt := World.block_lt_of_cell? W x h0
      refine ⟨x.block, x.off, by rw [← e], hlt, fun k e' hk j v hj => ?_⟩
      rw [List.getElem?_map] at hk
      have hkn : k < n := by
        by_cases hkn : k < n
        · exact hkn
        · rw [List.getElem?_eq_none (by simpa using hkn)] at hk; simp at hk
      rw [List.getElem?_range hkn] at hk
      simp at hk
      subst hk
      obtain ⟨_, _, hc⟩ := World.cells?_some (hu k (by omega)).1
      have hj3 : j < (encOp (u k)).length := (List.getElem?_eq_some_iff.1 hj).1
      have h2 := hc j hj3
      rw [Go.Deep.add_add, e, plain_add, hj] at h2
      rw [Nat.add_assoc]
      exact h2
    · obtain ⟨i, hi, rfl⟩ := List.mem_map.1 ho
      rw [List.mem_range] at hi
      exact (hu i (by omega)).2

end Go.Proofs.Ytbhidkcljekobaa
