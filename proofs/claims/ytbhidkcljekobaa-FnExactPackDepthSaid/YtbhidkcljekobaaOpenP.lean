/- Slices of entries of packs that came in: each entry holds a slice of numbers and a slice of operations. No conditions. -/
import Derived.Test.YtbhidkcljekobaaOpenO
import Derived.Test.YtbhidkcljekobaaPk
namespace Go.Proofs.Ytbhidkcljekobaa
set_option linter.unusedVariables false
set_option linter.unusedSimpArgs false
open Go.ChangeShapes Go.WideShapes Go.RowKit

section
variable {H : Type} {enc : TypeId × Value → H} {W : World}
/-- a slice, if its elements can be read -/
theorem slice_cells {α : Type} {encE : α → List Value} {sz : Nat} {Q : α → Prop} {t e : TypeId} (d0 : α) (ht : Try.prog.underlying t = some (.slice e)) (hsz : Try.prog.cellsOf e = sz) (hpos : 0 < sz) (hlen : ∀ u, (encE u).length = sz)
    (hel : ∀ (m : Nat) (cs : List Value) (x : DataW H × List MemPlace), DataW.trod enc Try.prog W 0 (fun _ => true) true m e cs = some x → ∃ u, cs = encE u ∧ Q u)
    {fuel : Nat} {cs : List Value} {x : DataW H × List MemPlace} (h : DataW.trod enc Try.prog W 0 (fun _ => true) true fuel t cs = some x) :
    ∃ a n c es, cs = [.slice a n c] ∧ Arr W encE sz a es ∧ (n : Int) = es.length ∧ (n : Int) ≤ 9223372036854775807 ∧ ∀ o ∈ es, Q o := by
  rcases Go.Deep.open_slice ht h with ⟨rfl, _⟩ | ⟨y, l, c', m, nf, D, Pl, rfl, _, hl, hm, hmm, _, hx⟩
  · exact ⟨_, _, _, [], rfl, Arr.nil, rfl, by omega, by simp⟩
  · have hmc : m = c' := by simpa using hmm
    subst hmc
    rw [hsz] at hx
    haveI : Inhabited α := ⟨d0⟩
    obtain ⟨u, hu⟩ := Go.Deep.choose_lt (α := α) (p := fun i u => W.cells? 0 (y.add (i * sz)) sz = some (encE u) ∧ Q u) (fun i (hi : i < m) => by
      obtain ⟨cs', h1, h2⟩ := hx i hi
      obtain ⟨u, rfl, hu⟩ := hel _ _ _ h2
      exact ⟨u, h1, hu⟩)
    refine ⟨_, _, _, (List.range l).map u, rfl, fun hp => ?_, by simp, by unfold maxLen at hm; omega, fun o ho => ?_⟩
    · rw [List.length_map, List.length_range] at hp
      obtain ⟨_, _, hc0⟩ := World.cells?_some (hu 0 (by omega)).1
      have hp0 : 0 < (encE (u 0)).length := by rw [hlen]; exact hpos
      have h0 := hc0 0 hpos
      rw [Addr.add_zero', Nat.zero_mul, Addr.add_zero', List.getElem?_eq_getElem hp0] at h0
      have e := addr_plain' h0
      have hlt := World.block_lt_of_cell? W y h0
      refine ⟨y.block, y.off, by rw [← e], hlt, fun k e' hk j v hj => ?_⟩
      rw [List.getElem?_map] at hk
      have hkn : k < l := by
        by_cases hkn : k < l
        · exact hkn
        · rw [List.getElem?_eq_none (by simpa using hkn)] at hk; simp at hk
      rw [List.getElem?_range hkn] at hk
      simp at hk
      subst hk
      obtain ⟨_, _, hc⟩ := World.cells?_some (hu k (by omega)).1
      have hj3 : j < sz := by rw [← hlen (u k)]; exact (List.getElem?_eq_some_iff.1 hj).1
      have h2 := hc j hj3
      rw [Go.Deep.add_add, e, plain_add, hj] at h2
      rw [Nat.add_assoc]
      exact h2
    · obtain ⟨i, hi, rfl⟩ := List.mem_map.1 ho
      rw [List.mem_range] at hi
      exact (hu i (by omega)).2

theorem int_cells {m : Nat} {cs : List Value} {x : DataW H × List MemPlace} (h : DataW.trod enc Try.prog W 0 (fun _ => true) true m 3 cs = some x) : ∃ u : Int, cs = encInt u ∧ True := by
  obtain ⟨n0, e0, _⟩ := DataW.trod_int Try.underlying3 h
  exact ⟨n0, e0, trivial⟩

theorem pack_cells {m : Nat} {cs : List Value} {x : DataW H × List MemPlace} (h : DataW.trod enc Try.prog W 0 (fun _ => true) true m 58 cs = some x) :
    ∃ u : Ent × PE, cs = encEnt u.1 ∧ (EntRel u.1 u.2 ∧ Arr W encInt 1 u.1.2.1.1 u.2.2.1 ∧ Arr W encOp 3 u.1.2.2.2.1 u.2.2.2.2) ∧ (u.2.2.1.length : Int) ≤ 9223372036854775807 ∧ (u.2.2.2.2.length : Int) ≤ 9223372036854775807 ∧ ∀ o ∈ u.2.2.2.2, (o.2.2.length : Int) ≤ 9223372036854775807 := by
  obtain ⟨xs, k, hk, hxy, hlen, hxl, hf⟩ := DataW.trod_struct Try.underlying58 h
  have c4 : Try.prog.cellsOf 58 = 4 := by kernel_rfl
  have ci : Try.prog.cellsOf 3 = 1 := by kernel_rfl
  have cl : Try.prog.cellsOf 56 = 1 := by kernel_rfl
  have co : Try.prog.cellsOf 27 = 1 := by kernel_rfl
  rw [c4] at hlen
  have hxl : xs.length = 4 := hxl
  have g0 := hf 0 _ rfl
  have g1 := hf 1 _ rfl
  have g2 := hf 2 _ rfl
  have g3 := hf 3 _ rfl
  match cs, hlen, xs, hxl with
  | [a, b, c, d], _, [y0, y1, y2, y3], _ =>
    simp [ci, cl, co] at g0 g1 g2 g3
    obtain ⟨n0, e0, _⟩ := DataW.trod_int Try.underlying3 g0
    obtain ⟨n2, e2, _⟩ := DataW.trod_int Try.underlying3 g2
    obtain ⟨a1, m1, c1, l1, e1, h1, hn1, hb1, _⟩ := slice_cells (encE := encInt) (sz := 1) (Q := fun _ => True) 0 Try.underlying56 ci (by decide) encInt_len (fun m cs x h => int_cells h) g1
    obtain ⟨a3, m3, c3, l3, e3, h3, hn3, hb3, hq3⟩ := slice_cells (encE := encOp) (sz := 3) (Q := fun o : Int × Int × List UInt8 => (o.2.2.length : Int) ≤ 9223372036854775807) (0, 0, []) Try.underlying27 (by kernel_rfl) (by decide) encOp_len (fun m cs x h => op_cells h) g3
    injection e0 with e0
    injection e1 with e1
    injection e2 with e2
    injection e3 with e3
    subst e0; subst e1; subst e2; subst e3
    exact ⟨((n0, (a1, m1, c1), n2, (a3, m3, c3)), (n0, l1, n2, l3)), rfl, ⟨⟨⟨rfl, rfl⟩, hn1, hn3⟩, h1, h3⟩, by show (l1.length : Int) ≤ _; omega, by show (l3.length : Int) ≤ _; omega, hq3⟩

theorem open_packIn {r : Reach} {b0 : Nat} {v : Value} {d : DataW H} {p : List MemPlace}
    (hv : Value.okWide Try.prog W r b0 32 v) (h : DataW.Trod enc Try.prog W 0 (fun _ => true) true 32 v d p) :
    ∃ a n c es L, v = .slice a n c ∧ Arr W encEnt 4 a es ∧ (n : Int) = es.length ∧ (n : Int) ≤ 9223372036854775807 ∧ Ents W es L ∧ BndL L := by
  obtain ⟨a, n, c, rfl⟩ := okWide_slice Try.underlying32 hv
  obtain ⟨fuel, hf⟩ := h
  obtain ⟨a', n', c', us, e, hA, hn, hb, hq⟩ := slice_cells (encE := fun u : Ent × PE => encEnt u.1) (sz := 4) (Q := fun u : Ent × PE => (EntRel u.1 u.2 ∧ Arr W encInt 1 u.1.2.1.1 u.2.2.1 ∧ Arr W encOp 3 u.1.2.2.2.1 u.2.2.2.2) ∧ (u.2.2.1.length : Int) ≤ 9223372036854775807 ∧ (u.2.2.2.2.length : Int) ≤ 9223372036854775807 ∧ ∀ o ∈ u.2.2.2.2, (o.2.2.length : Int) ≤ 9223372036854775807)
    ((0, (none, 0, 0), 0, (none, 0, 0)), (0, [], 0, [])) Try.underlying32 (by kernel_rfl) (by decide) (fun u => encEnt_len u.1) (fun m cs x h => pack_cells h) hf
  simp [Value.cells] at e
  obtain ⟨rfl, rfl, rfl⟩ := e
  refine ⟨_, _, _, us.map (·.1), us.map (·.2), rfl, fun hp => ?_, by simpa using hn, hb, ⟨by simp, fun i e p he hp => ?_⟩, fun p hp => ?_⟩
  · obtain ⟨b, o, h1, h2, h3⟩ := hA (by simpa using hp)
    refine ⟨b, o, h1, h2, fun k e hk j v hj => ?_⟩
    rw [List.getElem?_map] at hk
    cases hu : us[k]? with
    | none => rw [hu] at hk; simp at hk
    | some u =>
      rw [hu] at hk
      simp at hk
      subst hk
      exact h3 k u hu j v hj
  · rw [List.getElem?_map] at he hp
    cases hu : us[i]? with
    | none => rw [hu] at he; simp at he
    | some u =>
      rw [hu] at he hp
      simp at he hp
      subst he; subst hp
      exact (hq u (List.mem_of_getElem? hu)).1
  · obtain ⟨u, hu, rfl⟩ := List.mem_map.1 hp
    exact (hq u hu).2
end

end Go.Proofs.Ytbhidkcljekobaa
