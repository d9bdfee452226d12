/- The frame of this seat's laws: the program's one listed variable is laid by its text: an error of errors.New's make. No conditions. -/
import Derived.Test.YtilpbddeijolbaaDoorBase
import Derived.Test.YtilpbddeijolbaaDoorG
import Derived.Test.YtilpbddeijolbaaDoorRows
import Derived.Stop.LaidErr
import Derived.Stop.ErrReads
namespace Go.Proofs.YtilpbddeijolbaaDoor
set_option linter.unusedVariables false
set_option linter.unusedSimpArgs false
open Go.ChangeShapes Go.WideShapes Go.ChangeAt Go.RowKit

abbrev errVar : String := "loop.example/atomicpush/impl.errLocked"
theorem Tryd.gE : Tryd.prog.globalNamed errVar = some 0 := by kernel_rfl
theorem Tryd.gEType : (Tryd.prog.globals[0]?).map (·.type) = some 48 := by kernel_rfl
theorem Tryd.cellsEs : Tryd.prog.cellsOf 104 = 1 := by kernel_rfl
theorem Tryd.cellsStr : Tryd.prog.cellsOf 9 = 1 := by kernel_rfl
theorem Tryd.star : "*" ++ "errors.errorString" = "*errors.errorString" := by decide
theorem Tryd.rowEs (u : TypeId) (h : Tryd.prog.typeName? 3 u = some "*errors.errorString") : u = 78 :=
  typeName_ptr_named (nm := "errors.errorString") (by rw [Tryd.star]; kernel_rfl) (by kernel_rfl) (by decide) u (by rw [Tryd.star]; exact h)

abbrev lockedS : ByteArray := { data := #[108, 111, 99, 107, 101, 100] }
noncomputable def low : Nat := (World.holding Tryd.prog default ⟨#[], #[], []⟩).heap.size
noncomputable def laidWorld (os : Os) : World :=
  let w0 := World.holding Tryd.prog os ⟨#[.cells #[.string lockedS] 104], #[], []⟩
  { w0 with heap := w0.heap.modify 0 fun
      | .cells _ t frozen => .cells #[.iface 78 (.pointer (some ⟨low, 0, none⟩))] t frozen
      | o => o }
abbrev laidList : List (String × DataW Unit) := [(errVar, Rows.laid_loop_example_atomicpush_impl_errLocked)]
theorem laidWorld_met (os : Os) (args : Array Value) : laidMet Tryd.prog laidList ((laidWorld os).forCall (fun _ _ => 0) ⟨#[], args, []⟩).memory :=
  laidMet_of_run (ps := [.cell 0 0, .cell low 0]) 8 (by kernel_rfl) (by kernel_rfl) (by kernel_rfl)

theorem var_below {W W' : World} {cs : Array Value} (h : W.var? Tryd.prog errVar = some cs) (hb : Below W.heap.size W W') : W'.var? Tryd.prog errVar = some cs := by
  unfold World.var? at h ⊢
  rw [Tryd.gE] at h ⊢
  simp only [Option.bind_some] at h ⊢
  have hlt : 0 < W.heap.size := by
    rcases Nat.lt_or_ge 0 W.heap.size with h' | h'
    · exact h'
    · rw [Array.getElem?_eq_none h'] at h; cases h
  rw [hb.block 0 hlt]
  exact h

/-- The frame of a law that meets the laid variable: it is enough that each call returns true and writes nothing old. -/
theorem lifted_laid {os : Os} (started : os.Started) {f : FuncId} {fn : Func} (noInit : Tryd.prog.inits.idxOf? f = none) (hfn : Tryd.prog.funcs[f]? = some fn)
    {s : ChangeSpec} {H : Type} {enc : TypeId × Value → H} (hvars : s.vars = [errVar])
    (hsp : ∀ (ds : List (DataW H)) (g : DataW H), ds.length = fn.params.size → s.fn H (ds ++ [g]) = { results := [.lit (.bool true)], args := ds, vars := [g] })
    (hrt : fn.resultTypes = #[4])
    (hr : fn.params.toList.all (fun t => Tryd.prog.readableRec t && decide (t < Tryd.prog.types.size)) = true)
    (witness : ∃ (w : World) (tape : Tape) (i : Input), w.os = os ∧ (w.forCall tape i).Shaped Tryd.prog ∧ i.vars = [] ∧ Input.okWide Tryd.prog (w.forCall tape i) .any w.heap.size f i ∧
      ((s.pre enc Tryd.prog fn [] false (w.forCall tape i).memory i.args ∧ laidMet Tryd.prog laidList (w.forCall tape i).memory) ∧ sizedMet enc Tryd.prog fn (OpenSpec.ofChange s) false (w.forCall tape i).memory i.args) ∧ ({} : Assume).holds Tryd.prog (lone (Frame.enter Tryd.prog f i.args .normal) [] (w.forCall tape i)))
    (walk : ∀ (W : World) (base : Nat) (args : Array Value) (ds : List (DataW H)) (p : List MemPlace) (a0 : Addr),
      (∀ (j : Nat) t v, fn.params[j]? = some t → args[j]? = some v → Value.okWide Tryd.prog W .any base t v) →
      DataW.TrodAll enc Tryd.prog W 0 (fun _ => true) true fn.params.toList args.toList ds p →
      W.cell? ⟨0, 0, none⟩ = some (.iface 78 (.pointer (some a0))) → 0 < W.heap.size →
      Calls Tryd.prog f args W fun e W' => e = .returned (.bool true) ∧ Below W.heap.size W W') :
    ReturnsInHanded {} Tryd.checked os f .any (fun w args => (s.pre enc Tryd.prog fn [] false w args ∧ laidMet Tryd.prog laidList w) ∧ sizedMet enc Tryd.prog fn (OpenSpec.ofChange s) false w args)
      (s.post enc Tryd.prog fn false true false false) := by
  refine returnsInHanded_of_change_and (C := Tryd.checked) (X := fun w _ => laidMet Tryd.prog laidList w) (fun _ _ _ hh h => h.of_heap hh) Tryd.facts.own started noInit hfn witness ?_
  intro W base args ds gs before hval hW _ _ hL _
  have hW' := hW
  obtain ⟨p, q, hA, hV, rfl, hfz, hnd⟩ := hW
  rw [hvars] at hV
  obtain ⟨a0, s0, hv0, hc0, hs0, hz0⟩ := laid_sentinel hL Tryd.gE Tryd.gEType Tryd.underlying48 Tryd.rowEs Tryd.underlying78 Tryd.underlying104 rfl rfl Tryd.underlying9 Tryd.cellsEs Tryd.cellsStr
  obtain ⟨rfl, rfl⟩ := hV.unique (vars_read1 enc Tryd.gE Tryd.gEType Tryd.underlying48 hv0 trivial _)
  have hg0 : W.cell? ⟨0, 0, none⟩ = some (.iface 78 (.pointer (some a0))) := by simpa using World.var?_cell Tryd.gE hv0 0
  have h00 : 0 < W.heap.size := World.block_lt_of_cell? _ _ hg0
  refine (walk W base args ds p a0 hval hA hg0 h00).mono fun e W' ⟨he, bel⟩ => ?_
  subst he
  have hlen : ds.length = fn.params.size := by
    have := trodAll_length hA
    simpa using this
  have hfn' := hsp ds (tok enc (.iface 78 (.pointer (some a0)))) hlen
  refine ⟨.bool true, rfl, ds, _, _, [], p, [.cell 0 0], hW', ?_, ?_, ?_, bel.frame _, fun h => by cases h⟩
  · rw [hrt, hfn']
    exact trodAll_mk1 (shut_bool Tryd.underlying4 _)
  · rw [hfn']
    exact trodAll_below Tryd.facts.laid bel _ _ _ _ hr hA
  · rw [hvars, hfn']
    exact vars_read1 enc Tryd.gE Tryd.gEType Tryd.underlying48 (var_below hv0 bel) trivial _

end Go.Proofs.YtilpbddeijolbaaDoor
