/- The frame of this seat's laws that meet the library's variable: it holds some number. No conditions. -/
import Derived.Test.YtbhidkcljekobaaBase
import Derived.Test.YtbhidkcljekobaaG
import Derived.Test.YtbhidkcljekobaaRows
import Derived.Shelf.Vars
import Derived.HandedShaped
namespace Go.Proofs.Ytbhidkcljekobaa
set_option linter.unusedVariables false
set_option linter.unusedSimpArgs false
open Go.ChangeShapes Go.WideShapes Go.ChangeAt Go.RowKit Go.Proofs

/-- The frame of a law: it is enough that each call returns true and writes nothing old. -/
theorem lifted_shaped {os : Os} (started : os.Started) {f : FuncId} {fn : Func} (noInit : Try.prog.inits.idxOf? f = none) (hfn : Try.prog.funcs[f]? = some fn)
    {s : ChangeSpec} {H : Type} {enc : TypeId × Value → H} (hvars : s.vars = [])
    (hsp : ∀ (ds : List (DataW H)), ds.length = fn.params.size → s.fn H (ds ++ []) = { results := [.lit (.bool true)], args := ds })
    (hrt : fn.resultTypes = #[4])
    (hr : fn.params.toList.all (fun t => Try.prog.readableRec t && decide (t < Try.prog.types.size)) = true)
    (witness : ∃ (w : World) (tape : Tape) (i : Input), w.os = os ∧ (w.forCall tape i).Shaped Try.prog ∧ i.vars = [] ∧ Input.okWide Try.prog (w.forCall tape i) .any w.heap.size f i ∧
      s.pre6 enc Try.prog fn [] false (w.forCall tape i).memory i.args ∧ ({} : Assume).holds Try.prog (lone (Frame.enter Try.prog f i.args .normal) [] (w.forCall tape i)))
    (walk : ∀ (W : World) (base : Nat) (args : Array Value) (ds : List (DataW H)) (p : List MemPlace) (m0 : Int),
      (∀ (j : Nat) t v, fn.params[j]? = some t → args[j]? = some v → Value.okWide Try.prog W .any base t v) →
      DataW.TrodAll enc Try.prog W 0 (fun _ => true) true fn.params.toList args.toList ds p →
      W.cell? ⟨0, 0, none⟩ = some (.int .i64 m0) → 0 < W.heap.size →
      Calls Try.prog f args W fun e W' => e = .returned (.bool true) ∧ Below W.heap.size W W') :
    ReturnsInHanded {} Try.checked os f .any (s.pre6 enc Try.prog fn [] false) (s.post enc Try.prog fn false true false false) := by
  refine returnsInHanded_of_change_shaped (C := Try.checked) Try.facts.own started noInit hfn witness ?_
  intro W base args ds gs before hval hW _ _ hsh _
  obtain ⟨m0, hm⟩ := cell_of_shapedOpen_int (P := Try.prog) hsh (g := 0) (t := 3) (zero := #[.int .i64 0]) (k := .i64) (of_decide_eq_true (by kernel_rfl)) (by kernel_rfl) rfl (by kernel_rfl) (by kernel_rfl) Try.underlying3
  have h00 := World.block_lt_of_cell? _ _ hm
  have hW' := hW
  obtain ⟨p, q, hA, hV, rfl, hfz, hnd⟩ := hW
  rw [hvars] at hV
  obtain ⟨rfl, rfl⟩ := trodVars_none hV
  refine (walk W base args ds p m0 hval hA hm h00).mono fun e W' ⟨he, bel⟩ => ?_
  subst he
  have hlen : ds.length = fn.params.size := by
    have := trodAll_length hA
    simpa using this
  have hfn2 := hsp ds hlen
  refine ⟨.bool true, rfl, ds, [], p ++ [], [], p, [], hW', ?_, ?_, ?_, bel.frame _, fun h => by cases h⟩
  · rw [hrt, hfn2]
    exact trodAll_mk1 (shut_bool Try.underlying4 _)
  · rw [hfn2]
    exact trodAll_below Try.facts.laid bel _ _ _ _ hr hA
  · rw [hvars, hfn2]
    rfl

end Go.Proofs.Ytbhidkcljekobaa
