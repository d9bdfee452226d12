/- The program's LogFrame returns what the reference's returns, for all texts: the law FnExactLogFrame returns true. No conditions. -/
import Derived.Test.YtklgkfknifkbaaaLogFrame
namespace Go.Proofs.Ytklgkfknifkbaaa
set_option linter.unusedVariables false
set_option linter.unusedSimpArgs false
open Go.ChangeShapes Go.WideShapes Go.ChangeAt Go.RowKit
open Go.ChangeMaps (open_string shut_string)

theorem exactLogFrame_any (s : ByteArray) (w : World) (hs : s.size ≤ maxLen) :
    Calls Try.prog 5 #[.string s] w fun e w' => e = .returned (.bool true) ∧ Below w.heap.size w w' := by
  have hs' := hs
  unfold maxLen at hs'
  by_cases h : s.size ≤ 1048576
  · go_enter Try.func5, Try.ntmps5
    go_wp2_with (first
      | (go_at_call 29; refine (specLogFrame_any s _ hs).mono ?_; rintro e w1 ⟨rfl, hb1⟩)
      | (go_at_call 30; refine (implLogFrame_any s _ hs).mono ?_; rintro e w2 ⟨rfl, hb2⟩))
    go_ret
    exact ⟨rfl, by repeat (first | exact Below.refl _ _ | apply alloc_below | refine step_below ?_ (by assumption))⟩
  · go_enter Try.func5, Try.ntmps5
    go_wp2_with fail
    go_ret
    exact ⟨rfl, Below.refl _ _⟩

set_option maxRecDepth 100000 in
theorem exactLogFrame_lifted (os : Os) (started : os.Started) (H : Type) (enc : TypeId × Value → H) :
    ReturnsInHanded {} Try.checked os 5 .any (Rows.fnExactLogFrameSpec.pre6 enc Try.prog Try.f5 Rows.fnExactLogFrameRow.domain false) (Rows.fnExactLogFrameSpec.post enc Try.prog Try.f5 false true false false) := by
  have e0 : Rows.fnExactLogFrameRow.domain = [] := rfl
  rw [e0]
  refine lifted_of (C := Try.checked) Try.facts started (by kernel_rfl) Try.func5 rfl ?_ (tb := 4) (by kernel_rfl) Try.underlying4 (by kernel_rfl)
    (ChangeSpec.witness6 (enc := enc) (C := Try.checked) false ⟨#[], #[.string ByteArray.empty], []⟩ 8 (by kernel_rfl) (by kernel_rfl) (by kernel_rfl) (by kernel_rfl)) ?_
  · intro ds hds
    match ds, hds with
    | [_], _ => rfl
  intro W base args ds p hval0 hA0
  have hval : ∀ (j : Nat) t v, Try.f5.params[j]? = some t → args[j]? = some v → Value.okWide Try.prog W .any base t v := hval0
  have hA : DataW.TrodAll enc Try.prog W 0 (fun _ => true) true Try.f5.params.toList args.toList ds p := hA0
  clear hA0 hval0
  show Calls Try.prog 5 args W _
  rw [Try.params5] at hA hval
  obtain ⟨v0, d0, hargs, rfl, h0⟩ := trodAll_one hA
  obtain rfl : args = #[v0] := by cases args; simp_all
  obtain ⟨s, rfl, _, _, hs⟩ := open_string Try.underlying9 (hval 0 9 v0 rfl rfl) h0
  exact exactLogFrame_any s W hs

theorem exactLogFrame_pkg : ¬ Check.packageOf Try.f5.name = "main" := by
  intro h
  have h2 := congrArg String.toList h
  simp only [Check.packageOf, Try.f5] at h2
  simp at h2

theorem exactLogFrame_closed : lawFacts Try.prog 5 Try.f5 Rows.fnExactLogFrameSpec Rows.fnExactLogFrameRow = true := by kernel_rfl
theorem exactLogFrame_facts : joinedFacts Try.pinned.checked.prog 5 Try.f5 Rows.fnExactLogFrameSpec Rows.fnExactLogFrameRow = true := facts_of (P := Try.prog) Try.facts exactLogFrame_closed

theorem exactLogFrame_wrap : Func.isWrapper Try.pinned.checked.prog Try.f5 Rows.fnExactLogFrameRow.wrapper Rows.fnExactLogFrameRow.mainSum := by
  have e1 : Rows.fnExactLogFrameRow.wrapper = false := rfl
  have e2 : Rows.fnExactLogFrameRow.mainSum = "" := rfl
  rw [e1, e2]
  exact wrapper_of Try.pinned.checked.prog Try.f5 exactLogFrame_pkg

/-- The statement. -/
theorem exactLogFrame_over : Rows.fnExactLogFrameRow.holds Try.pinned (OpenSpec.ofChange Rows.fnExactLogFrameSpec) :=
  OpenClaim.holds_of_wide 5 Try.f5 rfl rfl rfl rfl rfl rfl rfl ⟨rfl, rfl, rfl, rfl, rfl⟩ rfl rfl rfl rfl rfl (by kernel_rfl) Try.func5 exactLogFrame_facts
    (of_decide_eq_true (by kernel_rfl)) exactLogFrame_wrap
    (fun os started H enc _ => exactLogFrame_lifted os started H enc)
theorem exactLogFrame_holds : Rows.FnExactLogFrameSaid := exactLogFrame_over
#print axioms exactLogFrame_holds

end Go.Proofs.Ytklgkfknifkbaaa
