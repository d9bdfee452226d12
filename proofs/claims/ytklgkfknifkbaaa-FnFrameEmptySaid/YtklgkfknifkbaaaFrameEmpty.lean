/- Only records have frames: the law FnFrameEmpty returns true. No conditions. -/
import Derived.Test.YtklgkfknifkbaaaDrawFrame
import Derived.Test.YtklgkfknifkbaaaLogFrame
namespace Go.Proofs.Ytklgkfknifkbaaa
set_option linter.unusedVariables false
set_option linter.unusedSimpArgs false
open Go.ChangeShapes Go.WideShapes Go.ChangeAt Go.RowKit

theorem empty_iff (s : ByteArray) : s.toList.isEmpty = decide (s.size = 0) := by
  rw [ByteArray.toList_eq]
  have : s.size = s.data.toList.length := by rw [Array.length_toList]; rfl
  rw [this]
  cases s.data.toList <;> simp
theorem frameOf_size (s : ByteArray) : (frameOf s).size = s.size + 2 := by
  unfold frameOf
  rw [ByteArray.size_append, ByteArray.size_append]
  show 1 + s.size + 1 = _
  omega
theorem logFrame_empty (s : ByteArray) : (logFrame s).toList.isEmpty = (s.toList.isEmpty || decide (12 < (s.size : Int))) := by
  rw [empty_iff, empty_iff]
  cases h : isRec s
  · have e : logFrame s = ⟨#[]⟩ := by simp [logFrame, h]
    have h' : ¬ (1 ≤ s.size ∧ s.size ≤ 12) := by simp [isRec, inR] at h; omega
    have z : (⟨#[]⟩ : ByteArray).size = 0 := rfl
    rw [e, z, Bool.eq_iff_iff, Bool.or_eq_true, decide_eq_true_eq, decide_eq_true_eq, decide_eq_true_eq]
    omega
  · have e : logFrame s = frameOf s := by simp [logFrame, h]
    obtain ⟨h1, h2⟩ := isRec_true h
    rw [e, frameOf_size, Bool.eq_iff_iff, Bool.or_eq_true, decide_eq_true_eq, decide_eq_true_eq, decide_eq_true_eq]
    omega

set_option maxHeartbeats 400000 in
theorem frameEmpty_any (a : Option Addr) (n c : Nat) (w : World) (h : CodeAt w a n c) :
    Calls Try.prog 7 #[.slice a n c] w fun e w' => e = .returned (.bool true) ∧ Below w.heap.size w w' := by
  have hc := h.2.1
  have hnc := h.1
  unfold maxLen at hc
  by_cases hn : n ≤ 1048576
  · go_enter Try.func7, Try.ntmps7
    go_wp2_with fail
    refine (drawLogFrame_any a n c w h).mono ?_
    rintro e w1 ⟨s, rfl, hs, hb1⟩
    have e1 : logFrame ⟨#[]⟩ = ⟨#[]⟩ := by simp [logFrame, isRec, inR, ByteArray.size]
    have e2 : logFrame ⟨#[48, 49, 50, 51, 52, 53, 54, 55, 56, 57, 97, 98, 99]⟩ = ⟨#[]⟩ := by simp [logFrame, isRec, inR, ByteArray.size]
    have hm : s.size ≤ maxLen := by unfold maxLen; omega
    go_wp2_with (first
      | (go_at_call 29; refine (specLogFrame_any s _ hm).mono ?_; rintro e w2 ⟨rfl, hb2⟩)
      | (go_at_call 30; refine (implLogFrame_any _ _ (by first | exact hm | (unfold maxLen; simp [ByteArray.size]))).mono ?_; rintro e w3 ⟨rfl, hb3⟩))
    · have hl := logFrame_empty s
      have h0 : s.toList = [] := by assumption
      go_ret
      exact ⟨ret_bool (by rw [hl, h0]; rfl), by repeat (first | exact Below.refl _ _ | apply alloc_below | refine step_below ?_ (by assumption))⟩
    · have hl := logFrame_empty s
      go_ret
      exact ⟨ret_bool (by rw [hl]; simp), by repeat (first | exact Below.refl _ _ | apply alloc_below | refine step_below ?_ (by assumption))⟩
  · go_enter Try.func7, Try.ntmps7
    go_wp2_with fail
    go_ret
    exact ⟨rfl, Below.refl _ _⟩

set_option maxRecDepth 100000 in
theorem frameEmpty_lifted (os : Os) (started : os.Started) (H : Type) (enc : TypeId × Value → H) :
    ReturnsInHanded {} Try.checked os 7 .any (Rows.fnFrameEmptySpec.pre6 enc Try.prog Try.f7 Rows.fnFrameEmptyRow.domain false) (Rows.fnFrameEmptySpec.post enc Try.prog Try.f7 false true false false) := by
  have e0 : Rows.fnFrameEmptyRow.domain = [] := rfl
  rw [e0]
  refine lifted_of (C := Try.checked) Try.facts started (by kernel_rfl) Try.func7 rfl ?_ (tb := 4) (by kernel_rfl) Try.underlying4 (by kernel_rfl)
    (ChangeSpec.witness6 (enc := enc) (C := Try.checked) false ⟨#[], #[.slice none 0 0], []⟩ 8 (by kernel_rfl) (by kernel_rfl) (by kernel_rfl) (by kernel_rfl)) ?_
  · intro ds hds
    match ds, hds with
    | [_], _ => rfl
  intro W base args ds p hval0 hA0
  have hval : ∀ (j : Nat) t v, Try.f7.params[j]? = some t → args[j]? = some v → Value.okWide Try.prog W .any base t v := hval0
  have hA : DataW.TrodAll enc Try.prog W 0 (fun _ => true) true Try.f7.params.toList args.toList ds p := hA0
  clear hA0 hval0
  show Calls Try.prog 7 args W _
  rw [Try.params7] at hA hval
  obtain ⟨v0, d0, hargs, rfl, h0⟩ := trodAll_one hA
  obtain rfl : args = #[v0] := by cases args; simp_all
  obtain ⟨a, n, c, rfl, hC⟩ := open_code (hval 0 34 v0 rfl rfl) h0
  exact frameEmpty_any a n c W hC

theorem frameEmpty_pkg : ¬ Check.packageOf Try.f7.name = "main" := by
  intro h
  have h2 := congrArg String.toList h
  simp only [Check.packageOf, Try.f7] at h2
  simp at h2

theorem frameEmpty_closed : lawFacts Try.prog 7 Try.f7 Rows.fnFrameEmptySpec Rows.fnFrameEmptyRow = true := by kernel_rfl
theorem frameEmpty_facts : joinedFacts Try.pinned.checked.prog 7 Try.f7 Rows.fnFrameEmptySpec Rows.fnFrameEmptyRow = true := facts_of (P := Try.prog) Try.facts frameEmpty_closed

theorem frameEmpty_wrap : Func.isWrapper Try.pinned.checked.prog Try.f7 Rows.fnFrameEmptyRow.wrapper Rows.fnFrameEmptyRow.mainSum := by
  have e1 : Rows.fnFrameEmptyRow.wrapper = false := rfl
  have e2 : Rows.fnFrameEmptyRow.mainSum = "" := rfl
  rw [e1, e2]
  exact wrapper_of Try.pinned.checked.prog Try.f7 frameEmpty_pkg

/-- The statement. -/
theorem frameEmpty_over : Rows.fnFrameEmptyRow.holds Try.pinned (OpenSpec.ofChange Rows.fnFrameEmptySpec) :=
  OpenClaim.holds_of_wide 7 Try.f7 rfl rfl rfl rfl rfl rfl rfl ⟨rfl, rfl, rfl, rfl, rfl⟩ rfl rfl rfl rfl rfl (by kernel_rfl) Try.func7 frameEmpty_facts
    (of_decide_eq_true (by kernel_rfl)) frameEmpty_wrap
    (fun os started H enc _ => frameEmpty_lifted os started H enc)
theorem frameEmpty_holds : Rows.FnFrameEmptySaid := frameEmpty_over
#print axioms frameEmpty_holds

end Go.Proofs.Ytklgkfknifkbaaa
