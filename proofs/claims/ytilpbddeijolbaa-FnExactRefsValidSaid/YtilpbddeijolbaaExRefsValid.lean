/- The law FnExactRefsValid returns true for every argument. No conditions. -/
import Derived.Test.YtilpbddeijolbaaRefA
import Derived.Test.YtilpbddeijolbaaOpenS
namespace Go.Proofs.Ytilpbddeijolbaa
open Go.ChangeShapes Go.WideShapes Go.ChangeAt Go.RowKit
set_option linter.unusedVariables false
set_option linter.unusedSimpArgs false

set_option maxRecDepth 100000 in
/-- laws.FnExactRefsValid -/
theorem exRefsValid_ok (A : Option Addr) (n : Nat) (c : Nat) (es : List (Int)) (w0 : World) (hA : Arr w0 encInt 1 A es) (hn : (n : Int) = es.length) (hb : (n : Int) ≤ 9223372036854775807) :
    Calls Try.prog 4 #[.slice A n c] w0 fun e w => e = .returned (.bool true) ∧ Own w0 [] [] w := by
  have O := Own.start w0
  refine enterO (n := 24) Try.func4 rfl rfl rfl O fun a w F O => ?_
  refine c_seq fun K1 hK1 => c_region (sp F (p_assign rfl) rfl rfl fun a F => c_nil (hK1 _ _ (?_)))
  try clear hK1 K1
  refine c_seq fun K2 hK2 => c_seq fun K3 hK3 => c_region (sp F (p_move rfl) rfl rfl fun a F => sp F (p_len_l rfl Try.underlying22) rfl rfl fun a F => sp F (p_gtr rfl rfl) rfl rfl fun a F => c_nil (hK3 _ _ (?_)))
  try clear hK3 K3
  by_cases c8 : 1048576 < (n : Int)
  · have F := F.setB (d := 8) rfl (decide_eq_true c8)
    refine c_ift F rfl (c_seq fun K4 hK4 => c_region (sp F (p_assign rfl) rfl rfl fun a F => c_nil (hK4 _ _ (?_))))
    try clear hK4 K4
    refine wp_ret (r_then (ret1 F rfl rfl (?_)))
    exact ⟨rfl, O⟩
  · have F := F.setB (d := 8) rfl (decide_eq_false c8)
    refine c_iff F rfl (wp_skip (hK2 _ _ (?_)))
    try clear hK2 K2
    refine c_seq fun K4 hK4 => c_region (sp F (p_move rfl) rfl rfl fun a F => so F rfl (o_call (vs := #[.slice A n c]) F Try.en_18 rfl rfl ((toIntS_ok A n c es w (hA.keep O) (by first | omega | (simp; omega) | (simp at *; omega)) (by omega)).mono ?_)))
    rintro e w ⟨b10, N10, rfl, h10a, K⟩
    refine ⟨_, rfl, fun a F => ?_⟩
    have O : Own w0 [] [.row 3 1 (.slice (some ⟨b10, 0, none⟩) N10 N10) N10 (es.flatMap encInt)] w := O.call0 K
    clear K
    have O : Own w0 [] [.row 3 1 (.slice (some ⟨b10, 0, none⟩) N10 N10) N10 (es.flatMap encInt)] w := O
    refine so F rfl (o_call (vs := #[.slice (some ⟨b10, 0, none⟩) N10 N10]) F Try.en_21 rfl rfl ((sRefsValid_ok (some ⟨b10, 0, none⟩) N10 N10 es w (O.arr 0 (es := es) rfl encInt_len (by decide)) (by first | omega | (simp; omega) | (simp at *; omega)) (by omega)).mono ?_))
    rintro e w ⟨rfl, K⟩
    refine ⟨_, rfl, fun a F => ?_⟩
    have O : Own w0 [] [.row 3 1 (.slice (some ⟨b10, 0, none⟩) N10 N10) N10 (es.flatMap encInt)] w := O.call0 K
    clear K
    have O : Own w0 [] [.row 3 1 (.slice (some ⟨b10, 0, none⟩) N10 N10) N10 (es.flatMap encInt)] w := O
    refine sp F (p_assign rfl) rfl rfl fun a F => c_nil (hK4 _ _ (?_))
    try clear hK4 K4
    refine c_seq fun K5 hK5 => c_region (sp F (p_move rfl) rfl rfl fun a F => so F rfl (o_call (vs := #[.slice A n c]) F Try.en_18 rfl rfl ((toIntS_ok A n c es w (hA.keep O) (by first | omega | (simp; omega) | (simp at *; omega)) (by omega)).mono ?_)))
    rintro e w ⟨b13, N13, rfl, h13a, K⟩
    refine ⟨_, rfl, fun a F => ?_⟩
    have O : Own w0 [] [.row 3 1 (.slice (some ⟨b13, 0, none⟩) N13 N13) N13 (es.flatMap encInt), .row 3 1 (.slice (some ⟨b10, 0, none⟩) N10 N10) N10 (es.flatMap encInt)] w := O.call0 K
    clear K
    have O : Own w0 [] [.row 3 1 (.slice (some ⟨b13, 0, none⟩) N13 N13) N13 (es.flatMap encInt), .row 3 1 (.slice (some ⟨b10, 0, none⟩) N10 N10) N10 (es.flatMap encInt)] w := O
    refine sp F (p_assign rfl) rfl rfl fun a F => c_nil (hK5 _ _ (?_))
    try clear hK5 K5
    refine c_seq fun K6 hK6 => c_region (sp F (p_move rfl) rfl rfl fun a F => so F rfl (o_call (vs := #[.slice (some ⟨b13, 0, none⟩) N13 N13]) F Try.en_22 rfl rfl ((iRefsValid_ok (some ⟨b13, 0, none⟩) N13 N13 es w (O.arr 0 (es := es) rfl encInt_len (by decide)) (by first | omega | (simp; omega) | (simp at *; omega)) (by omega)).mono ?_)))
    rintro e w ⟨rfl, K⟩
    refine ⟨_, rfl, fun a F => ?_⟩
    have O : Own w0 [] [.row 3 1 (.slice (some ⟨b13, 0, none⟩) N13 N13) N13 (es.flatMap encInt), .row 3 1 (.slice (some ⟨b10, 0, none⟩) N10 N10) N10 (es.flatMap encInt)] w := O.call0 K
    clear K
    have O : Own w0 [] [.row 3 1 (.slice (some ⟨b13, 0, none⟩) N13 N13) N13 (es.flatMap encInt), .row 3 1 (.slice (some ⟨b10, 0, none⟩) N10 N10) N10 (es.flatMap encInt)] w := O
    refine sp F (p_assign rfl) rfl rfl fun a F => c_nil (hK6 _ _ (?_))
    try clear hK6 K6
    refine c_seq fun K7 hK7 => c_seq fun K8 hK8 => c_region (sp F (p_move rfl) rfl rfl fun a F => sp F (p_move rfl) rfl rfl fun a F => sp F (p_bneL rfl rfl Try.underlying4 false (by simp)) rfl rfl fun a F => c_nil (hK8 _ _ (?_)))
    try clear hK8 K8
    refine c_iff F rfl (wp_skip (hK7 _ _ (?_)))
    try clear hK7 K7
    refine c_seq fun K9 hK9 => c_seq fun K10 hK10 => c_region (sp F (p_move rfl) rfl rfl fun a F => sp F (p_move rfl) rfl rfl fun a F => so F rfl (o_call (vs := #[.slice A n c]) F Try.en_18 rfl rfl ((toIntS_ok A n c es w (hA.keep O) (by first | omega | (simp; omega) | (simp at *; omega)) (by omega)).mono ?_)))
    rintro e w ⟨b21, N21, rfl, h21a, K⟩
    refine ⟨_, rfl, fun a F => ?_⟩
    have O : Own w0 [] [.row 3 1 (.slice (some ⟨b21, 0, none⟩) N21 N21) N21 (es.flatMap encInt), .row 3 1 (.slice (some ⟨b13, 0, none⟩) N13 N13) N13 (es.flatMap encInt), .row 3 1 (.slice (some ⟨b10, 0, none⟩) N10 N10) N10 (es.flatMap encInt)] w := O.call0 K
    clear K
    have O : Own w0 [] [.row 3 1 (.slice (some ⟨b21, 0, none⟩) N21 N21) N21 (es.flatMap encInt), .row 3 1 (.slice (some ⟨b13, 0, none⟩) N13 N13) N13 (es.flatMap encInt), .row 3 1 (.slice (some ⟨b10, 0, none⟩) N10 N10) N10 (es.flatMap encInt)] w := O
    refine so F rfl (o_call (vs := #[.slice (some ⟨b13, 0, none⟩) N13 N13, .slice (some ⟨b21, 0, none⟩) N21 N21]) F Try.en_20 rfl rfl ((eqIntS_ok (some ⟨b13, 0, none⟩) N13 N13 es (some ⟨b21, 0, none⟩) N21 N21 es w (O.arr 1 (es := es) rfl encInt_len (by decide)) (by first | omega | (simp; omega) | (simp at *; omega)) (by omega) (O.arr 0 (es := es) rfl encInt_len (by decide)) (by first | omega | (simp; omega) | (simp at *; omega)) (by omega)).mono ?_))
    rintro e w ⟨rfl, K⟩
    refine ⟨_, rfl, fun a F => ?_⟩
    have O : Own w0 [] [.row 3 1 (.slice (some ⟨b21, 0, none⟩) N21 N21) N21 (es.flatMap encInt), .row 3 1 (.slice (some ⟨b13, 0, none⟩) N13 N13) N13 (es.flatMap encInt), .row 3 1 (.slice (some ⟨b10, 0, none⟩) N10 N10) N10 (es.flatMap encInt)] w := O.call0 K
    clear K
    have c22 : es = es := by rfl
    have F := F.setB (d := 22) rfl (decide_eq_true c22)
    have O : Own w0 [] [.row 3 1 (.slice (some ⟨b21, 0, none⟩) N21 N21) N21 (es.flatMap encInt), .row 3 1 (.slice (some ⟨b13, 0, none⟩) N13 N13) N13 (es.flatMap encInt), .row 3 1 (.slice (some ⟨b10, 0, none⟩) N10 N10) N10 (es.flatMap encInt)] w := O
    refine sp F (p_not rfl) rfl rfl fun a F => c_nil (hK10 _ _ (?_))
    try clear hK10 K10
    refine c_iff F rfl (wp_skip (hK9 _ _ (?_)))
    try clear hK9 K9
    refine c_seq fun K11 hK11 => c_region (sp F (p_assign rfl) rfl rfl fun a F => c_nil (hK11 _ _ (?_)))
    try clear hK11 K11
    refine wp_ret (ret1 F rfl rfl (?_))
    have O : Own w0 [] [] w := (O.take 0)
    exact ⟨rfl, O⟩

set_option maxRecDepth 100000 in
theorem exRefsValid_lifted (os : Os) (started : os.Started) (H : Type) (enc : TypeId × Value → H) :
    ReturnsInHanded {} Try.checked os 4 .any (Rows.fnExactRefsValidSpec.pre6 enc Try.prog Try.f4 Rows.fnExactRefsValidRow.domain false) (Rows.fnExactRefsValidSpec.post enc Try.prog Try.f4 false true false false) := by
  have e0 : Rows.fnExactRefsValidRow.domain = [] := rfl
  rw [e0]
  refine lifted_of (C := Try.checked) Try.facts started (by kernel_rfl) Try.func4 rfl ?_ (tb := 4) (by kernel_rfl) Try.underlying4 (by kernel_rfl)
    (ChangeSpec.witness6 (enc := enc) (C := Try.checked) false ⟨#[], #[.slice none 0 0], []⟩ 8 (by kernel_rfl) (by kernel_rfl) (by kernel_rfl) (by kernel_rfl)) ?_
  · intro ds hds
    match ds, hds with
    | [_], _ => rfl
  intro W base args ds p hval0 hA0
  have hval : ∀ (j : Nat) t v, Try.f4.params[j]? = some t → args[j]? = some v → Value.okWide Try.prog W .any base t v := hval0
  have hA : DataW.TrodAll enc Try.prog W 0 (fun _ => true) true Try.f4.params.toList args.toList ds p := hA0
  clear hA0 hval0
  show Calls Try.prog 4 args W _
  rw [Try.params4] at hA hval
  obtain ⟨v0, d0, hargs, rfl, h0⟩ := trodAll_one hA
  obtain rfl : args = #[v0] := by cases args; simp_all
  obtain ⟨a, n, c, es, rfl, hArr, hn, hb⟩ := open_intsIn (hval 0 22 v0 rfl rfl) h0
  exact (exRefsValid_ok a n c es W hArr hn hb).mono fun e w' h => ⟨h.1, h.2.below⟩

theorem exRefsValid_pkg : ¬ Check.packageOf Try.f4.name = "main" := by
  intro h
  have h2 := congrArg String.toList h
  simp only [Check.packageOf, Try.f4] at h2
  simp at h2

theorem exRefsValid_closed : lawFacts Try.prog 4 Try.f4 Rows.fnExactRefsValidSpec Rows.fnExactRefsValidRow = true := by kernel_rfl
theorem exRefsValid_facts : joinedFacts Try.pinned.checked.prog 4 Try.f4 Rows.fnExactRefsValidSpec Rows.fnExactRefsValidRow = true := facts_of (P := Try.prog) Try.facts exRefsValid_closed

theorem exRefsValid_wrap : Func.isWrapper Try.pinned.checked.prog Try.f4 Rows.fnExactRefsValidRow.wrapper Rows.fnExactRefsValidRow.mainSum := by
  have e1 : Rows.fnExactRefsValidRow.wrapper = false := rfl
  have e2 : Rows.fnExactRefsValidRow.mainSum = "" := rfl
  rw [e1, e2]
  exact wrapper_of Try.pinned.checked.prog Try.f4 exRefsValid_pkg

/-- The statement. -/
theorem exRefsValid_over : Rows.fnExactRefsValidRow.holds Try.pinned (OpenSpec.ofChange Rows.fnExactRefsValidSpec) :=
  OpenClaim.holds_of_wide 4 Try.f4 rfl rfl rfl rfl rfl rfl rfl ⟨rfl, rfl, rfl, rfl, rfl⟩ rfl rfl rfl rfl rfl (by kernel_rfl) Try.func4 exRefsValid_facts
    (of_decide_eq_true (by kernel_rfl)) exRefsValid_wrap
    (fun os started H enc _ => exRefsValid_lifted os started H enc)
theorem exRefsValid_holds : Rows.FnExactRefsValidSaid := exRefsValid_over
#print axioms exRefsValid_holds

end Go.Proofs.Ytilpbddeijolbaa
