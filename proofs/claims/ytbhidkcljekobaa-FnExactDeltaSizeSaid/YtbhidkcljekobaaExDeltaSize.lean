/- The law FnExactDeltaSize returns true for every argument. No conditions. -/
import Derived.Test.YtbhidkcljekobaaDelA
import Derived.Test.YtbhidkcljekobaaOpenO
namespace Go.Proofs.Ytbhidkcljekobaa
open Go.ChangeShapes Go.WideShapes Go.ChangeAt Go.RowKit
set_option linter.unusedVariables false
set_option linter.unusedSimpArgs false

set_option maxRecDepth 100000 in
/-- laws.FnExactDeltaSize -/
theorem exDeltaSize_ok (A : Option Addr) (n : Nat) (c : Nat) (es : List (Int × Int × List UInt8)) (w0 : World) (hA : Arr w0 encOp 3 A es) (hn : (n : Int) = es.length) (hb : (n : Int) ≤ 9223372036854775807) (ht : ∀ o ∈ es, (o.2.2.length : Int) ≤ 9223372036854775807) :
    Calls Try.prog 4 #[.slice A n c] w0 fun e w => e = .returned (.bool true) ∧ Own w0 [] [] w := by
  have O := Own.start w0
  refine enterO (n := 27) Try.func4 rfl rfl rfl O fun a w F O => ?_
  refine c_seq fun K1 hK1 => c_region (sp F (p_assign rfl) rfl rfl fun a F => c_nil (hK1 _ _ (?_)))
  try clear hK1 K1
  refine c_seq fun K2 hK2 => c_region (sp F (p_assign rfl) rfl rfl fun a F => c_nil (hK2 _ _ (?_)))
  try clear hK2 K2
  refine c_seq fun K3 hK3 => c_region (sp F (p_move rfl) rfl rfl fun a F => sp F (p_move rfl) rfl rfl fun a F => so F rfl (o_call (vs := #[.slice A n c, .int .i64 (1048576)]) F Try.en_15 rfl rfl ((szOpS_ok A n c es 1048576 w (hA.keep O) (by first | omega | (simp; done) | (simp; omega) | (simp at *; omega)) (by omega) (by assumption) (by omega) (by omega)).mono ?_)))
  rintro e w ⟨q9, rfl, h9a, K⟩
  refine ⟨_, rfl, fun a F => ?_⟩
  have O : Own w0 [] [] w := O.call0 K
  clear K
  have O : Own w0 [] [] w := O
  refine sp F (p_assign rfl) rfl rfl fun a F => c_nil (hK3 _ _ (?_))
  try clear hK3 K3
  refine c_seq fun K4 hK4 => c_seq fun K5 hK5 => c_region (sp F (p_move rfl) rfl rfl fun a F => sp F (p_lss rfl rfl) rfl rfl fun a F => c_nil (hK5 _ _ (?_)))
  try clear hK5 K5
  by_cases c11 : q9 < 0
  · have F := F.setB (d := 11) rfl (decide_eq_true c11)
    refine c_ift F rfl (c_seq fun K6 hK6 => c_region (sp F (p_assign rfl) rfl rfl fun a F => c_nil (hK6 _ _ (?_))))
    try clear hK6 K6
    refine wp_ret (r_then (ret1 F rfl rfl (?_)))
    exact ⟨rfl, O⟩
  · have F := F.setB (d := 11) rfl (decide_eq_false c11)
    refine c_iff F rfl (wp_skip (hK4 _ _ (?_)))
    try clear hK4 K4
    refine c_seq fun K6 hK6 => ?_
    have htn := tsz_nonneg es
    refine c_region (sp F (p_move rfl) rfl rfl fun a F => so F rfl (o_call (vs := #[.slice A n c]) F Try.en_16 rfl rfl ((toOpS_ok A n c es w (hA.keep O) (by first | omega | (simp; done) | (simp; omega) | (simp at *; omega)) (by omega)).mono ?_)))
    rintro e w ⟨b13, N13, rfl, h13a, K⟩
    refine ⟨_, rfl, fun a F => ?_⟩
    have O : Own w0 [] [.row 43 3 (.slice (some ⟨b13, 0, none⟩) N13 N13) N13 (es.flatMap encOp)] w := O.call0 K
    clear K
    have O : Own w0 [] [.row 43 3 (.slice (some ⟨b13, 0, none⟩) N13 N13) N13 (es.flatMap encOp)] w := O
    refine so F rfl (o_call (vs := #[.slice (some ⟨b13, 0, none⟩) N13 N13]) F Try.en_14 rfl rfl ((sDeltaSize_ok (some ⟨b13, 0, none⟩) N13 N13 es w (O.arr 0 (es := es) rfl encOp_len (by decide)) (by first | omega | (simp; done) | (simp; omega) | (simp at *; omega)) (by omega) (by omega)).mono ?_))
    rintro e w ⟨rfl, K⟩
    refine ⟨_, rfl, fun a F => ?_⟩
    have O : Own w0 [] [.row 43 3 (.slice (some ⟨b13, 0, none⟩) N13 N13) N13 (es.flatMap encOp)] w := O.call0 K
    clear K
    have O : Own w0 [] [.row 43 3 (.slice (some ⟨b13, 0, none⟩) N13 N13) N13 (es.flatMap encOp)] w := O
    refine sp F (p_assign rfl) rfl rfl fun a F => c_nil (hK6 _ _ (?_))
    try clear hK6 K6
    refine c_seq fun K7 hK7 => c_region (sp F (p_move rfl) rfl rfl fun a F => so F rfl (o_call (vs := #[.slice A n c]) F Try.en_16 rfl rfl ((toOpS_ok A n c es w (hA.keep O) (by first | omega | (simp; done) | (simp; omega) | (simp at *; omega)) (by omega)).mono ?_)))
    rintro e w ⟨b16, N16, rfl, h16a, K⟩
    refine ⟨_, rfl, fun a F => ?_⟩
    have O : Own w0 [] [.row 43 3 (.slice (some ⟨b16, 0, none⟩) N16 N16) N16 (es.flatMap encOp), .row 43 3 (.slice (some ⟨b13, 0, none⟩) N13 N13) N13 (es.flatMap encOp)] w := O.call0 K
    clear K
    have O : Own w0 [] [.row 43 3 (.slice (some ⟨b16, 0, none⟩) N16 N16) N16 (es.flatMap encOp), .row 43 3 (.slice (some ⟨b13, 0, none⟩) N13 N13) N13 (es.flatMap encOp)] w := O
    refine sp F (p_assign rfl) rfl rfl fun a F => c_nil (hK7 _ _ (?_))
    try clear hK7 K7
    refine c_seq fun K8 hK8 => c_region (sp F (p_move rfl) rfl rfl fun a F => so F rfl (o_call (vs := #[.slice (some ⟨b16, 0, none⟩) N16 N16]) F Try.en_13 rfl rfl ((iDeltaSize_ok (some ⟨b16, 0, none⟩) N16 N16 es w (O.arr 0 (es := es) rfl encOp_len (by decide)) (by first | omega | (simp; done) | (simp; omega) | (simp at *; omega)) (by omega) (by omega)).mono ?_)))
    rintro e w ⟨rfl, K⟩
    refine ⟨_, rfl, fun a F => ?_⟩
    have O : Own w0 [] [.row 43 3 (.slice (some ⟨b16, 0, none⟩) N16 N16) N16 (es.flatMap encOp), .row 43 3 (.slice (some ⟨b13, 0, none⟩) N13 N13) N13 (es.flatMap encOp)] w := O.call0 K
    clear K
    have O : Own w0 [] [.row 43 3 (.slice (some ⟨b16, 0, none⟩) N16 N16) N16 (es.flatMap encOp), .row 43 3 (.slice (some ⟨b13, 0, none⟩) N13 N13) N13 (es.flatMap encOp)] w := O
    refine sp F (p_assign rfl) rfl rfl fun a F => c_nil (hK8 _ _ (?_))
    try clear hK8 K8
    refine c_seq fun K9 hK9 => c_seq fun K10 hK10 => c_region (sp F (p_move rfl) rfl rfl fun a F => sp F (p_move rfl) rfl rfl fun a F => sp F (p_neq rfl rfl) rfl rfl fun a F => ?_)
    have c21 : ((es.length : Int) + tsz es) = ((es.length : Int) + tsz es) := by rfl
    have F := F.setB (d := 21) rfl (decide_eq_false (fun h => h c21))
    refine c_nil (hK10 _ _ (?_))
    try clear hK10 K10
    refine c_iff F rfl (wp_skip (hK9 _ _ (?_)))
    try clear hK9 K9
    refine c_seq fun K11 hK11 => c_seq fun K12 hK12 => c_region (sp F (p_move rfl) rfl rfl fun a F => sp F (p_move rfl) rfl rfl fun a F => so F rfl (o_call (vs := #[.slice A n c]) F Try.en_16 rfl rfl ((toOpS_ok A n c es w (hA.keep O) (by first | omega | (simp; done) | (simp; omega) | (simp at *; omega)) (by omega)).mono ?_)))
    rintro e w ⟨b24, N24, rfl, h24a, K⟩
    refine ⟨_, rfl, fun a F => ?_⟩
    have O : Own w0 [] [.row 43 3 (.slice (some ⟨b24, 0, none⟩) N24 N24) N24 (es.flatMap encOp), .row 43 3 (.slice (some ⟨b16, 0, none⟩) N16 N16) N16 (es.flatMap encOp), .row 43 3 (.slice (some ⟨b13, 0, none⟩) N13 N13) N13 (es.flatMap encOp)] w := O.call0 K
    clear K
    have O : Own w0 [] [.row 43 3 (.slice (some ⟨b24, 0, none⟩) N24 N24) N24 (es.flatMap encOp), .row 43 3 (.slice (some ⟨b16, 0, none⟩) N16 N16) N16 (es.flatMap encOp), .row 43 3 (.slice (some ⟨b13, 0, none⟩) N13 N13) N13 (es.flatMap encOp)] w := O
    refine so F rfl (o_call (vs := #[.slice (some ⟨b16, 0, none⟩) N16 N16, .slice (some ⟨b24, 0, none⟩) N24 N24]) F Try.en_17 rfl rfl ((eqOpS_ok (some ⟨b16, 0, none⟩) N16 N16 es (some ⟨b24, 0, none⟩) N24 N24 es w (O.arr 1 (es := es) rfl encOp_len (by decide)) (by first | omega | (simp; done) | (simp; omega) | (simp at *; omega)) (by omega) (O.arr 0 (es := es) rfl encOp_len (by decide)) (by first | omega | (simp; done) | (simp; omega) | (simp at *; omega)) (by omega)).mono ?_))
    rintro e w ⟨rfl, K⟩
    refine ⟨_, rfl, fun a F => ?_⟩
    have O : Own w0 [] [.row 43 3 (.slice (some ⟨b24, 0, none⟩) N24 N24) N24 (es.flatMap encOp), .row 43 3 (.slice (some ⟨b16, 0, none⟩) N16 N16) N16 (es.flatMap encOp), .row 43 3 (.slice (some ⟨b13, 0, none⟩) N13 N13) N13 (es.flatMap encOp)] w := O.call0 K
    clear K
    have c25 : es = es := by rfl
    have F := F.setB (d := 25) rfl (decide_eq_true c25)
    have O : Own w0 [] [.row 43 3 (.slice (some ⟨b24, 0, none⟩) N24 N24) N24 (es.flatMap encOp), .row 43 3 (.slice (some ⟨b16, 0, none⟩) N16 N16) N16 (es.flatMap encOp), .row 43 3 (.slice (some ⟨b13, 0, none⟩) N13 N13) N13 (es.flatMap encOp)] w := O
    refine sp F (p_not rfl) rfl rfl fun a F => c_nil (hK12 _ _ (?_))
    try clear hK12 K12
    refine c_iff F rfl (wp_skip (hK11 _ _ (?_)))
    try clear hK11 K11
    refine c_seq fun K13 hK13 => c_region (sp F (p_assign rfl) rfl rfl fun a F => c_nil (hK13 _ _ (?_)))
    try clear hK13 K13
    refine wp_ret (ret1 F rfl rfl (?_))
    have O : Own w0 [] [] w := (O.take 0)
    exact ⟨rfl, O⟩

set_option maxRecDepth 100000 in
theorem exDeltaSize_lifted (os : Os) (started : os.Started) (H : Type) (enc : TypeId × Value → H) :
    ReturnsInHanded {} Try.checked os 4 .any (Rows.fnExactDeltaSizeSpec.pre6 enc Try.prog Try.f4 Rows.fnExactDeltaSizeRow.domain false) (Rows.fnExactDeltaSizeSpec.post enc Try.prog Try.f4 false true false false) := by
  have e0 : Rows.fnExactDeltaSizeRow.domain = [] := rfl
  rw [e0]
  refine lifted_of (C := Try.checked) Try.facts started (by kernel_rfl) Try.func4 rfl ?_ (tb := 4) (by kernel_rfl) Try.underlying4 (by kernel_rfl)
    (ChangeSpec.witness6 (enc := enc) (C := Try.checked) false ⟨#[], #[.slice none 0 0], []⟩ 8 (by kernel_rfl) (by kernel_rfl) (by kernel_rfl) (by kernel_rfl)) ?_
  · intro ds hds
    match ds, hds with
    | [_], _ => rfl
  intro W base args ds p hval0 hA0
  have hval : ∀ (j : Nat) t v, Try.f4.params[j]? = some t → args[j]? = some v → Value.okWide Try.prog W .any base t v := hval0
  have hA : DataW.TrodAll enc Try.prog W 0 (fun _ => true) true Try.f4.params.toList args.toList ds p := hA0
  clear hA0 hval0
  show Calls Try.prog 4 args W _
  rw [Try.params4] at hA hval
  obtain ⟨v0, d0, hargs, rfl, h0⟩ := trodAll_one hA
  obtain rfl : args = #[v0] := by cases args; simp_all
  obtain ⟨a, n, c, es, rfl, hArr, hn, hb, ht⟩ := open_opsIn (hval 0 27 v0 rfl rfl) h0
  exact (exDeltaSize_ok a n c es W hArr hn hb ht).mono fun e w' h => ⟨h.1, h.2.below⟩

theorem exDeltaSize_pkg : ¬ Check.packageOf Try.f4.name = "main" := by
  intro h
  have h2 := congrArg String.toList h
  simp only [Check.packageOf, Try.f4] at h2
  simp at h2

theorem exDeltaSize_closed : lawFacts Try.prog 4 Try.f4 Rows.fnExactDeltaSizeSpec Rows.fnExactDeltaSizeRow = true := by kernel_rfl
theorem exDeltaSize_facts : joinedFacts Try.pinned.checked.prog 4 Try.f4 Rows.fnExactDeltaSizeSpec Rows.fnExactDeltaSizeRow = true := facts_of (P := Try.prog) Try.facts exDeltaSize_closed

theorem exDeltaSize_wrap : Func.isWrapper Try.pinned.checked.prog Try.f4 Rows.fnExactDeltaSizeRow.wrapper Rows.fnExactDeltaSizeRow.mainSum := by
  have e1 : Rows.fnExactDeltaSizeRow.wrapper = false := rfl
  have e2 : Rows.fnExactDeltaSizeRow.mainSum = "" := rfl
  rw [e1, e2]
  exact wrapper_of Try.pinned.checked.prog Try.f4 exDeltaSize_pkg

/-- The statement. -/
theorem exDeltaSize_over : Rows.fnExactDeltaSizeRow.holds Try.pinned (OpenSpec.ofChange Rows.fnExactDeltaSizeSpec) :=
  OpenClaim.holds_of_wide 4 Try.f4 rfl rfl rfl rfl rfl rfl rfl ⟨rfl, rfl, rfl, rfl, rfl⟩ rfl rfl rfl rfl rfl (by kernel_rfl) Try.func4 exDeltaSize_facts
    (of_decide_eq_true (by kernel_rfl)) exDeltaSize_wrap
    (fun os started H enc _ => exDeltaSize_lifted os started H enc)
theorem exDeltaSize_holds : Rows.FnExactDeltaSizeSaid := exDeltaSize_over
#print axioms exDeltaSize_holds

end Go.Proofs.Ytbhidkcljekobaa
