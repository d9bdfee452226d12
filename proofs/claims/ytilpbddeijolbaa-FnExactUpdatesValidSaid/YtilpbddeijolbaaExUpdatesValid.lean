/- The law FnExactUpdatesValid returns true for every argument. No conditions. -/
import Derived.Test.YtilpbddeijolbaaRefB
import Derived.Test.YtilpbddeijolbaaOpenU
namespace Go.Proofs.Ytilpbddeijolbaa
open Go.ChangeShapes Go.WideShapes Go.ChangeAt Go.RowKit
set_option linter.unusedVariables false
set_option linter.unusedSimpArgs false

set_option maxRecDepth 100000 in
/-- laws.FnExactUpdatesValid -/
theorem exUpdatesValid_ok (A : Option Addr) (n : Nat) (c : Nat) (es : List (Int × Int × Int)) (w0 : World) (hA : Arr w0 encUp 3 A es) (hn : (n : Int) = es.length) (hb : (n : Int) ≤ 9223372036854775807) :
    Calls Try.prog 6 #[.slice A n c] w0 fun e w => e = .returned (.bool true) ∧ Own w0 [] [] w := by
  have O := Own.start w0
  refine enterO (n := 27) Try.func6 rfl rfl rfl O fun a w F O => ?_
  refine c_seq fun K1 hK1 => c_region (sp F (p_assign rfl) rfl rfl fun a F => c_nil (hK1 _ _ (?_)))
  try clear hK1 K1
  refine c_seq fun K2 hK2 => c_region (sp F (p_assign rfl) rfl rfl fun a F => c_nil (hK2 _ _ (?_)))
  try clear hK2 K2
  refine c_seq fun K3 hK3 => c_region (sp F (p_move rfl) rfl rfl fun a F => sp F (p_move rfl) rfl rfl fun a F => so F rfl (o_call (vs := #[.slice A n c, .int .i64 (1048576)]) F Try.en_24 rfl rfl ((szUpdateS_ok A n c es 1048576 w (hA.keep O) (by first | omega | (simp; omega) | (simp at *; omega)) (by omega) (by omega) (by omega)).mono ?_)))
  rintro e w ⟨q9, rfl, h9a, K⟩
  refine ⟨_, rfl, fun a F => ?_⟩
  have O : Own w0 [] [] w := O.call0 K
  clear K
  have O : Own w0 [] [] w := O
  refine sp F (p_assign rfl) rfl rfl fun a F => c_nil (hK3 _ _ (?_))
  try clear hK3 K3
  refine c_seq fun K4 hK4 => c_seq fun K5 hK5 => c_region (sp F (p_move rfl) rfl rfl fun a F => sp F (p_lss rfl rfl) rfl rfl fun a F => c_nil (hK5 _ _ (?_)))
  try clear hK5 K5
  by_cases c11 : q9 < 0
  · have F := F.setB (d := 11) rfl (decide_eq_true c11)
    refine c_ift F rfl (c_seq fun K6 hK6 => c_region (sp F (p_assign rfl) rfl rfl fun a F => c_nil (hK6 _ _ (?_))))
    try clear hK6 K6
    refine wp_ret (r_then (ret1 F rfl rfl (?_)))
    exact ⟨rfl, O⟩
  · have F := F.setB (d := 11) rfl (decide_eq_false c11)
    refine c_iff F rfl (wp_skip (hK4 _ _ (?_)))
    try clear hK4 K4
    refine c_seq fun K6 hK6 => c_region (sp F (p_move rfl) rfl rfl fun a F => so F rfl (o_call (vs := #[.slice A n c]) F Try.en_26 rfl rfl ((toUpdateS_ok A n c es w (hA.keep O) (by first | omega | (simp; omega) | (simp at *; omega)) (by omega)).mono ?_)))
    rintro e w ⟨b13, N13, rfl, h13a, K⟩
    refine ⟨_, rfl, fun a F => ?_⟩
    have O : Own w0 [] [.row 51 3 (.slice (some ⟨b13, 0, none⟩) N13 N13) N13 (es.flatMap encUp)] w := O.call0 K
    clear K
    have O : Own w0 [] [.row 51 3 (.slice (some ⟨b13, 0, none⟩) N13 N13) N13 (es.flatMap encUp)] w := O
    refine so F rfl (o_call (vs := #[.slice (some ⟨b13, 0, none⟩) N13 N13]) F Try.en_25 rfl rfl ((sUpdatesValid_ok (some ⟨b13, 0, none⟩) N13 N13 es w (O.arr 0 (es := es) rfl encUp_len (by decide)) (by first | omega | (simp; omega) | (simp at *; omega)) (by omega)).mono ?_))
    rintro e w ⟨rfl, K⟩
    refine ⟨_, rfl, fun a F => ?_⟩
    have O : Own w0 [] [.row 51 3 (.slice (some ⟨b13, 0, none⟩) N13 N13) N13 (es.flatMap encUp)] w := O.call0 K
    clear K
    have O : Own w0 [] [.row 51 3 (.slice (some ⟨b13, 0, none⟩) N13 N13) N13 (es.flatMap encUp)] w := O
    refine sp F (p_assign rfl) rfl rfl fun a F => c_nil (hK6 _ _ (?_))
    try clear hK6 K6
    refine c_seq fun K7 hK7 => c_region (sp F (p_move rfl) rfl rfl fun a F => so F rfl (o_call (vs := #[.slice A n c]) F Try.en_26 rfl rfl ((toUpdateS_ok A n c es w (hA.keep O) (by first | omega | (simp; omega) | (simp at *; omega)) (by omega)).mono ?_)))
    rintro e w ⟨b16, N16, rfl, h16a, K⟩
    refine ⟨_, rfl, fun a F => ?_⟩
    have O : Own w0 [] [.row 51 3 (.slice (some ⟨b16, 0, none⟩) N16 N16) N16 (es.flatMap encUp), .row 51 3 (.slice (some ⟨b13, 0, none⟩) N13 N13) N13 (es.flatMap encUp)] w := O.call0 K
    clear K
    have O : Own w0 [] [.row 51 3 (.slice (some ⟨b16, 0, none⟩) N16 N16) N16 (es.flatMap encUp), .row 51 3 (.slice (some ⟨b13, 0, none⟩) N13 N13) N13 (es.flatMap encUp)] w := O
    refine sp F (p_assign rfl) rfl rfl fun a F => c_nil (hK7 _ _ (?_))
    try clear hK7 K7
    refine c_seq fun K8 hK8 => c_region (sp F (p_move rfl) rfl rfl fun a F => so F rfl (o_call (vs := #[.slice (some ⟨b16, 0, none⟩) N16 N16]) F Try.en_27 rfl rfl ((iUpdatesValid_ok (some ⟨b16, 0, none⟩) N16 N16 es w (O.arr 0 (es := es) rfl encUp_len (by decide)) (by first | omega | (simp; omega) | (simp at *; omega)) (by omega)).mono ?_)))
    rintro e w ⟨rfl, K⟩
    refine ⟨_, rfl, fun a F => ?_⟩
    have O : Own w0 [] [.row 51 3 (.slice (some ⟨b16, 0, none⟩) N16 N16) N16 (es.flatMap encUp), .row 51 3 (.slice (some ⟨b13, 0, none⟩) N13 N13) N13 (es.flatMap encUp)] w := O.call0 K
    clear K
    have O : Own w0 [] [.row 51 3 (.slice (some ⟨b16, 0, none⟩) N16 N16) N16 (es.flatMap encUp), .row 51 3 (.slice (some ⟨b13, 0, none⟩) N13 N13) N13 (es.flatMap encUp)] w := O
    refine sp F (p_assign rfl) rfl rfl fun a F => c_nil (hK8 _ _ (?_))
    try clear hK8 K8
    refine c_seq fun K9 hK9 => c_seq fun K10 hK10 => c_region (sp F (p_move rfl) rfl rfl fun a F => sp F (p_move rfl) rfl rfl fun a F => sp F (p_bneL rfl rfl Try.underlying4 false (by simp)) rfl rfl fun a F => c_nil (hK10 _ _ (?_)))
    try clear hK10 K10
    refine c_iff F rfl (wp_skip (hK9 _ _ (?_)))
    try clear hK9 K9
    refine c_seq fun K11 hK11 => c_seq fun K12 hK12 => c_region (sp F (p_move rfl) rfl rfl fun a F => sp F (p_move rfl) rfl rfl fun a F => so F rfl (o_call (vs := #[.slice A n c]) F Try.en_26 rfl rfl ((toUpdateS_ok A n c es w (hA.keep O) (by first | omega | (simp; omega) | (simp at *; omega)) (by omega)).mono ?_)))
    rintro e w ⟨b24, N24, rfl, h24a, K⟩
    refine ⟨_, rfl, fun a F => ?_⟩
    have O : Own w0 [] [.row 51 3 (.slice (some ⟨b24, 0, none⟩) N24 N24) N24 (es.flatMap encUp), .row 51 3 (.slice (some ⟨b16, 0, none⟩) N16 N16) N16 (es.flatMap encUp), .row 51 3 (.slice (some ⟨b13, 0, none⟩) N13 N13) N13 (es.flatMap encUp)] w := O.call0 K
    clear K
    have O : Own w0 [] [.row 51 3 (.slice (some ⟨b24, 0, none⟩) N24 N24) N24 (es.flatMap encUp), .row 51 3 (.slice (some ⟨b16, 0, none⟩) N16 N16) N16 (es.flatMap encUp), .row 51 3 (.slice (some ⟨b13, 0, none⟩) N13 N13) N13 (es.flatMap encUp)] w := O
    refine so F rfl (o_call (vs := #[.slice (some ⟨b16, 0, none⟩) N16 N16, .slice (some ⟨b24, 0, none⟩) N24 N24]) F Try.en_28 rfl rfl ((eqUpdateS_ok (some ⟨b16, 0, none⟩) N16 N16 es (some ⟨b24, 0, none⟩) N24 N24 es w (O.arr 1 (es := es) rfl encUp_len (by decide)) (by first | omega | (simp; omega) | (simp at *; omega)) (by omega) (O.arr 0 (es := es) rfl encUp_len (by decide)) (by first | omega | (simp; omega) | (simp at *; omega)) (by omega)).mono ?_))
    rintro e w ⟨rfl, K⟩
    refine ⟨_, rfl, fun a F => ?_⟩
    have O : Own w0 [] [.row 51 3 (.slice (some ⟨b24, 0, none⟩) N24 N24) N24 (es.flatMap encUp), .row 51 3 (.slice (some ⟨b16, 0, none⟩) N16 N16) N16 (es.flatMap encUp), .row 51 3 (.slice (some ⟨b13, 0, none⟩) N13 N13) N13 (es.flatMap encUp)] w := O.call0 K
    clear K
    have c25 : es = es := by rfl
    have F := F.setB (d := 25) rfl (decide_eq_true c25)
    have O : Own w0 [] [.row 51 3 (.slice (some ⟨b24, 0, none⟩) N24 N24) N24 (es.flatMap encUp), .row 51 3 (.slice (some ⟨b16, 0, none⟩) N16 N16) N16 (es.flatMap encUp), .row 51 3 (.slice (some ⟨b13, 0, none⟩) N13 N13) N13 (es.flatMap encUp)] w := O
    refine sp F (p_not rfl) rfl rfl fun a F => c_nil (hK12 _ _ (?_))
    try clear hK12 K12
    refine c_iff F rfl (wp_skip (hK11 _ _ (?_)))
    try clear hK11 K11
    refine c_seq fun K13 hK13 => c_region (sp F (p_assign rfl) rfl rfl fun a F => c_nil (hK13 _ _ (?_)))
    try clear hK13 K13
    refine wp_ret (ret1 F rfl rfl (?_))
    have O : Own w0 [] [] w := (O.take 0)
    exact ⟨rfl, O⟩

set_option maxRecDepth 100000 in
theorem exUpdatesValid_lifted (os : Os) (started : os.Started) (H : Type) (enc : TypeId × Value → H) :
    ReturnsInHanded {} Try.checked os 6 .any (Rows.fnExactUpdatesValidSpec.pre6 enc Try.prog Try.f6 Rows.fnExactUpdatesValidRow.domain false) (Rows.fnExactUpdatesValidSpec.post enc Try.prog Try.f6 false true false false) := by
  have e0 : Rows.fnExactUpdatesValidRow.domain = [] := rfl
  rw [e0]
  refine lifted_of (C := Try.checked) Try.facts started (by kernel_rfl) Try.func6 rfl ?_ (tb := 4) (by kernel_rfl) Try.underlying4 (by kernel_rfl)
    (ChangeSpec.witness6 (enc := enc) (C := Try.checked) false ⟨#[], #[.slice none 0 0], []⟩ 8 (by kernel_rfl) (by kernel_rfl) (by kernel_rfl) (by kernel_rfl)) ?_
  · intro ds hds
    match ds, hds with
    | [_], _ => rfl
  intro W base args ds p hval0 hA0
  have hval : ∀ (j : Nat) t v, Try.f6.params[j]? = some t → args[j]? = some v → Value.okWide Try.prog W .any base t v := hval0
  have hA : DataW.TrodAll enc Try.prog W 0 (fun _ => true) true Try.f6.params.toList args.toList ds p := hA0
  clear hA0 hval0
  show Calls Try.prog 6 args W _
  rw [Try.params6] at hA hval
  obtain ⟨v0, d0, hargs, rfl, h0⟩ := trodAll_one hA
  obtain rfl : args = #[v0] := by cases args; simp_all
  obtain ⟨a, n, c, es, rfl, hArr, hn, hb⟩ := open_upsIn (hval 0 29 v0 rfl rfl) h0
  exact (exUpdatesValid_ok a n c es W hArr hn hb).mono fun e w' h => ⟨h.1, h.2.below⟩

theorem exUpdatesValid_pkg : ¬ Check.packageOf Try.f6.name = "main" := by
  intro h
  have h2 := congrArg String.toList h
  simp only [Check.packageOf, Try.f6] at h2
  simp at h2

theorem exUpdatesValid_closed : lawFacts Try.prog 6 Try.f6 Rows.fnExactUpdatesValidSpec Rows.fnExactUpdatesValidRow = true := by kernel_rfl
theorem exUpdatesValid_facts : joinedFacts Try.pinned.checked.prog 6 Try.f6 Rows.fnExactUpdatesValidSpec Rows.fnExactUpdatesValidRow = true := facts_of (P := Try.prog) Try.facts exUpdatesValid_closed

theorem exUpdatesValid_wrap : Func.isWrapper Try.pinned.checked.prog Try.f6 Rows.fnExactUpdatesValidRow.wrapper Rows.fnExactUpdatesValidRow.mainSum := by
  have e1 : Rows.fnExactUpdatesValidRow.wrapper = false := rfl
  have e2 : Rows.fnExactUpdatesValidRow.mainSum = "" := rfl
  rw [e1, e2]
  exact wrapper_of Try.pinned.checked.prog Try.f6 exUpdatesValid_pkg

/-- The statement. -/
theorem exUpdatesValid_over : Rows.fnExactUpdatesValidRow.holds Try.pinned (OpenSpec.ofChange Rows.fnExactUpdatesValidSpec) :=
  OpenClaim.holds_of_wide 6 Try.f6 rfl rfl rfl rfl rfl rfl rfl ⟨rfl, rfl, rfl, rfl, rfl⟩ rfl rfl rfl rfl rfl (by kernel_rfl) Try.func6 exUpdatesValid_facts
    (of_decide_eq_true (by kernel_rfl)) exUpdatesValid_wrap
    (fun os started H enc _ => exUpdatesValid_lifted os started H enc)
theorem exUpdatesValid_holds : Rows.FnExactUpdatesValidSaid := exUpdatesValid_over
#print axioms exUpdatesValid_holds

end Go.Proofs.Ytilpbddeijolbaa
