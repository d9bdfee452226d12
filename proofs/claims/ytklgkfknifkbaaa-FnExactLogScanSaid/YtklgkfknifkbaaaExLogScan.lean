/- The law FnExactLogScan returns true for every argument. No conditions. -/
import Derived.Test.YtklgkfknifkbaaaLCrash
import Derived.ChangeMaps5
namespace Go.Proofs.Ytklgkfknifkbaaa
open Go.ChangeShapes Go.WideShapes Go.ChangeAt Go.RowKit
set_option linter.unusedVariables false
set_option linter.unusedSimpArgs false

set_option maxRecDepth 100000 in
/-- laws.FnExactLogScan -/
theorem exLogScan_ok (l : List UInt8) (w0 : World) (hb : (l.length : Int) ≤ 9223372036854775807) :
    Calls Try.prog 11 #[.string (bs (l))] w0 fun e w => e = .returned (.bool true) ∧ Own w0 [] [] w := by
  have O := Own.start w0
  refine enterO (n := 66) Try.func11 rfl rfl rfl O fun a w F O => ?_
  refine c_seq fun K1 hK1 => c_region (sp F (p_assign rfl) rfl rfl fun a F => c_nil (hK1 _ _ (?_)))
  try clear hK1 K1
  refine c_seq fun K2 hK2 => c_seq fun K3 hK3 => c_region (sp F (p_move rfl) rfl rfl fun a F => sp F (p_len_b rfl Try.underlying9) rfl rfl fun a F => sp F (p_gtr rfl rfl) rfl rfl fun a F => c_nil (hK3 _ _ (?_)))
  try clear hK3 K3
  by_cases c13 : 1048576 < (l.length : Int)
  · have F := F.setB (d := 13) rfl (decide_eq_true c13)
    refine c_ift F rfl (c_seq fun K4 hK4 => c_region (sp F (p_assign rfl) rfl rfl fun a F => c_nil (hK4 _ _ (?_))))
    try clear hK4 K4
    refine wp_ret (r_then (ret1 F rfl rfl (?_)))
    exact ⟨rfl, O⟩
  · have F := F.setB (d := 13) rfl (decide_eq_false c13)
    refine c_iff F rfl (wp_skip (hK2 _ _ (?_)))
    try clear hK2 K2
    refine c_seq fun K4 hK4 => c_region (sp F (p_move rfl) rfl rfl fun a F => so F rfl (o_call (vs := #[.string (bs (l))]) F Try.en_38 rfl rfl ((sLogScan_ok l w (by first | omega | (simp; done) | (simp; omega))).mono ?_)))
    rintro e w ⟨P16, N16, C16, rfl, h16a, h16b, h16c, K⟩
    refine ⟨_, rfl, fun a F => ?_⟩
    have O : Own w0 [] [.row 9 1 (.slice P16 N16 C16) N16 ((scan l).flatMap encStr)] w := O.call0 K
    clear K
    have O : Own w0 [] [.row 9 1 (.slice P16 N16 C16) N16 ((scan l).flatMap encStr)] w := O
    refine sp F (p_move rfl) rfl rfl fun a F => sp F (p_extract rfl rfl) rfl rfl fun a F => sp F (p_extract rfl rfl) rfl rfl fun a F => sp F (p_assign rfl) rfl rfl fun a F => sp F (p_assign rfl) rfl rfl fun a F => c_nil (hK4 _ _ (?_))
    try clear hK4 K4
    refine c_seq fun K5 hK5 => c_region (sp F (p_move rfl) rfl rfl fun a F => so F rfl (o_call (vs := #[.string (bs (l))]) F Try.en_37 rfl rfl ((iLogScan_ok l w (by first | omega | (simp; done) | (simp; omega))).mono ?_)))
    rintro e w ⟨P21, N21, C21, rfl, h21a, h21b, h21c, K⟩
    refine ⟨_, rfl, fun a F => ?_⟩
    have O : Own w0 [] [.row 9 1 (.slice P21 N21 C21) N21 ((scan l).flatMap encStr), .row 9 1 (.slice P16 N16 C16) N16 ((scan l).flatMap encStr)] w := O.call0 K
    clear K
    have O : Own w0 [] [.row 9 1 (.slice P21 N21 C21) N21 ((scan l).flatMap encStr), .row 9 1 (.slice P16 N16 C16) N16 ((scan l).flatMap encStr)] w := O
    refine sp F (p_move rfl) rfl rfl fun a F => sp F (p_extract rfl rfl) rfl rfl fun a F => sp F (p_extract rfl rfl) rfl rfl fun a F => sp F (p_assign rfl) rfl rfl fun a F => sp F (p_assign rfl) rfl rfl fun a F => c_nil (hK5 _ _ (?_))
    try clear hK5 K5
    refine c_seq fun K6 hK6 => c_seq fun K7 hK7 => c_region (sp F (p_move rfl) rfl rfl fun a F => sp F (p_move rfl) rfl rfl fun a F => so F rfl (o_call (vs := #[.slice P21 N21 C21, .slice P16 N16 C16]) F Try.en_39 rfl rfl ((eqStringS_ok P21 N21 C21 (scan l) P16 N16 C16 (scan l) w (O.arr 0 (es := scan l) rfl encStr_len (by decide)) (by first | omega | (simp; done) | (simp; omega) | (simp at *; omega)) (by omega) (O.arr 1 (es := scan l) rfl encStr_len (by decide)) (by first | omega | (simp; done) | (simp; omega) | (simp at *; omega)) (by omega)).mono ?_)))
    rintro e w ⟨rfl, K⟩
    refine ⟨_, rfl, fun a F => ?_⟩
    have O : Own w0 [] [.row 9 1 (.slice P21 N21 C21) N21 ((scan l).flatMap encStr), .row 9 1 (.slice P16 N16 C16) N16 ((scan l).flatMap encStr)] w := O.call0 K
    clear K
    have c26 : (scan l) = (scan l) := by rfl
    have F := F.setB (d := 26) rfl (decide_eq_true c26)
    have O : Own w0 [] [.row 9 1 (.slice P21 N21 C21) N21 ((scan l).flatMap encStr), .row 9 1 (.slice P16 N16 C16) N16 ((scan l).flatMap encStr)] w := O
    refine sp F (p_not rfl) rfl rfl fun a F => sp F (p_move rfl) rfl rfl fun a F => sp F (p_move rfl) rfl rfl fun a F => sp F (p_move rfl) rfl rfl fun a F => sp F (p_neq rfl rfl) rfl rfl fun a F => ?_
    have c31 : (used (scan l) : Int) = (used (scan l) : Int) := by omega
    have F := F.setB (d := 31) rfl (decide_eq_false (fun h => h c31))
    refine sp F (p_pick (t := false) rfl rfl) rfl rfl fun a F => c_nil (hK7 _ _ (?_))
    try clear hK7 K7
    refine c_iff F rfl (wp_skip (hK6 _ _ (?_)))
    try clear hK6 K6
    refine c_seq fun K8 hK8 => c_region (sp F (p_assign rfl) rfl rfl fun a F => c_nil (hK8 _ _ (?_)))
    try clear hK8 K8
    refine c_seq fun K9 hK9 => c_region (sp F (p_move rfl) rfl rfl fun a F => sp F (p_move rfl) rfl rfl fun a F => so F rfl (o_call (vs := #[.slice P21 N21 C21, .int .i64 (1)]) F Try.en_40 rfl rfl ((markStringS P21 N21 C21 (scan l) 1 w (by first | omega | (simp; done) | (simp; omega) | (simp at *; omega)) (by omega) (by omega) (by omega) O.handR).mono ?_)))
    rintro e w ⟨es135, rfl, h35a, h35b, K⟩
    refine ⟨_, rfl, fun a F => ?_⟩
    have O : Own w0 [] [.row 9 1 (.slice P21 N21 C21) N21 (es135.flatMap encStr), .row 9 1 (.slice P16 N16 C16) N16 ((scan l).flatMap encStr)] w := O.callR K
    clear K
    have O : Own w0 [] [.row 9 1 (.slice P21 N21 C21) N21 (es135.flatMap encStr), .row 9 1 (.slice P16 N16 C16) N16 ((scan l).flatMap encStr)] w := O
    refine sp F (p_assign rfl) rfl rfl fun a F => c_nil (hK9 _ _ (?_))
    try clear hK9 K9
    refine c_seq fun K10 hK10 => c_region (sp F (p_assign rfl) rfl rfl fun a F => c_nil (hK10 _ _ (?_)))
    try clear hK10 K10
    refine c_seq fun K11 hK11 => c_region (sp F (p_move rfl) rfl rfl fun a F => sp F (p_move rfl) rfl rfl fun a F => so F rfl (o_call (vs := #[.slice P21 N21 C21, .int .i64 (1)]) F Try.en_41 rfl rfl ((heldStringS_ok P21 N21 C21 es135 1 w (O.arr 0 (es := es135) rfl encStr_len (by decide)) (by first | omega | (simp; done) | (simp; omega) | (simp at *; omega)) (by omega) (by assumption) (by omega) (by omega)).mono ?_)))
    rintro e w ⟨rfl, K⟩
    refine ⟨_, rfl, fun a F => ?_⟩
    have O : Own w0 [] [.row 9 1 (.slice P21 N21 C21) N21 (es135.flatMap encStr), .row 9 1 (.slice P16 N16 C16) N16 ((scan l).flatMap encStr)] w := O.call0 K
    clear K
    have O : Own w0 [] [.row 9 1 (.slice P21 N21 C21) N21 (es135.flatMap encStr), .row 9 1 (.slice P16 N16 C16) N16 ((scan l).flatMap encStr)] w := O
    refine sp F (p_assign rfl) rfl rfl fun a F => c_nil (hK11 _ _ (?_))
    try clear hK11 K11
    refine c_seq fun K12 hK12 => c_seq fun K13 hK13 => c_region (sp F (p_move rfl) rfl rfl fun a F => sp F (p_lss rfl rfl) rfl rfl fun a F => ?_)
    have c40 : ¬ ((1 + (N21 : Int)) < 0) := by omega
    have F := F.setB (d := 40) rfl (decide_eq_false c40)
    refine c_nil (hK13 _ _ (?_))
    try clear hK13 K13
    refine c_iff F rfl (wp_skip (hK12 _ _ (?_)))
    try clear hK12 K12
    refine c_seq fun K14 hK14 => c_seq fun K15 hK15 => c_region (sp F (p_move rfl) rfl rfl fun a F => sp F (p_move rfl) rfl rfl fun a F => sp F (p_neq rfl rfl) rfl rfl fun a F => ?_)
    have c43 : (1 + (N21 : Int)) = (1 + (N21 : Int)) := by omega
    have F := F.setB (d := 43) rfl (decide_eq_false (fun h => h c43))
    refine c_nil (hK15 _ _ (?_))
    try clear hK15 K15
    refine c_iff F rfl (wp_skip (hK14 _ _ (?_)))
    try clear hK14 K14
    refine c_seq fun K16 hK16 => c_region (sp F (p_move rfl) rfl rfl fun a F => so F rfl (o_call (vs := #[.string (bs (l))]) F Try.en_37 rfl rfl ((iLogScan_ok l w (by first | omega | (simp; done) | (simp; omega))).mono ?_)))
    rintro e w ⟨P46, N46, C46, rfl, h46a, h46b, h46c, K⟩
    refine ⟨_, rfl, fun a F => ?_⟩
    have O : Own w0 [] [.row 9 1 (.slice P46 N46 C46) N46 ((scan l).flatMap encStr), .row 9 1 (.slice P21 N21 C21) N21 (es135.flatMap encStr), .row 9 1 (.slice P16 N16 C16) N16 ((scan l).flatMap encStr)] w := O.call0 K
    clear K
    have O : Own w0 [] [.row 9 1 (.slice P46 N46 C46) N46 ((scan l).flatMap encStr), .row 9 1 (.slice P21 N21 C21) N21 (es135.flatMap encStr), .row 9 1 (.slice P16 N16 C16) N16 ((scan l).flatMap encStr)] w := O
    refine sp F (p_move rfl) rfl rfl fun a F => sp F (p_extract rfl rfl) rfl rfl fun a F => sp F (p_extract rfl rfl) rfl rfl fun a F => sp F (p_assign rfl) rfl rfl fun a F => sp F (p_assign rfl) rfl rfl fun a F => c_nil (hK16 _ _ (?_))
    try clear hK16 K16
    refine c_seq fun K17 hK17 => c_seq fun K18 hK18 => c_region (sp F (p_move rfl) rfl rfl fun a F => sp F (p_move rfl) rfl rfl fun a F => so F rfl (o_call (vs := #[.slice P46 N46 C46, .slice P16 N16 C16]) F Try.en_39 rfl rfl ((eqStringS_ok P46 N46 C46 (scan l) P16 N16 C16 (scan l) w (O.arr 0 (es := scan l) rfl encStr_len (by decide)) (by first | omega | (simp; done) | (simp; omega) | (simp at *; omega)) (by omega) (O.arr 2 (es := scan l) rfl encStr_len (by decide)) (by first | omega | (simp; done) | (simp; omega) | (simp at *; omega)) (by omega)).mono ?_)))
    rintro e w ⟨rfl, K⟩
    refine ⟨_, rfl, fun a F => ?_⟩
    have O : Own w0 [] [.row 9 1 (.slice P46 N46 C46) N46 ((scan l).flatMap encStr), .row 9 1 (.slice P21 N21 C21) N21 (es135.flatMap encStr), .row 9 1 (.slice P16 N16 C16) N16 ((scan l).flatMap encStr)] w := O.call0 K
    clear K
    have F := F.setB (d := 51) rfl (decide_eq_true c26)
    have O : Own w0 [] [.row 9 1 (.slice P46 N46 C46) N46 ((scan l).flatMap encStr), .row 9 1 (.slice P21 N21 C21) N21 (es135.flatMap encStr), .row 9 1 (.slice P16 N16 C16) N16 ((scan l).flatMap encStr)] w := O
    refine sp F (p_not rfl) rfl rfl fun a F => sp F (p_move rfl) rfl rfl fun a F => sp F (p_move rfl) rfl rfl fun a F => sp F (p_move rfl) rfl rfl fun a F => sp F (p_neq rfl rfl) rfl rfl fun a F => ?_
    have F := F.setB (d := 56) rfl (decide_eq_false (fun h => h c31))
    refine sp F (p_pick (t := false) rfl rfl) rfl rfl fun a F => c_nil (hK18 _ _ (?_))
    try clear hK18 K18
    refine c_iff F rfl (wp_skip (hK17 _ _ (?_)))
    try clear hK17 K17
    refine c_seq fun K19 hK19 => c_region (sp F (p_assign rfl) rfl rfl fun a F => c_nil (hK19 _ _ (?_)))
    try clear hK19 K19
    refine c_seq fun K20 hK20 => c_region (sp F (p_move rfl) rfl rfl fun a F => sp F (p_move rfl) rfl rfl fun a F => so F rfl (o_call (vs := #[.slice P21 N21 C21, .int .i64 (1)]) F Try.en_41 rfl rfl ((heldStringS_ok P21 N21 C21 es135 1 w (O.arr 1 (es := es135) rfl encStr_len (by decide)) (by first | omega | (simp; done) | (simp; omega) | (simp at *; omega)) (by omega) (by assumption) (by omega) (by omega)).mono ?_)))
    rintro e w ⟨rfl, K⟩
    refine ⟨_, rfl, fun a F => ?_⟩
    have O : Own w0 [] [.row 9 1 (.slice P46 N46 C46) N46 ((scan l).flatMap encStr), .row 9 1 (.slice P21 N21 C21) N21 (es135.flatMap encStr), .row 9 1 (.slice P16 N16 C16) N16 ((scan l).flatMap encStr)] w := O.call0 K
    clear K
    have O : Own w0 [] [.row 9 1 (.slice P46 N46 C46) N46 ((scan l).flatMap encStr), .row 9 1 (.slice P21 N21 C21) N21 (es135.flatMap encStr), .row 9 1 (.slice P16 N16 C16) N16 ((scan l).flatMap encStr)] w := O
    refine sp F (p_assign rfl) rfl rfl fun a F => c_nil (hK20 _ _ (?_))
    try clear hK20 K20
    refine c_seq fun K21 hK21 => c_seq fun K22 hK22 => c_region (sp F (p_move rfl) rfl rfl fun a F => sp F (p_lss rfl rfl) rfl rfl fun a F => ?_)
    have F := F.setB (d := 62) rfl (decide_eq_false c40)
    refine c_nil (hK22 _ _ (?_))
    try clear hK22 K22
    refine c_iff F rfl (wp_skip (hK21 _ _ (?_)))
    try clear hK21 K21
    refine c_seq fun K23 hK23 => c_seq fun K24 hK24 => c_region (sp F (p_move rfl) rfl rfl fun a F => sp F (p_move rfl) rfl rfl fun a F => sp F (p_neq rfl rfl) rfl rfl fun a F => ?_)
    have F := F.setB (d := 65) rfl (decide_eq_false (fun h => h c43))
    refine c_nil (hK24 _ _ (?_))
    try clear hK24 K24
    refine c_iff F rfl (wp_skip (hK23 _ _ (?_)))
    try clear hK23 K23
    refine c_seq fun K25 hK25 => c_region (sp F (p_assign rfl) rfl rfl fun a F => c_nil (hK25 _ _ (?_)))
    try clear hK25 K25
    refine wp_ret (ret1 F rfl rfl (?_))
    have O : Own w0 [] [] w := (O.take 0)
    exact ⟨rfl, O⟩

set_option maxRecDepth 100000 in
theorem exLogScan_lifted (os : Os) (started : os.Started) (H : Type) (enc : TypeId × Value → H) :
    ReturnsInHanded {} Try.checked os 11 .any (Rows.fnExactLogScanSpec.pre6 enc Try.prog Try.f11 Rows.fnExactLogScanRow.domain false) (Rows.fnExactLogScanSpec.post enc Try.prog Try.f11 false true false false) := by
  have e0 : Rows.fnExactLogScanRow.domain = [] := rfl
  rw [e0]
  refine lifted_of (C := Try.checked) Try.facts started (by kernel_rfl) Try.func11 rfl ?_ (tb := 4) (by kernel_rfl) Try.underlying4 (by kernel_rfl)
    (ChangeSpec.witness6 (enc := enc) (C := Try.checked) false ⟨#[], #[.string ByteArray.empty], []⟩ 8 (by kernel_rfl) (by kernel_rfl) (by kernel_rfl) (by kernel_rfl)) ?_
  · intro ds hds
    match ds, hds with
    | [_], _ => rfl
  intro W base args ds p hval0 hA0
  have hval : ∀ (j : Nat) t v, Try.f11.params[j]? = some t → args[j]? = some v → Value.okWide Try.prog W .any base t v := hval0
  have hA : DataW.TrodAll enc Try.prog W 0 (fun _ => true) true Try.f11.params.toList args.toList ds p := hA0
  clear hA0 hval0
  show Calls Try.prog 11 args W _
  rw [Try.params11] at hA hval
  obtain ⟨v0, d0, hargs, rfl, h0⟩ := trodAll_one hA
  obtain rfl : args = #[v0] := by cases args; simp_all
  obtain ⟨s, rfl, _, _, hs⟩ := Go.ChangeMaps.open_string Try.underlying9 (hval 0 9 v0 rfl rfl) h0
  rw [bs_of s] at hs ⊢
  exact (exLogScan_ok _ W (by rw [bs_size] at hs; unfold maxLen at hs; omega)).mono fun e w' h => ⟨h.1, h.2.below⟩

theorem exLogScan_pkg : ¬ Check.packageOf Try.f11.name = "main" := by
  intro h
  have h2 := congrArg String.toList h
  simp only [Check.packageOf, Try.f11] at h2
  simp at h2

theorem exLogScan_closed : lawFacts Try.prog 11 Try.f11 Rows.fnExactLogScanSpec Rows.fnExactLogScanRow = true := by kernel_rfl
theorem exLogScan_facts : joinedFacts Try.pinned.checked.prog 11 Try.f11 Rows.fnExactLogScanSpec Rows.fnExactLogScanRow = true := facts_of (P := Try.prog) Try.facts exLogScan_closed

theorem exLogScan_wrap : Func.isWrapper Try.pinned.checked.prog Try.f11 Rows.fnExactLogScanRow.wrapper Rows.fnExactLogScanRow.mainSum := by
  have e1 : Rows.fnExactLogScanRow.wrapper = false := rfl
  have e2 : Rows.fnExactLogScanRow.mainSum = "" := rfl
  rw [e1, e2]
  exact wrapper_of Try.pinned.checked.prog Try.f11 exLogScan_pkg

/-- The statement. -/
theorem exLogScan_over : Rows.fnExactLogScanRow.holds Try.pinned (OpenSpec.ofChange Rows.fnExactLogScanSpec) :=
  OpenClaim.holds_of_wide 11 Try.f11 rfl rfl rfl rfl rfl rfl rfl ⟨rfl, rfl, rfl, rfl, rfl⟩ rfl rfl rfl rfl rfl (by kernel_rfl) Try.func11 exLogScan_facts
    (of_decide_eq_true (by kernel_rfl)) exLogScan_wrap
    (fun os started H enc _ => exLogScan_lifted os started H enc)
theorem exLogScan_holds : Rows.FnExactLogScanSaid := exLogScan_over
#print axioms exLogScan_holds

end Go.Proofs.Ytklgkfknifkbaaa
