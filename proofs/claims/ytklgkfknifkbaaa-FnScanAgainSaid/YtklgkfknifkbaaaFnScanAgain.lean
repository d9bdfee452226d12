/- Reading what was read gives the same: the law FnScanAgain returns true. No conditions. -/
import Derived.Test.YtklgkfknifkbaaaLCrash
import Derived.Test.YtklgkfknifkbaaaLogM
import Derived.Test.YtklgkfknifkbaaaOpenC
namespace Go.Proofs.Ytklgkfknifkbaaa
open Go.ChangeShapes Go.WideShapes Go.ChangeAt Go.RowKit
set_option linter.unusedVariables false
set_option linter.unusedSimpArgs false

set_option maxRecDepth 100000 in
/-- laws.FnScanAgain -/
theorem scanAgain_ok (A : Option Addr) (cn : Nat) (cc : Nat) (w0 : World) (hC : CodeIn w0 A cn cc) :
    Calls Try.prog 18 #[.slice A cn cc] w0 fun e w => e = .returned (.bool true) ∧ Own w0 [] [] w := by
  have O := Own.start w0
  have hcc : (cn : Int) ≤ cc := by have := hC.1; omega
  have hcm : (cc : Int) ≤ 9223372036854775807 := by have := hC.2.1; unfold maxLen at this; omega
  refine enterO (n := 49) Try.func18 rfl rfl rfl O fun a w F O => ?_
  refine c_seq fun K1 hK1 => c_region (sp F (p_assign rfl) rfl rfl fun a F => c_nil (hK1 _ _ (?_)))
  try clear hK1 K1
  refine c_seq fun K2 hK2 => c_seq fun K3 hK3 => c_region (sp F (p_move rfl) rfl rfl fun a F => sp F (p_len_l rfl Try.underlying34) rfl rfl fun a F => sp F (p_gtr rfl rfl) rfl rfl fun a F => c_nil (hK3 _ _ (?_)))
  try clear hK3 K3
  by_cases c12 : 1048576 < (cn : Int)
  · have F := F.setB (d := 12) rfl (decide_eq_true c12)
    refine c_ift F rfl (c_seq fun K4 hK4 => c_region (sp F (p_assign rfl) rfl rfl fun a F => c_nil (hK4 _ _ (?_))))
    try clear hK4 K4
    refine wp_ret (r_then (ret1 F rfl rfl (?_)))
    exact ⟨rfl, O⟩
  · have F := F.setB (d := 12) rfl (decide_eq_false c12)
    refine c_iff F rfl (wp_skip (hK2 _ _ (?_)))
    try clear hK2 K2
    refine c_seq fun K4 hK4 => c_region (sp F (p_move rfl) rfl rfl fun a F => so F rfl (o_call (vs := #[.slice A cn cc]) F Try.en_49 rfl rfl ((dLogScan_ok A cn cc w (hC.keep O)).mono ?_)))
    rintro e w ⟨l14, rfl, h14a, K⟩
    refine ⟨_, rfl, fun a F => ?_⟩
    have O : Own w0 [] [] w := O.call0 K
    clear K
    have O : Own w0 [] [] w := O
    refine sp F (p_assign rfl) rfl rfl fun a F => c_nil (hK4 _ _ (?_))
    try clear hK4 K4
    refine c_seq fun K5 hK5 => c_region (sp F (p_move rfl) rfl rfl fun a F => so F rfl (o_call (vs := #[.string (bs (l14))]) F Try.en_37 rfl rfl ((iLogScan_ok l14 w (by first | omega | (simp; done) | (simp; omega))).mono ?_)))
    rintro e w ⟨P17, N17, C17, rfl, h17a, h17b, h17c, K⟩
    refine ⟨_, rfl, fun a F => ?_⟩
    have O : Own w0 [] [.row 9 1 (.slice P17 N17 C17) N17 ((scan l14).flatMap encStr)] w := O.call0 K
    clear K
    have O : Own w0 [] [.row 9 1 (.slice P17 N17 C17) N17 ((scan l14).flatMap encStr)] w := O
    refine sp F (p_move rfl) rfl rfl fun a F => sp F (p_extract rfl rfl) rfl rfl fun a F => sp F (p_extract rfl rfl) rfl rfl fun a F => sp F (p_assign rfl) rfl rfl fun a F => sp F (p_assign rfl) rfl rfl fun a F => c_nil (hK5 _ _ (?_))
    try clear hK5 K5
    refine c_seq fun K6 hK6 => c_region (sp F (p_move rfl) rfl rfl fun a F => so F rfl (o_call (vs := #[.string (bs (l14))]) F Try.en_38 rfl rfl ((sLogScan_ok l14 w (by first | omega | (simp; done) | (simp; omega))).mono ?_)))
    rintro e w ⟨P22, N22, C22, rfl, h22a, h22b, h22c, K⟩
    refine ⟨_, rfl, fun a F => ?_⟩
    have O : Own w0 [] [.row 9 1 (.slice P22 N22 C22) N22 ((scan l14).flatMap encStr), .row 9 1 (.slice P17 N17 C17) N17 ((scan l14).flatMap encStr)] w := O.call0 K
    clear K
    have O : Own w0 [] [.row 9 1 (.slice P22 N22 C22) N22 ((scan l14).flatMap encStr), .row 9 1 (.slice P17 N17 C17) N17 ((scan l14).flatMap encStr)] w := O
    refine sp F (p_move rfl) rfl rfl fun a F => sp F (p_extract rfl rfl) rfl rfl fun a F => sp F (p_extract rfl rfl) rfl rfl fun a F => sp F (p_assign rfl) rfl rfl fun a F => sp F (p_assign rfl) rfl rfl fun a F => c_nil (hK6 _ _ (?_))
    try clear hK6 K6
    refine c_seq fun K7 hK7 => c_seq fun K8 hK8 => c_region (sp F (p_move rfl) rfl rfl fun a F => sp F (p_move rfl) rfl rfl fun a F => so F rfl (o_call (vs := #[.slice P17 N17 C17, .slice P22 N22 C22]) F Try.en_44 rfl rfl ((sameTexts_ok P17 N17 C17 (scan l14) P22 N22 C22 (scan l14) w (O.arr 1 (es := scan l14) rfl encStr_len (by decide)) (by first | omega | (simp; done) | (simp; omega) | (simp at *; omega)) (by omega) (O.arr 0 (es := scan l14) rfl encStr_len (by decide)) (by first | omega | (simp; done) | (simp; omega) | (simp at *; omega)) (by omega)).mono ?_)))
    rintro e w ⟨rfl, K⟩
    refine ⟨_, rfl, fun a F => ?_⟩
    have O : Own w0 [] [.row 9 1 (.slice P22 N22 C22) N22 ((scan l14).flatMap encStr), .row 9 1 (.slice P17 N17 C17) N17 ((scan l14).flatMap encStr)] w := O.call0 K
    clear K
    have c27 : (scan l14) = (scan l14) := by rfl
    have F := F.setB (d := 27) rfl (decide_eq_true c27)
    have O : Own w0 [] [.row 9 1 (.slice P22 N22 C22) N22 ((scan l14).flatMap encStr), .row 9 1 (.slice P17 N17 C17) N17 ((scan l14).flatMap encStr)] w := O
    refine sp F (p_not rfl) rfl rfl fun a F => sp F (p_move rfl) rfl rfl fun a F => sp F (p_move rfl) rfl rfl fun a F => sp F (p_move rfl) rfl rfl fun a F => sp F (p_neq rfl rfl) rfl rfl fun a F => ?_
    have c32 : (used (scan l14) : Int) = (used (scan l14) : Int) := by rfl
    have F := F.setB (d := 32) rfl (decide_eq_false (fun h => h c32))
    refine sp F (p_pick (t := false) rfl rfl) rfl rfl fun a F => c_nil (hK8 _ _ (?_))
    try clear hK8 K8
    refine c_iff F rfl (wp_skip (hK7 _ _ (?_)))
    try clear hK7 K7
    refine c_seq fun K9 hK9 => ?_
    have hlt := List.length_take (l := l14) (i := ((used (scan l14) : Int) : Int).toNat)
    refine c_region (sp F (p_move rfl) rfl rfl fun a F => sp F (p_move rfl) rfl rfl fun a F => sp F (p_sto rfl rfl Try.underlying9 (by omega) (by omega)) rfl rfl fun a F => so F rfl (o_call (vs := #[.string (bs (l14.take ((used (scan l14) : Int) : Int).toNat))]) F Try.en_37 rfl rfl ((iLogScan_ok (l14.take ((used (scan l14) : Int) : Int).toNat) w (by first | omega | (simp; done) | (simp; omega))).mono ?_)))
    rintro e w ⟨P38, N38, C38, rfl, h38a, h38b, h38c, K⟩
    refine ⟨_, rfl, fun a F => ?_⟩
    have O : Own w0 [] [.row 9 1 (.slice P38 N38 C38) N38 ((scan (l14.take ((used (scan l14) : Int) : Int).toNat)).flatMap encStr), .row 9 1 (.slice P22 N22 C22) N22 ((scan l14).flatMap encStr), .row 9 1 (.slice P17 N17 C17) N17 ((scan l14).flatMap encStr)] w := O.call0 K
    clear K
    have O : Own w0 [] [.row 9 1 (.slice P38 N38 C38) N38 ((scan (l14.take ((used (scan l14) : Int) : Int).toNat)).flatMap encStr), .row 9 1 (.slice P22 N22 C22) N22 ((scan l14).flatMap encStr), .row 9 1 (.slice P17 N17 C17) N17 ((scan l14).flatMap encStr)] w := O
    refine sp F (p_move rfl) rfl rfl fun a F => sp F (p_extract rfl rfl) rfl rfl fun a F => sp F (p_extract rfl rfl) rfl rfl fun a F => sp F (p_assign rfl) rfl rfl fun a F => sp F (p_assign rfl) rfl rfl fun a F => c_nil (hK9 _ _ (?_))
    try clear hK9 K9
    refine c_seq fun K10 hK10 => c_region (sp F (p_move rfl) rfl rfl fun a F => sp F (p_move rfl) rfl rfl fun a F => so F rfl (o_call (vs := #[.slice P38 N38 C38, .slice P17 N17 C17]) F Try.en_44 rfl rfl ((sameTexts_ok P38 N38 C38 (scan (l14.take ((used (scan l14) : Int) : Int).toNat)) P17 N17 C17 (scan l14) w (O.arr 0 (es := scan (l14.take ((used (scan l14) : Int) : Int).toNat)) rfl encStr_len (by decide)) (by first | omega | (simp; done) | (simp; omega) | (simp at *; omega)) (by omega) (O.arr 2 (es := scan l14) rfl encStr_len (by decide)) (by first | omega | (simp; done) | (simp; omega) | (simp at *; omega)) (by omega)).mono ?_)))
    rintro e w ⟨rfl, K⟩
    refine ⟨_, rfl, fun a F => ?_⟩
    have O : Own w0 [] [.row 9 1 (.slice P38 N38 C38) N38 ((scan (l14.take ((used (scan l14) : Int) : Int).toNat)).flatMap encStr), .row 9 1 (.slice P22 N22 C22) N22 ((scan l14).flatMap encStr), .row 9 1 (.slice P17 N17 C17) N17 ((scan l14).flatMap encStr)] w := O.call0 K
    clear K
    have c43 : (scan (l14.take ((used (scan l14) : Int) : Int).toNat)) = (scan l14) := by exact scan_again l14
    have F := F.setB (d := 43) rfl (decide_eq_true c43)
    have O : Own w0 [] [.row 9 1 (.slice P38 N38 C38) N38 ((scan (l14.take ((used (scan l14) : Int) : Int).toNat)).flatMap encStr), .row 9 1 (.slice P22 N22 C22) N22 ((scan l14).flatMap encStr), .row 9 1 (.slice P17 N17 C17) N17 ((scan l14).flatMap encStr)] w := O
    refine sp F (p_move rfl) rfl rfl fun a F => sp F (p_move rfl) rfl rfl fun a F => sp F (p_move rfl) rfl rfl fun a F => sp F (p_eql rfl rfl) rfl rfl fun a F => ?_
    have c47 : (used (scan (l14.take ((used (scan l14) : Int) : Int).toNat)) : Int) = (used (scan l14) : Int) := by exact congrArg (fun z => ((used z : Nat) : Int)) (scan_again l14)
    have F := F.setB (d := 47) rfl (decide_eq_true c47)
    refine sp F (p_pick (t := true) rfl rfl) rfl rfl fun a F => sp F (p_assign rfl) rfl rfl fun a F => c_nil (hK10 _ _ (?_))
    try clear hK10 K10
    refine wp_ret (ret1 F rfl rfl (?_))
    have O : Own w0 [] [] w := (O.take 0)
    exact ⟨rfl, O⟩

set_option maxRecDepth 100000 in
theorem scanAgain_lifted (os : Os) (started : os.Started) (H : Type) (enc : TypeId × Value → H) :
    ReturnsInHanded {} Try.checked os 18 .any (Rows.fnScanAgainSpec.pre6 enc Try.prog Try.f18 Rows.fnScanAgainRow.domain false) (Rows.fnScanAgainSpec.post enc Try.prog Try.f18 false true false false) := by
  have e0 : Rows.fnScanAgainRow.domain = [] := rfl
  rw [e0]
  refine lifted_of (C := Try.checked) Try.facts started (by kernel_rfl) Try.func18 rfl ?_ (tb := 4) (by kernel_rfl) Try.underlying4 (by kernel_rfl)
    (ChangeSpec.witness6 (enc := enc) (C := Try.checked) false ⟨#[], #[.slice none 0 0], []⟩ 8 (by kernel_rfl) (by kernel_rfl) (by kernel_rfl) (by kernel_rfl)) ?_
  · intro ds hds
    match ds, hds with
    | [_], _ => rfl
  intro W base args ds p hval0 hA0
  have hval : ∀ (j : Nat) t v, Try.f18.params[j]? = some t → args[j]? = some v → Value.okWide Try.prog W .any base t v := hval0
  have hA : DataW.TrodAll enc Try.prog W 0 (fun _ => true) true Try.f18.params.toList args.toList ds p := hA0
  clear hA0 hval0
  show Calls Try.prog 18 args W _
  rw [Try.params18] at hA hval
  obtain ⟨v0, d0, hargs, rfl, h0⟩ := trodAll_one hA
  obtain rfl : args = #[v0] := by cases args; simp_all
  obtain ⟨a, n, c, rfl, hC⟩ := open_codeIn (hval 0 34 v0 rfl rfl) h0
  exact (scanAgain_ok a n c W hC).mono fun e w' h => ⟨h.1, h.2.below⟩

theorem scanAgain_pkg : ¬ Check.packageOf Try.f18.name = "main" := by
  intro h
  have h2 := congrArg String.toList h
  simp only [Check.packageOf, Try.f18] at h2
  simp at h2

theorem scanAgain_closed : lawFacts Try.prog 18 Try.f18 Rows.fnScanAgainSpec Rows.fnScanAgainRow = true := by kernel_rfl
theorem scanAgain_facts : joinedFacts Try.pinned.checked.prog 18 Try.f18 Rows.fnScanAgainSpec Rows.fnScanAgainRow = true := facts_of (P := Try.prog) Try.facts scanAgain_closed

theorem scanAgain_wrap : Func.isWrapper Try.pinned.checked.prog Try.f18 Rows.fnScanAgainRow.wrapper Rows.fnScanAgainRow.mainSum := by
  have e1 : Rows.fnScanAgainRow.wrapper = false := rfl
  have e2 : Rows.fnScanAgainRow.mainSum = "" := rfl
  rw [e1, e2]
  exact wrapper_of Try.pinned.checked.prog Try.f18 scanAgain_pkg

/-- The statement. -/
theorem scanAgain_over : Rows.fnScanAgainRow.holds Try.pinned (OpenSpec.ofChange Rows.fnScanAgainSpec) :=
  OpenClaim.holds_of_wide 18 Try.f18 rfl rfl rfl rfl rfl rfl rfl ⟨rfl, rfl, rfl, rfl, rfl⟩ rfl rfl rfl rfl rfl (by kernel_rfl) Try.func18 scanAgain_facts
    (of_decide_eq_true (by kernel_rfl)) scanAgain_wrap
    (fun os started H enc _ => scanAgain_lifted os started H enc)
theorem scanAgain_holds : Rows.FnScanAgainSaid := scanAgain_over
#print axioms scanAgain_holds

end Go.Proofs.Ytklgkfknifkbaaa
