/- What is read is a beginning of frames: the law FnScan returns true. No conditions. -/
import Derived.Test.YtklgkfknifkbaaaLCrash
import Derived.Test.YtklgkfknifkbaaaLogM
import Derived.Test.YtklgkfknifkbaaaOpenC
namespace Go.Proofs.Ytklgkfknifkbaaa
open Go.ChangeShapes Go.WideShapes Go.ChangeAt Go.RowKit
set_option linter.unusedVariables false
set_option linter.unusedSimpArgs false

set_option maxRecDepth 100000 in
/-- laws.FnScan -/
theorem scan2_ok (A : Option Addr) (cn : Nat) (cc : Nat) (w0 : World) (hC : CodeIn w0 A cn cc) :
    Calls Try.prog 21 #[.slice A cn cc] w0 fun e w => e = .returned (.bool true) ∧ Own w0 [] [] w := by
  have O := Own.start w0
  have hcc : (cn : Int) ≤ cc := by have := hC.1; omega
  have hcm : (cc : Int) ≤ 9223372036854775807 := by have := hC.2.1; unfold maxLen at this; omega
  refine enterO (n := 52) Try.func21 rfl rfl rfl O fun a w F O => ?_
  refine c_seq fun K1 hK1 => c_region (sp F (p_assign rfl) rfl rfl fun a F => c_nil (hK1 _ _ (?_)))
  try clear hK1 K1
  refine c_seq fun K2 hK2 => c_seq fun K3 hK3 => c_region (sp F (p_move rfl) rfl rfl fun a F => sp F (p_len_l rfl Try.underlying34) rfl rfl fun a F => sp F (p_gtr rfl rfl) rfl rfl fun a F => c_nil (hK3 _ _ (?_)))
  try clear hK3 K3
  by_cases c12 : 1048576 < (cn : Int)
  · have F := F.setB (d := 12) rfl (decide_eq_true c12)
    refine c_ift F rfl (c_seq fun K4 hK4 => c_region (sp F (p_assign rfl) rfl rfl fun a F => c_nil (hK4 _ _ (?_))))
    try clear hK4 K4
    refine wp_ret (r_then (ret1 F rfl rfl (?_)))
    exact ⟨rfl, O⟩
  · have F := F.setB (d := 12) rfl (decide_eq_false c12)
    refine c_iff F rfl (wp_skip (hK2 _ _ (?_)))
    try clear hK2 K2
    refine c_seq fun K4 hK4 => c_region (sp F (p_move rfl) rfl rfl fun a F => so F rfl (o_call (vs := #[.slice A cn cc]) F Try.en_49 rfl rfl ((dLogScan_ok A cn cc w (hC.keep O)).mono ?_)))
    rintro e w ⟨l14, rfl, h14a, K⟩
    refine ⟨_, rfl, fun a F => ?_⟩
    have O : Own w0 [] [] w := O.call0 K
    clear K
    have O : Own w0 [] [] w := O
    refine sp F (p_assign rfl) rfl rfl fun a F => c_nil (hK4 _ _ (?_))
    try clear hK4 K4
    refine c_seq fun K5 hK5 => c_region (sp F (p_move rfl) rfl rfl fun a F => so F rfl (o_call (vs := #[.string (bs (l14))]) F Try.en_37 rfl rfl ((iLogScan_ok l14 w (by first | omega | (simp; done) | (simp; omega))).mono ?_)))
    rintro e w ⟨P17, N17, C17, rfl, h17a, h17b, h17c, K⟩
    refine ⟨_, rfl, fun a F => ?_⟩
    have O : Own w0 [] [.row 9 1 (.slice P17 N17 C17) N17 ((scan l14).flatMap encStr)] w := O.call0 K
    clear K
    have O : Own w0 [] [.row 9 1 (.slice P17 N17 C17) N17 ((scan l14).flatMap encStr)] w := O
    refine sp F (p_move rfl) rfl rfl fun a F => sp F (p_extract rfl rfl) rfl rfl fun a F => sp F (p_extract rfl rfl) rfl rfl fun a F => sp F (p_assign rfl) rfl rfl fun a F => sp F (p_assign rfl) rfl rfl fun a F => c_nil (hK5 _ _ (?_))
    try clear hK5 K5
    refine c_seq fun K6 hK6 => c_region (sp F (p_move rfl) rfl rfl fun a F => so F rfl (o_call (vs := #[.string (bs (l14))]) F Try.en_38 rfl rfl ((sLogScan_ok l14 w (by first | omega | (simp; done) | (simp; omega))).mono ?_)))
    rintro e w ⟨P22, N22, C22, rfl, h22a, h22b, h22c, K⟩
    refine ⟨_, rfl, fun a F => ?_⟩
    have O : Own w0 [] [.row 9 1 (.slice P22 N22 C22) N22 ((scan l14).flatMap encStr), .row 9 1 (.slice P17 N17 C17) N17 ((scan l14).flatMap encStr)] w := O.call0 K
    clear K
    have O : Own w0 [] [.row 9 1 (.slice P22 N22 C22) N22 ((scan l14).flatMap encStr), .row 9 1 (.slice P17 N17 C17) N17 ((scan l14).flatMap encStr)] w := O
    refine sp F (p_move rfl) rfl rfl fun a F => sp F (p_extract rfl rfl) rfl rfl fun a F => sp F (p_extract rfl rfl) rfl rfl fun a F => sp F (p_assign rfl) rfl rfl fun a F => sp F (p_assign rfl) rfl rfl fun a F => c_nil (hK6 _ _ (?_))
    try clear hK6 K6
    refine c_seq fun K7 hK7 => c_seq fun K8 hK8 => c_region (sp F (p_move rfl) rfl rfl fun a F => sp F (p_move rfl) rfl rfl fun a F => so F rfl (o_call (vs := #[.slice P17 N17 C17, .slice P22 N22 C22]) F Try.en_44 rfl rfl ((sameTexts_ok P17 N17 C17 (scan l14) P22 N22 C22 (scan l14) w (O.arr 1 (es := scan l14) rfl encStr_len (by decide)) (by first | omega | (simp; done) | (simp; omega) | (simp at *; omega)) (by omega) (O.arr 0 (es := scan l14) rfl encStr_len (by decide)) (by first | omega | (simp; done) | (simp; omega) | (simp at *; omega)) (by omega)).mono ?_)))
    rintro e w ⟨rfl, K⟩
    refine ⟨_, rfl, fun a F => ?_⟩
    have O : Own w0 [] [.row 9 1 (.slice P22 N22 C22) N22 ((scan l14).flatMap encStr), .row 9 1 (.slice P17 N17 C17) N17 ((scan l14).flatMap encStr)] w := O.call0 K
    clear K
    have c27 : (scan l14) = (scan l14) := by rfl
    have F := F.setB (d := 27) rfl (decide_eq_true c27)
    have O : Own w0 [] [.row 9 1 (.slice P22 N22 C22) N22 ((scan l14).flatMap encStr), .row 9 1 (.slice P17 N17 C17) N17 ((scan l14).flatMap encStr)] w := O
    refine sp F (p_not rfl) rfl rfl fun a F => sp F (p_move rfl) rfl rfl fun a F => sp F (p_move rfl) rfl rfl fun a F => sp F (p_move rfl) rfl rfl fun a F => sp F (p_neq rfl rfl) rfl rfl fun a F => ?_
    have c32 : (used (scan l14) : Int) = (used (scan l14) : Int) := by rfl
    have F := F.setB (d := 32) rfl (decide_eq_false (fun h => h c32))
    refine sp F (p_pick (t := false) rfl rfl) rfl rfl fun a F => c_nil (hK8 _ _ (?_))
    try clear hK8 K8
    refine c_iff F rfl (wp_skip (hK7 _ _ (?_)))
    try clear hK7 K7
    refine c_seq fun K9 hK9 => c_region (sp F (p_assign rfl) rfl rfl fun a F => c_nil (hK9 _ _ (?_)))
    try clear hK9 K9
    refine c_seq fun K10 hK10 => c_seq fun K11 hK11 => c_region (sp F (p_assign rfl) rfl rfl fun a F => c_nil (hK11 _ _ (?_)))
    try clear hK11 K11
    refine wp_block (?_)
    refine c_loop (fun mm a w => ∃ (i : Int), ∃ (L1 : List UInt8), mm = ((N17 : Int) - i).toNat ∧ Has 52 [(0, .slice A cn cc), (2, .bool false), (12, .bool false), (3, .string (bs (l14))), (4, .slice P17 N17 C17), (5, .int .i64 ((used (scan l14) : Int))), (6, .slice P22 N22 C22), (7, .int .i64 ((used (scan l14) : Int))), (33, .bool false), (9, .int .i64 (i)), (8, .string (bs (L1)))] a ∧ Own w0 [] [.row 9 1 (.slice P22 N22 C22) N22 ((scan l14).flatMap encStr), .row 9 1 (.slice P17 N17 C17) N17 ((scan l14).flatMap encStr)] w ∧ (0 ≤ i) ∧ (i ≤ N17) ∧ (L1 = ((scan l14).take (i : Int).toNat).flatMap frameL) ∧ ((L1.length : Int) ≤ 14 * i)) ?_ ?_
    · have F : Has 52 [(0, .slice A cn cc), (2, .bool false), (12, .bool false), (3, .string (bs (l14))), (4, .slice P17 N17 C17), (5, .int .i64 ((used (scan l14) : Int))), (6, .slice P22 N22 C22), (7, .int .i64 ((used (scan l14) : Int))), (33, .bool false), (9, .int .i64 (0)), (8, .string (bs ([])))] a := F.pick ⟨rfl, rfl, rfl, rfl, rfl, rfl, rfl, rfl, rfl, rfl, rfl, trivial⟩
      exact ⟨((N17 : Int) - 0).toNat, 0, ([]), rfl, F, O, by first | assumption | omega, by first | assumption | omega, by rfl, by simp⟩
    · rintro mm a w ⟨i, L1, rfl, F, O, hi0a, hi0b, hi0c, hi0d⟩
      refine c_seq fun K12 hK12 => c_seq fun K13 hK13 => c_region (sp F (p_move rfl) rfl rfl fun a F => sp F (p_move rfl) rfl rfl fun a F => sp F (p_len_l rfl Try.underlying40) rfl rfl fun a F => sp F (p_lss rfl rfl) rfl rfl fun a F => c_nil (hK13 _ _ (?_)))
      try clear hK13 K13
      by_cases c37 : i < (N17 : Int)
      · have F := F.setB (d := 37) rfl (decide_eq_true c37)
        refine c_ift F rfl (wp_skip (hK12 _ _ (?_)))
        try clear hK12 K12
        refine c_seq fun K14 hK14 => wp_block (c_region (sp F (p_move rfl) rfl rfl fun a F => sp F (p_move rfl) rfl rfl fun a F => sp F (p_move rfl) rfl rfl fun a F => ?_))
        obtain ⟨b43, hp43⟩ := O.rowSome 1 rfl (by omega)
        rw [hp43] at O
        try rw [hp43] at F
        obtain ⟨e43, he43⟩ := get_some (l := scan l14) (i := i) (by omega) (by first | omega | (simp; omega))
        refine sp F (p_iaddr rfl rfl Try.underlying40 Try.sz_9 (by omega) (by omega)) rfl rfl fun a F => sp F (p_load rfl Try.agg_9 (fun _ h => (ld1 ((O.loadRow 1 rfl (flat_get0 encStr_len he43 rfl))) h))) rfl rfl fun a F => so F rfl (o_call (vs := #[.string (bs (e43))]) F Try.en_30 rfl rfl ((iLogFrame_ok e43 w).mono ?_))
        rintro e w ⟨rfl, K⟩
        refine ⟨_, rfl, fun a F => ?_⟩
        have O : Own w0 [] [.row 9 1 (.slice P22 N22 C22) N22 ((scan l14).flatMap encStr), .row 9 1 (.slice (some ⟨b43, 0, none⟩) N17 C17) N17 ((scan l14).flatMap encStr)] w := O.call0 K
        clear K
        have O : Own w0 [] [.row 9 1 (.slice P22 N22 C22) N22 ((scan l14).flatMap encStr), .row 9 1 (.slice (some ⟨b43, 0, none⟩) N17 C17) N17 ((scan l14).flatMap encStr)] w := O
        refine sp F (p_cat rfl rfl (by (have hlb := lFrame_bd e43; first | omega | (simp; omega)))) rfl rfl fun a F => sp F (p_assign rfl) rfl rfl fun a F => c_nil (hK14 _ _ (?_))
        try clear hK14 K14
        refine c_region (sp F (p_move rfl) rfl rfl fun a F => sp F (p_add rfl rfl (by omega) (by omega)) rfl rfl fun a F => sp F (p_assign rfl) rfl rfl fun a F => c_nil (?_))
        obtain ⟨r0, hr0⟩ := get_some (l := scan l14) (i := i) (by omega) (by omega)
        rw [he43] at hr0; injection hr0 with hr0; subst hr0
        have hI := scan_rec l14 _ (List.mem_of_getElem? he43)
        have hR : 1 ≤ (e43.length : Int) ∧ (e43.length : Int) ≤ 12 := by have := hI.1; have := hI.2; omega
        have hlf := lFrame_len hR
        try rw [← hp43] at F
        try rw [← hp43] at O
        have F : Has 52 [(0, .slice A cn cc), (2, .bool false), (12, .bool false), (3, .string (bs (l14))), (4, .slice P17 N17 C17), (5, .int .i64 ((used (scan l14) : Int))), (6, .slice P22 N22 C22), (7, .int .i64 ((used (scan l14) : Int))), (33, .bool false), (9, .int .i64 (i + 1)), (8, .string (bs (L1 ++ (lFrame e43))))] a := F.pick ⟨rfl, rfl, rfl, rfl, rfl, rfl, rfl, rfl, rfl, rfl, rfl, trivial⟩
        exact ⟨((N17 : Int) - (i + 1)).toNat, by omega, (i + 1), (L1 ++ (lFrame e43)), rfl, F, O, by first | assumption | omega, by first | assumption | omega, by rw [take_step hi0a he43, List.flatMap_append, hi0c, lFrame_ok hR]; simp, by simp; omega⟩
      · have F := F.setB (d := 37) rfl (decide_eq_false c37)
        refine c_iff F rfl (wp_exit (e_then (e_then (e_here (hK10 _ _ (?_))))))
        try clear hK10 K10
        refine c_seq fun K14 hK14 => c_region (sp F (p_move rfl) rfl rfl fun a F => sp F (p_move rfl) rfl rfl fun a F => sp F (p_move rfl) rfl rfl fun a F => sp F (p_sto rfl rfl Try.underlying9 (by omega) (by omega)) rfl rfl fun a F => sp F (p_seq rfl rfl) rfl rfl fun a F => ?_)
        have c51 : L1 = (l14.take ((used (scan l14) : Int) : Int).toNat) := by rw [hi0c, List.take_of_length_le (by omega)]; exact flat_scan l14
        have F := F.setB (d := 51) rfl (decide_eq_true c51)
        refine sp F (p_assign rfl) rfl rfl fun a F => c_nil (hK14 _ _ (?_))
        try clear hK14 K14
        refine wp_ret (ret1 F rfl rfl (?_))
        have O : Own w0 [] [] w := (O.take 0)
        exact ⟨rfl, O⟩

set_option maxRecDepth 100000 in
theorem scan2_lifted (os : Os) (started : os.Started) (H : Type) (enc : TypeId × Value → H) :
    ReturnsInHanded {} Try.checked os 21 .any (Rows.fnScanSpec.pre6 enc Try.prog Try.f21 Rows.fnScanRow.domain false) (Rows.fnScanSpec.post enc Try.prog Try.f21 false true false false) := by
  have e0 : Rows.fnScanRow.domain = [] := rfl
  rw [e0]
  refine lifted_of (C := Try.checked) Try.facts started (by kernel_rfl) Try.func21 rfl ?_ (tb := 4) (by kernel_rfl) Try.underlying4 (by kernel_rfl)
    (ChangeSpec.witness6 (enc := enc) (C := Try.checked) false ⟨#[], #[.slice none 0 0], []⟩ 8 (by kernel_rfl) (by kernel_rfl) (by kernel_rfl) (by kernel_rfl)) ?_
  · intro ds hds
    match ds, hds with
    | [_], _ => rfl
  intro W base args ds p hval0 hA0
  have hval : ∀ (j : Nat) t v, Try.f21.params[j]? = some t → args[j]? = some v → Value.okWide Try.prog W .any base t v := hval0
  have hA : DataW.TrodAll enc Try.prog W 0 (fun _ => true) true Try.f21.params.toList args.toList ds p := hA0
  clear hA0 hval0
  show Calls Try.prog 21 args W _
  rw [Try.params21] at hA hval
  obtain ⟨v0, d0, hargs, rfl, h0⟩ := trodAll_one hA
  obtain rfl : args = #[v0] := by cases args; simp_all
  obtain ⟨a, n, c, rfl, hC⟩ := open_codeIn (hval 0 34 v0 rfl rfl) h0
  exact (scan2_ok a n c W hC).mono fun e w' h => ⟨h.1, h.2.below⟩

theorem scan2_pkg : ¬ Check.packageOf Try.f21.name = "main" := by
  intro h
  have h2 := congrArg String.toList h
  simp only [Check.packageOf, Try.f21] at h2
  simp at h2

theorem scan2_closed : lawFacts Try.prog 21 Try.f21 Rows.fnScanSpec Rows.fnScanRow = true := by kernel_rfl
theorem scan2_facts : joinedFacts Try.pinned.checked.prog 21 Try.f21 Rows.fnScanSpec Rows.fnScanRow = true := facts_of (P := Try.prog) Try.facts scan2_closed

theorem scan2_wrap : Func.isWrapper Try.pinned.checked.prog Try.f21 Rows.fnScanRow.wrapper Rows.fnScanRow.mainSum := by
  have e1 : Rows.fnScanRow.wrapper = false := rfl
  have e2 : Rows.fnScanRow.mainSum = "" := rfl
  rw [e1, e2]
  exact wrapper_of Try.pinned.checked.prog Try.f21 scan2_pkg

/-- The statement. -/
theorem scan2_over : Rows.fnScanRow.holds Try.pinned (OpenSpec.ofChange Rows.fnScanSpec) :=
  OpenClaim.holds_of_wide 21 Try.f21 rfl rfl rfl rfl rfl rfl rfl ⟨rfl, rfl, rfl, rfl, rfl⟩ rfl rfl rfl rfl rfl (by kernel_rfl) Try.func21 scan2_facts
    (of_decide_eq_true (by kernel_rfl)) scan2_wrap
    (fun os started H enc _ => scan2_lifted os started H enc)
theorem scan2_holds : Rows.FnScanSaid := scan2_over
#print axioms scan2_holds

end Go.Proofs.Ytklgkfknifkbaaa
