/- Fewer bytes have no more records: the law FnScanPart returns true. No conditions. -/
import Derived.Test.YtklgkfknifkbaaaLCrash
import Derived.Test.YtklgkfknifkbaaaLogM
import Derived.Test.YtklgkfknifkbaaaOpenC
namespace Go.Proofs.Ytklgkfknifkbaaa
open Go.ChangeShapes Go.WideShapes Go.ChangeAt Go.RowKit
set_option linter.unusedVariables false
set_option linter.unusedSimpArgs false

set_option maxRecDepth 100000 in
/-- laws.FnScanPart -/
theorem scanPart_ok (A : Option Addr) (cn : Nat) (cc : Nat) (A2 : Option Addr) (cn2 : Nat) (cc2 : Nat) (w0 : World) (hC : CodeIn w0 A cn cc) (hC2 : CodeIn w0 A2 cn2 cc2) :
    Calls Try.prog 19 #[.slice A cn cc, .slice A2 cn2 cc2] w0 fun e w => e = .returned (.bool true) ∧ Own w0 [] [] w := by
  have O := Own.start w0
  have hcc : (cn : Int) ≤ cc := by have := hC.1; omega
  have hcm : (cc : Int) ≤ 9223372036854775807 := by have := hC.2.1; unfold maxLen at this; omega
  have hcc2 : (cn2 : Int) ≤ cc2 := by have := hC2.1; omega
  have hcm2 : (cc2 : Int) ≤ 9223372036854775807 := by have := hC2.2.1; unfold maxLen at this; omega
  refine enterO (n := 71) Try.func19 rfl rfl rfl O fun a w F O => ?_
  refine c_seq fun K1 hK1 => c_region (sp F (p_assign rfl) rfl rfl fun a F => c_nil (hK1 _ _ (?_)))
  try clear hK1 K1
  refine c_seq fun K2 hK2 => c_seq fun K3 hK3 => c_region (sp F (p_move rfl) rfl rfl fun a F => sp F (p_len_l rfl Try.underlying34) rfl rfl fun a F => sp F (p_gtr rfl rfl) rfl rfl fun a F => sp F (p_move rfl) rfl rfl fun a F => ?_)
  by_cases c15 : 1048576 < (cn : Int)
  · have F := F.setB (d := 14) rfl (decide_eq_true c15)
    have F := F.setB (d := 15) rfl (decide_eq_true c15)
    refine ss F rfl rfl fun a F => ss F rfl rfl fun a F => ss F rfl rfl fun a F => sp F (p_pick (t := true) rfl rfl) rfl rfl fun a F => c_nil (hK3 _ _ (?_))
    try clear hK3 K3
    refine c_ift F rfl (c_seq fun K4 hK4 => c_region (sp F (p_assign rfl) rfl rfl fun a F => c_nil (hK4 _ _ (?_))))
    try clear hK4 K4
    refine wp_ret (r_then (ret1 F rfl rfl (?_)))
    exact ⟨rfl, O⟩
  · have F := F.setB (d := 14) rfl (decide_eq_false c15)
    have F := F.setB (d := 15) rfl (decide_eq_false c15)
    refine sp F (p_move rfl) rfl rfl fun a F => sp F (p_len_l rfl Try.underlying34) rfl rfl fun a F => sp F (p_gtr rfl rfl) rfl rfl fun a F => sp F (p_pick (t := false) rfl rfl) rfl rfl fun a F => c_nil (hK3 _ _ (?_))
    try clear hK3 K3
    by_cases c19 : 1048576 < (cn2 : Int)
    · have F := F.setB (d := 18) rfl (decide_eq_true c19)
      have F := F.setB (d := 19) rfl (decide_eq_true c19)
      refine c_ift F rfl (c_seq fun K4 hK4 => c_region (sp F (p_assign rfl) rfl rfl fun a F => c_nil (hK4 _ _ (?_))))
      try clear hK4 K4
      refine wp_ret (r_then (ret1 F rfl rfl (?_)))
      exact ⟨rfl, O⟩
    · have F := F.setB (d := 18) rfl (decide_eq_false c19)
      have F := F.setB (d := 19) rfl (decide_eq_false c19)
      refine c_iff F rfl (wp_skip (hK2 _ _ (?_)))
      try clear hK2 K2
      refine c_seq fun K4 hK4 => c_region (sp F (p_move rfl) rfl rfl fun a F => so F rfl (o_call (vs := #[.slice A cn cc]) F Try.en_49 rfl rfl ((dLogScan_ok A cn cc w (hC.keep O)).mono ?_)))
      rintro e w ⟨l21, rfl, h21a, K⟩
      refine ⟨_, rfl, fun a F => ?_⟩
      have O : Own w0 [] [] w := O.call0 K
      clear K
      have O : Own w0 [] [] w := O
      refine sp F (p_assign rfl) rfl rfl fun a F => c_nil (hK4 _ _ (?_))
      try clear hK4 K4
      refine c_seq fun K5 hK5 => c_region (sp F (p_move rfl) rfl rfl fun a F => so F rfl (o_call (vs := #[.string (bs (l21))]) F Try.en_37 rfl rfl ((iLogScan_ok l21 w (by first | omega | (simp; done) | (simp; omega))).mono ?_)))
      rintro e w ⟨P24, N24, C24, rfl, h24a, h24b, h24c, K⟩
      refine ⟨_, rfl, fun a F => ?_⟩
      have O : Own w0 [] [.row 9 1 (.slice P24 N24 C24) N24 ((scan l21).flatMap encStr)] w := O.call0 K
      clear K
      have O : Own w0 [] [.row 9 1 (.slice P24 N24 C24) N24 ((scan l21).flatMap encStr)] w := O
      refine sp F (p_move rfl) rfl rfl fun a F => sp F (p_extract rfl rfl) rfl rfl fun a F => sp F (p_extract rfl rfl) rfl rfl fun a F => sp F (p_assign rfl) rfl rfl fun a F => sp F (p_assign rfl) rfl rfl fun a F => c_nil (hK5 _ _ (?_))
      try clear hK5 K5
      refine c_seq fun K6 hK6 => c_region (sp F (p_move rfl) rfl rfl fun a F => so F rfl (o_call (vs := #[.string (bs (l21))]) F Try.en_38 rfl rfl ((sLogScan_ok l21 w (by first | omega | (simp; done) | (simp; omega))).mono ?_)))
      rintro e w ⟨P29, N29, C29, rfl, h29a, h29b, h29c, K⟩
      refine ⟨_, rfl, fun a F => ?_⟩
      have O : Own w0 [] [.row 9 1 (.slice P29 N29 C29) N29 ((scan l21).flatMap encStr), .row 9 1 (.slice P24 N24 C24) N24 ((scan l21).flatMap encStr)] w := O.call0 K
      clear K
      have O : Own w0 [] [.row 9 1 (.slice P29 N29 C29) N29 ((scan l21).flatMap encStr), .row 9 1 (.slice P24 N24 C24) N24 ((scan l21).flatMap encStr)] w := O
      refine sp F (p_move rfl) rfl rfl fun a F => sp F (p_extract rfl rfl) rfl rfl fun a F => sp F (p_extract rfl rfl) rfl rfl fun a F => sp F (p_assign rfl) rfl rfl fun a F => sp F (p_assign rfl) rfl rfl fun a F => c_nil (hK6 _ _ (?_))
      try clear hK6 K6
      refine c_seq fun K7 hK7 => c_seq fun K8 hK8 => c_region (sp F (p_move rfl) rfl rfl fun a F => sp F (p_move rfl) rfl rfl fun a F => so F rfl (o_call (vs := #[.slice P24 N24 C24, .slice P29 N29 C29]) F Try.en_44 rfl rfl ((sameTexts_ok P24 N24 C24 (scan l21) P29 N29 C29 (scan l21) w (O.arr 1 (es := scan l21) rfl encStr_len (by decide)) (by first | omega | (simp; done) | (simp; omega) | (simp at *; omega)) (by omega) (O.arr 0 (es := scan l21) rfl encStr_len (by decide)) (by first | omega | (simp; done) | (simp; omega) | (simp at *; omega)) (by omega)).mono ?_)))
      rintro e w ⟨rfl, K⟩
      refine ⟨_, rfl, fun a F => ?_⟩
      have O : Own w0 [] [.row 9 1 (.slice P29 N29 C29) N29 ((scan l21).flatMap encStr), .row 9 1 (.slice P24 N24 C24) N24 ((scan l21).flatMap encStr)] w := O.call0 K
      clear K
      have c34 : (scan l21) = (scan l21) := by rfl
      have F := F.setB (d := 34) rfl (decide_eq_true c34)
      have O : Own w0 [] [.row 9 1 (.slice P29 N29 C29) N29 ((scan l21).flatMap encStr), .row 9 1 (.slice P24 N24 C24) N24 ((scan l21).flatMap encStr)] w := O
      refine sp F (p_not rfl) rfl rfl fun a F => sp F (p_move rfl) rfl rfl fun a F => sp F (p_move rfl) rfl rfl fun a F => sp F (p_move rfl) rfl rfl fun a F => sp F (p_neq rfl rfl) rfl rfl fun a F => ?_
      have c39 : (used (scan l21) : Int) = (used (scan l21) : Int) := by rfl
      have F := F.setB (d := 39) rfl (decide_eq_false (fun h => h c39))
      refine sp F (p_pick (t := false) rfl rfl) rfl rfl fun a F => c_nil (hK8 _ _ (?_))
      try clear hK8 K8
      refine c_iff F rfl (wp_skip (hK7 _ _ (?_)))
      try clear hK7 K7
      refine c_seq fun K9 hK9 => ?_
      have hk0 := Int.emod_nonneg (cn2 : Int) (show (l21.length : Int) + 1 ≠ 0 by omega)
      have hk1 := Int.emod_lt_of_pos (cn2 : Int) (show (0 : Int) < (l21.length : Int) + 1 by omega)
      refine c_region (sp F (p_move rfl) rfl rfl fun a F => sp F (p_move rfl) rfl rfl fun a F => sp F (p_len_l rfl Try.underlying34) rfl rfl fun a F => sp F (p_move rfl) rfl rfl fun a F => sp F (p_len_b rfl Try.underlying9) rfl rfl fun a F => sp F (p_add rfl rfl (by omega) (by omega)) rfl rfl fun a F => sp F (p_rem rfl rfl (by omega) (by omega) (by omega)) rfl rfl fun a F => sp F (p_sto rfl rfl Try.underlying9 (by omega) (by omega)) rfl rfl fun a F => so F rfl (o_call (vs := #[.string (bs (l21.take ((cn2 : Int) % ((l21.length : Int) + 1) : Int).toNat))]) F Try.en_37 rfl rfl ((iLogScan_ok (l21.take ((cn2 : Int) % ((l21.length : Int) + 1) : Int).toNat) w (by first | omega | (simp; done) | (simp; omega))).mono ?_)))
      rintro e w ⟨P50, N50, C50, rfl, h50a, h50b, h50c, K⟩
      refine ⟨_, rfl, fun a F => ?_⟩
      have O : Own w0 [] [.row 9 1 (.slice P50 N50 C50) N50 ((scan (l21.take ((cn2 : Int) % ((l21.length : Int) + 1) : Int).toNat)).flatMap encStr), .row 9 1 (.slice P29 N29 C29) N29 ((scan l21).flatMap encStr), .row 9 1 (.slice P24 N24 C24) N24 ((scan l21).flatMap encStr)] w := O.call0 K
      clear K
      have hp : scan (l21.take ((cn2 : Int) % ((l21.length : Int) + 1) : Int).toNat) <+: scan l21 := scan_prefix _ _
      have hpl := hp.length_le
      have hpu := used_prefix hp
      have hcap := O.rowCap 2 rfl
      have htk := take_of_prefix hp
      have O : Own w0 [] [.row 9 1 (.slice P50 N50 C50) N50 ((scan (l21.take ((cn2 : Int) % ((l21.length : Int) + 1) : Int).toNat)).flatMap encStr), .row 9 1 (.slice P29 N29 C29) N29 ((scan l21).flatMap encStr), .row 9 1 (.slice P24 N24 C24) N24 ((scan l21).flatMap encStr)] w := O
      refine sp F (p_move rfl) rfl rfl fun a F => sp F (p_extract rfl rfl) rfl rfl fun a F => sp F (p_extract rfl rfl) rfl rfl fun a F => sp F (p_assign rfl) rfl rfl fun a F => sp F (p_assign rfl) rfl rfl fun a F => c_nil (hK9 _ _ (?_))
      try clear hK9 K9
      refine c_seq fun K10 hK10 => c_region (sp F (p_move rfl) rfl rfl fun a F => sp F (p_len_l rfl Try.underlying40) rfl rfl fun a F => sp F (p_move rfl) rfl rfl fun a F => sp F (p_len_l rfl Try.underlying40) rfl rfl fun a F => sp F (p_leq rfl rfl) rfl rfl fun a F => ?_)
      have c57 : (N50 : Int) ≤ (N24 : Int) := by omega
      have F := F.setB (d := 57) rfl (decide_eq_true c57)
      refine sp F (p_move rfl) rfl rfl fun a F => sp F (p_move rfl) rfl rfl fun a F => sp F (p_move rfl) rfl rfl fun a F => sp F (p_move rfl) rfl rfl fun a F => sp F (p_len_l rfl Try.underlying40) rfl rfl fun a F => sp F (p_slto rfl rfl Try.underlying40 Try.sz_9 (by omega) (by omega)) rfl rfl fun a F => so F rfl (o_call (vs := #[.slice P50 N50 C50, .slice P24 (((N50 : Int) : Int).toNat) C24]) F Try.en_44 rfl rfl ((sameTexts_ok P50 N50 C50 (scan (l21.take ((cn2 : Int) % ((l21.length : Int) + 1) : Int).toNat)) P24 (((N50 : Int) : Int).toNat) C24 ((scan l21).take (((N50 : Int) : Int).toNat)) w (O.arr 0 (es := scan (l21.take ((cn2 : Int) % ((l21.length : Int) + 1) : Int).toNat)) rfl encStr_len (by decide)) (by first | omega | (simp; done) | (simp; omega) | (simp at *; omega)) (by omega) ((O.arr 2 (es := scan l21) rfl encStr_len (by decide)).take (((N50 : Int) : Int).toNat)) (by first | omega | (simp; done) | (simp; omega) | (simp at *; omega)) (by omega)).mono ?_))
      rintro e w ⟨rfl, K⟩
      refine ⟨_, rfl, fun a F => ?_⟩
      have O : Own w0 [] [.row 9 1 (.slice P50 N50 C50) N50 ((scan (l21.take ((cn2 : Int) % ((l21.length : Int) + 1) : Int).toNat)).flatMap encStr), .row 9 1 (.slice P29 N29 C29) N29 ((scan l21).flatMap encStr), .row 9 1 (.slice P24 N24 C24) N24 ((scan l21).flatMap encStr)] w := O.call0 K
      clear K
      have c64 : (scan (l21.take ((cn2 : Int) % ((l21.length : Int) + 1) : Int).toNat)) = ((scan l21).take (((N50 : Int) : Int).toNat)) := by rw [show ((N50 : Int) : Int).toNat = (scan ((l21.take ((cn2 : Int) % ((l21.length : Int) + 1) : Int).toNat))).length from by omega]; exact htk
      have F := F.setB (d := 64) rfl (decide_eq_true c64)
      have O : Own w0 [] [.row 9 1 (.slice P50 N50 C50) N50 ((scan (l21.take ((cn2 : Int) % ((l21.length : Int) + 1) : Int).toNat)).flatMap encStr), .row 9 1 (.slice P29 N29 C29) N29 ((scan l21).flatMap encStr), .row 9 1 (.slice P24 N24 C24) N24 ((scan l21).flatMap encStr)] w := O
      refine sp F (p_pick (t := true) rfl rfl) rfl rfl fun a F => sp F (p_move rfl) rfl rfl fun a F => sp F (p_move rfl) rfl rfl fun a F => sp F (p_move rfl) rfl rfl fun a F => sp F (p_leq rfl rfl) rfl rfl fun a F => ?_
      have c69 : (used (scan (l21.take ((cn2 : Int) % ((l21.length : Int) + 1) : Int).toNat)) : Int) ≤ (used (scan l21) : Int) := by omega
      have F := F.setB (d := 69) rfl (decide_eq_true c69)
      refine sp F (p_pick (t := true) rfl rfl) rfl rfl fun a F => sp F (p_assign rfl) rfl rfl fun a F => c_nil (hK10 _ _ (?_))
      try clear hK10 K10
      refine wp_ret (ret1 F rfl rfl (?_))
      have O : Own w0 [] [] w := (O.take 0)
      exact ⟨rfl, O⟩

set_option maxRecDepth 100000 in
theorem scanPart_lifted (os : Os) (started : os.Started) (H : Type) (enc : TypeId × Value → H) :
    ReturnsInHanded {} Try.checked os 19 .any (Rows.fnScanPartSpec.pre6 enc Try.prog Try.f19 Rows.fnScanPartRow.domain false) (Rows.fnScanPartSpec.post enc Try.prog Try.f19 false true false false) := by
  have e0 : Rows.fnScanPartRow.domain = [] := rfl
  rw [e0]
  refine lifted_of (C := Try.checked) Try.facts started (by kernel_rfl) Try.func19 rfl ?_ (tb := 4) (by kernel_rfl) Try.underlying4 (by kernel_rfl)
    (ChangeSpec.witness6 (enc := enc) (C := Try.checked) false ⟨#[], #[.slice none 0 0, .slice none 0 0], []⟩ 8 (by kernel_rfl) (by kernel_rfl) (by kernel_rfl) (by kernel_rfl)) ?_
  · intro ds hds
    match ds, hds with
    | [_, _], _ => rfl
  intro W base args ds p hval0 hA0
  have hval : ∀ (j : Nat) t v, Try.f19.params[j]? = some t → args[j]? = some v → Value.okWide Try.prog W .any base t v := hval0
  have hA : DataW.TrodAll enc Try.prog W 0 (fun _ => true) true Try.f19.params.toList args.toList ds p := hA0
  clear hA0 hval0
  show Calls Try.prog 19 args W _
  rw [Try.params19] at hA hval
  obtain ⟨v0, v1, d0, d1, p0, p1, hargs, rfl, rfl, h0, h1⟩ := trodAll_two hA
  obtain rfl : args = #[v0, v1] := by cases args; simp_all
  obtain ⟨a, n, c, rfl, hC⟩ := open_codeIn (hval 0 34 v0 rfl rfl) h0
  obtain ⟨a2, n2, c2, rfl, hC2⟩ := open_codeIn (hval 1 34 v1 rfl rfl) h1
  exact (scanPart_ok a n c a2 n2 c2 W hC hC2).mono fun e w' h => ⟨h.1, h.2.below⟩

theorem scanPart_pkg : ¬ Check.packageOf Try.f19.name = "main" := by
  intro h
  have h2 := congrArg String.toList h
  simp only [Check.packageOf, Try.f19] at h2
  simp at h2

theorem scanPart_closed : lawFacts Try.prog 19 Try.f19 Rows.fnScanPartSpec Rows.fnScanPartRow = true := by kernel_rfl
theorem scanPart_facts : joinedFacts Try.pinned.checked.prog 19 Try.f19 Rows.fnScanPartSpec Rows.fnScanPartRow = true := facts_of (P := Try.prog) Try.facts scanPart_closed

theorem scanPart_wrap : Func.isWrapper Try.pinned.checked.prog Try.f19 Rows.fnScanPartRow.wrapper Rows.fnScanPartRow.mainSum := by
  have e1 : Rows.fnScanPartRow.wrapper = false := rfl
  have e2 : Rows.fnScanPartRow.mainSum = "" := rfl
  rw [e1, e2]
  exact wrapper_of Try.pinned.checked.prog Try.f19 scanPart_pkg

/-- The statement. -/
theorem scanPart_over : Rows.fnScanPartRow.holds Try.pinned (OpenSpec.ofChange Rows.fnScanPartSpec) :=
  OpenClaim.holds_of_wide 19 Try.f19 rfl rfl rfl rfl rfl rfl rfl ⟨rfl, rfl, rfl, rfl, rfl⟩ rfl rfl rfl rfl rfl (by kernel_rfl) Try.func19 scanPart_facts
    (of_decide_eq_true (by kernel_rfl)) scanPart_wrap
    (fun os started H enc _ => scanPart_lifted os started H enc)
theorem scanPart_holds : Rows.FnScanPartSaid := scanPart_over
#print axioms scanPart_holds

end Go.Proofs.Ytklgkfknifkbaaa
