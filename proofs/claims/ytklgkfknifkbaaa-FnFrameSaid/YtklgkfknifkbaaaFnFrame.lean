/- A frame is read back: the law FnFrame returns true. No conditions. -/
import Derived.Test.YtklgkfknifkbaaaLCrash
import Derived.Test.YtklgkfknifkbaaaLogM
import Derived.Test.YtklgkfknifkbaaaOpenC
namespace Go.Proofs.Ytklgkfknifkbaaa
open Go.ChangeShapes Go.WideShapes Go.ChangeAt Go.RowKit
set_option linter.unusedVariables false
set_option linter.unusedSimpArgs false

set_option maxRecDepth 100000 in
/-- laws.FnFrame -/
theorem frame2_ok (A : Option Addr) (cn : Nat) (cc : Nat) (w0 : World) (hC : CodeIn w0 A cn cc) :
    Calls Try.prog 13 #[.slice A cn cc] w0 fun e w => e = .returned (.bool true) ∧ Own w0 [] [] w := by
  have O := Own.start w0
  have hcc : (cn : Int) ≤ cc := by have := hC.1; omega
  have hcm : (cc : Int) ≤ 9223372036854775807 := by have := hC.2.1; unfold maxLen at this; omega
  refine enterO (n := 50) Try.func13 rfl rfl rfl O fun a w F O => ?_
  refine c_seq fun K1 hK1 => c_region (sp F (p_assign rfl) rfl rfl fun a F => c_nil (hK1 _ _ (?_)))
  try clear hK1 K1
  refine c_seq fun K2 hK2 => c_seq fun K3 hK3 => c_region (sp F (p_move rfl) rfl rfl fun a F => sp F (p_len_l rfl Try.underlying34) rfl rfl fun a F => sp F (p_gtr rfl rfl) rfl rfl fun a F => c_nil (hK3 _ _ (?_)))
  try clear hK3 K3
  by_cases c10 : 1048576 < (cn : Int)
  · have F := F.setB (d := 10) rfl (decide_eq_true c10)
    refine c_ift F rfl (c_seq fun K4 hK4 => c_region (sp F (p_assign rfl) rfl rfl fun a F => c_nil (hK4 _ _ (?_))))
    try clear hK4 K4
    refine wp_ret (r_then (ret1 F rfl rfl (?_)))
    exact ⟨rfl, O⟩
  · have F := F.setB (d := 10) rfl (decide_eq_false c10)
    refine c_iff F rfl (wp_skip (hK2 _ _ (?_)))
    try clear hK2 K2
    refine c_seq fun K4 hK4 => c_region (sp F (p_move rfl) rfl rfl fun a F => so F rfl (o_call (vs := #[.slice A cn cc]) F Try.en_34 rfl rfl ((dLogFrame_ok A cn cc w (hC.keep O)).mono ?_)))
    rintro e w ⟨l12, rfl, h12a, K⟩
    refine ⟨_, rfl, fun a F => ?_⟩
    have O : Own w0 [] [] w := O.call0 K
    clear K
    have O : Own w0 [] [] w := O
    refine sp F (p_assign rfl) rfl rfl fun a F => c_nil (hK4 _ _ (?_))
    try clear hK4 K4
    refine c_seq fun K5 hK5 => c_region (sp F (p_move rfl) rfl rfl fun a F => so F rfl (o_call (vs := #[.string (bs (l12))]) F Try.en_30 rfl rfl ((iLogFrame_ok l12 w).mono ?_)))
    rintro e w ⟨rfl, K⟩
    refine ⟨_, rfl, fun a F => ?_⟩
    have O : Own w0 [] [] w := O.call0 K
    clear K
    have O : Own w0 [] [] w := O
    refine sp F (p_assign rfl) rfl rfl fun a F => c_nil (hK5 _ _ (?_))
    try clear hK5 K5
    refine c_seq fun K6 hK6 => c_region (sp F (p_move rfl) rfl rfl fun a F => so F rfl (o_call (vs := #[.string (bs (l12))]) F Try.en_29 rfl rfl ((sLogFrame_ok l12 w).mono ?_)))
    rintro e w ⟨rfl, K⟩
    refine ⟨_, rfl, fun a F => ?_⟩
    have O : Own w0 [] [] w := O.call0 K
    clear K
    have O : Own w0 [] [] w := O
    refine sp F (p_assign rfl) rfl rfl fun a F => c_nil (hK6 _ _ (?_))
    try clear hK6 K6
    refine c_seq fun K7 hK7 => c_seq fun K8 hK8 => c_region (sp F (p_move rfl) rfl rfl fun a F => sp F (p_move rfl) rfl rfl fun a F => sp F (p_sneL rfl rfl false (by simp)) rfl rfl fun a F => sp F (p_move rfl) rfl rfl fun a F => sp F (p_move rfl) rfl rfl fun a F => sp F (p_seq rfl rfl) rfl rfl fun a F => sp F (p_pick (t := false) rfl rfl) rfl rfl fun a F => c_nil (hK8 _ _ (?_)))
    try clear hK8 K8
    by_cases c23 : (lFrame l12) = ([])
    · have F := F.setB (d := 22) rfl (decide_eq_true c23)
      have F := F.setB (d := 23) rfl (decide_eq_true c23)
      refine c_ift F rfl (c_seq fun K9 hK9 => c_region (sp F (p_move rfl) rfl rfl fun a F => sp F (p_move rfl) rfl rfl fun a F => sp F (p_seqL rfl rfl true (by simp)) rfl rfl fun a F => sp F (p_assign rfl) rfl rfl fun a F => c_nil (hK9 _ _ (?_))))
      try clear hK9 K9
      refine wp_ret (r_then (ret1 F rfl rfl (?_)))
      exact ⟨rfl, O⟩
    · have F := F.setB (d := 22) rfl (decide_eq_false c23)
      have F := F.setB (d := 23) rfl (decide_eq_false c23)
      refine c_iff F rfl (wp_skip (hK7 _ _ (?_)))
      try clear hK7 K7
      refine c_seq fun K9 hK9 => ?_
      have hR := rec_of c23
      have hF := lFrame_ok hR
      have hs := scan_frame (isRec_of hR)
      have hl := lFrame_len hR
      refine c_region (sp F (p_move rfl) rfl rfl fun a F => so F rfl (o_call (vs := #[.string (bs (lFrame l12))]) F Try.en_37 rfl rfl ((iLogScan_ok (lFrame l12) w (by first | omega | (simp; done) | (simp; omega))).mono ?_)))
      rintro e w ⟨P29, N29, C29, rfl, h29a, h29b, h29c, K⟩
      refine ⟨_, rfl, fun a F => ?_⟩
      have O : Own w0 [] [.row 9 1 (.slice P29 N29 C29) N29 ((scan (lFrame l12)).flatMap encStr)] w := O.call0 K
      clear K
      have O : Own w0 [] [.row 9 1 (.slice P29 N29 C29) N29 ((scan (lFrame l12)).flatMap encStr)] w := O
      refine sp F (p_move rfl) rfl rfl fun a F => sp F (p_extract rfl rfl) rfl rfl fun a F => sp F (p_extract rfl rfl) rfl rfl fun a F => sp F (p_assign rfl) rfl rfl fun a F => sp F (p_assign rfl) rfl rfl fun a F => c_nil (hK9 _ _ (?_))
      try clear hK9 K9
      refine c_seq fun K10 hK10 => c_region (sp F (p_move rfl) rfl rfl fun a F => sp F (p_move rfl) rfl rfl fun a F => so F rfl (o_bslice (cs := [.string (bs (l12))]) F O rfl Try.underlying40 Try.sz_9 Try.zero_9 rfl rfl rfl fun b34 w O a F => ?_))
      have O : Own w0 [] [.cells b34 [.string (bs (l12))] 9, .row 9 1 (.slice P29 N29 C29) N29 ((scan (lFrame l12)).flatMap encStr)] w := O
      refine so F rfl (o_call (vs := #[.slice P29 N29 C29, .slice (some ⟨b34, 0, none⟩) 1 1]) F Try.en_44 rfl rfl ((sameTexts_ok P29 N29 C29 (scan (lFrame l12)) (some ⟨b34, 0, none⟩) 1 1 ([l12]) w (O.arr 1 (es := scan (lFrame l12)) rfl encStr_len (by decide)) (by first | omega | (simp; done) | (simp; omega) | (simp at *; omega)) (by omega) (O.arrC 0 (es := [l12]) rfl encStr_len (by decide)) (by first | omega | (simp; done) | (simp; omega) | (simp at *; omega)) (by omega)).mono ?_))
      rintro e w ⟨rfl, K⟩
      refine ⟨_, rfl, fun a F => ?_⟩
      have O : Own w0 [] [.cells b34 [.string (bs (l12))] 9, .row 9 1 (.slice P29 N29 C29) N29 ((scan (lFrame l12)).flatMap encStr)] w := O.call0 K
      clear K
      have c35 : (scan (lFrame l12)) = ([l12]) := by rw [hF]; exact hs
      have F := F.setB (d := 35) rfl (decide_eq_true c35)
      have O : Own w0 [] [.cells b34 [.string (bs (l12))] 9, .row 9 1 (.slice P29 N29 C29) N29 ((scan (lFrame l12)).flatMap encStr)] w := O
      refine sp F (p_move rfl) rfl rfl fun a F => sp F (p_move rfl) rfl rfl fun a F => sp F (p_move rfl) rfl rfl fun a F => sp F (p_len_b rfl Try.underlying9) rfl rfl fun a F => sp F (p_eql rfl rfl) rfl rfl fun a F => ?_
      have c40 : (used (scan (lFrame l12)) : Int) = ((lFrame l12).length : Int) := by rw [hl, hF, hs]; simp [used]
      have F := F.setB (d := 40) rfl (decide_eq_true c40)
      refine sp F (p_pick (t := true) rfl rfl) rfl rfl fun a F => sp F (p_move rfl) rfl rfl fun a F => sp F (p_move rfl) rfl rfl fun a F => sp F (p_len_b rfl Try.underlying9) rfl rfl fun a F => sp F (p_move rfl) rfl rfl fun a F => sp F (p_len_b rfl Try.underlying9) rfl rfl fun a F => sp F (p_add rfl rfl (by omega) (by omega)) rfl rfl fun a F => sp F (p_eql rfl rfl) rfl rfl fun a F => ?_
      have c48 : ((lFrame l12).length : Int) = ((l12.length : Int) + 2) := by omega
      have F := F.setB (d := 48) rfl (decide_eq_true c48)
      refine sp F (p_pick (t := true) rfl rfl) rfl rfl fun a F => sp F (p_assign rfl) rfl rfl fun a F => c_nil (hK10 _ _ (?_))
      try clear hK10 K10
      refine wp_ret (ret1 F rfl rfl (?_))
      have O : Own w0 [] [] w := (O.take 0)
      exact ⟨rfl, O⟩

set_option maxRecDepth 100000 in
theorem frame2_lifted (os : Os) (started : os.Started) (H : Type) (enc : TypeId × Value → H) :
    ReturnsInHanded {} Try.checked os 13 .any (Rows.fnFrameSpec.pre6 enc Try.prog Try.f13 Rows.fnFrameRow.domain false) (Rows.fnFrameSpec.post enc Try.prog Try.f13 false true false false) := by
  have e0 : Rows.fnFrameRow.domain = [] := rfl
  rw [e0]
  refine lifted_of (C := Try.checked) Try.facts started (by kernel_rfl) Try.func13 rfl ?_ (tb := 4) (by kernel_rfl) Try.underlying4 (by kernel_rfl)
    (ChangeSpec.witness6 (enc := enc) (C := Try.checked) false ⟨#[], #[.slice none 0 0], []⟩ 8 (by kernel_rfl) (by kernel_rfl) (by kernel_rfl) (by kernel_rfl)) ?_
  · intro ds hds
    match ds, hds with
    | [_], _ => rfl
  intro W base args ds p hval0 hA0
  have hval : ∀ (j : Nat) t v, Try.f13.params[j]? = some t → args[j]? = some v → Value.okWide Try.prog W .any base t v := hval0
  have hA : DataW.TrodAll enc Try.prog W 0 (fun _ => true) true Try.f13.params.toList args.toList ds p := hA0
  clear hA0 hval0
  show Calls Try.prog 13 args W _
  rw [Try.params13] at hA hval
  obtain ⟨v0, d0, hargs, rfl, h0⟩ := trodAll_one hA
  obtain rfl : args = #[v0] := by cases args; simp_all
  obtain ⟨a, n, c, rfl, hC⟩ := open_codeIn (hval 0 34 v0 rfl rfl) h0
  exact (frame2_ok a n c W hC).mono fun e w' h => ⟨h.1, h.2.below⟩

theorem frame2_pkg : ¬ Check.packageOf Try.f13.name = "main" := by
  intro h
  have h2 := congrArg String.toList h
  simp only [Check.packageOf, Try.f13] at h2
  simp at h2

theorem frame2_closed : lawFacts Try.prog 13 Try.f13 Rows.fnFrameSpec Rows.fnFrameRow = true := by kernel_rfl
theorem frame2_facts : joinedFacts Try.pinned.checked.prog 13 Try.f13 Rows.fnFrameSpec Rows.fnFrameRow = true := facts_of (P := Try.prog) Try.facts frame2_closed

theorem frame2_wrap : Func.isWrapper Try.pinned.checked.prog Try.f13 Rows.fnFrameRow.wrapper Rows.fnFrameRow.mainSum := by
  have e1 : Rows.fnFrameRow.wrapper = false := rfl
  have e2 : Rows.fnFrameRow.mainSum = "" := rfl
  rw [e1, e2]
  exact wrapper_of Try.pinned.checked.prog Try.f13 frame2_pkg

/-- The statement. -/
theorem frame2_over : Rows.fnFrameRow.holds Try.pinned (OpenSpec.ofChange Rows.fnFrameSpec) :=
  OpenClaim.holds_of_wide 13 Try.f13 rfl rfl rfl rfl rfl rfl rfl ⟨rfl, rfl, rfl, rfl, rfl⟩ rfl rfl rfl rfl rfl (by kernel_rfl) Try.func13 frame2_facts
    (of_decide_eq_true (by kernel_rfl)) frame2_wrap
    (fun os started H enc _ => frame2_lifted os started H enc)
theorem frame2_holds : Rows.FnFrameSaid := frame2_over
#print axioms frame2_holds

end Go.Proofs.Ytklgkfknifkbaaa
