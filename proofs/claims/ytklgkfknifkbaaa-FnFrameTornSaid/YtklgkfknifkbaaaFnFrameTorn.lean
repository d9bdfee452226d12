/- A torn frame is not read: the law FnFrameTorn returns true. No conditions. -/
import Derived.Test.YtklgkfknifkbaaaLCrash
import Derived.Test.YtklgkfknifkbaaaLogM
import Derived.Test.YtklgkfknifkbaaaOpenC
namespace Go.Proofs.Ytklgkfknifkbaaa
open Go.ChangeShapes Go.WideShapes Go.ChangeAt Go.RowKit
set_option linter.unusedVariables false
set_option linter.unusedSimpArgs false

set_option maxRecDepth 100000 in
/-- laws.FnFrameTorn -/
theorem frameTorn_ok (A : Option Addr) (cn : Nat) (cc : Nat) (A2 : Option Addr) (cn2 : Nat) (cc2 : Nat) (w0 : World) (hC : CodeIn w0 A cn cc) (hC2 : CodeIn w0 A2 cn2 cc2) :
    Calls Try.prog 10 #[.slice A cn cc, .slice A2 cn2 cc2] w0 fun e w => e = .returned (.bool true) ∧ Own w0 [] [] w := by
  have O := Own.start w0
  have hcc : (cn : Int) ≤ cc := by have := hC.1; omega
  have hcm : (cc : Int) ≤ 9223372036854775807 := by have := hC.2.1; unfold maxLen at this; omega
  have hcc2 : (cn2 : Int) ≤ cc2 := by have := hC2.1; omega
  have hcm2 : (cc2 : Int) ≤ 9223372036854775807 := by have := hC2.2.1; unfold maxLen at this; omega
  refine enterO (n := 52) Try.func10 rfl rfl rfl O fun a w F O => ?_
  refine c_seq fun K1 hK1 => c_region (sp F (p_assign rfl) rfl rfl fun a F => c_nil (hK1 _ _ (?_)))
  try clear hK1 K1
  refine c_seq fun K2 hK2 => c_seq fun K3 hK3 => c_region (sp F (p_move rfl) rfl rfl fun a F => sp F (p_len_l rfl Try.underlying34) rfl rfl fun a F => sp F (p_gtr rfl rfl) rfl rfl fun a F => sp F (p_move rfl) rfl rfl fun a F => ?_)
  by_cases c13 : 1048576 < (cn : Int)
  · have F := F.setB (d := 12) rfl (decide_eq_true c13)
    have F := F.setB (d := 13) rfl (decide_eq_true c13)
    refine ss F rfl rfl fun a F => ss F rfl rfl fun a F => ss F rfl rfl fun a F => sp F (p_pick (t := true) rfl rfl) rfl rfl fun a F => c_nil (hK3 _ _ (?_))
    try clear hK3 K3
    refine c_ift F rfl (c_seq fun K4 hK4 => c_region (sp F (p_assign rfl) rfl rfl fun a F => c_nil (hK4 _ _ (?_))))
    try clear hK4 K4
    refine wp_ret (r_then (ret1 F rfl rfl (?_)))
    exact ⟨rfl, O⟩
  · have F := F.setB (d := 12) rfl (decide_eq_false c13)
    have F := F.setB (d := 13) rfl (decide_eq_false c13)
    refine sp F (p_move rfl) rfl rfl fun a F => sp F (p_len_l rfl Try.underlying34) rfl rfl fun a F => sp F (p_gtr rfl rfl) rfl rfl fun a F => sp F (p_pick (t := false) rfl rfl) rfl rfl fun a F => c_nil (hK3 _ _ (?_))
    try clear hK3 K3
    by_cases c17 : 1048576 < (cn2 : Int)
    · have F := F.setB (d := 16) rfl (decide_eq_true c17)
      have F := F.setB (d := 17) rfl (decide_eq_true c17)
      refine c_ift F rfl (c_seq fun K4 hK4 => c_region (sp F (p_assign rfl) rfl rfl fun a F => c_nil (hK4 _ _ (?_))))
      try clear hK4 K4
      refine wp_ret (r_then (ret1 F rfl rfl (?_)))
      exact ⟨rfl, O⟩
    · have F := F.setB (d := 16) rfl (decide_eq_false c17)
      have F := F.setB (d := 17) rfl (decide_eq_false c17)
      refine c_iff F rfl (wp_skip (hK2 _ _ (?_)))
      try clear hK2 K2
      refine c_seq fun K4 hK4 => c_region (sp F (p_move rfl) rfl rfl fun a F => so F rfl (o_call (vs := #[.slice A cn cc]) F Try.en_34 rfl rfl ((dLogFrame_ok A cn cc w (hC.keep O)).mono ?_)))
      rintro e w ⟨l19, rfl, h19a, K⟩
      refine ⟨_, rfl, fun a F => ?_⟩
      have O : Own w0 [] [] w := O.call0 K
      clear K
      have O : Own w0 [] [] w := O
      refine sp F (p_assign rfl) rfl rfl fun a F => c_nil (hK4 _ _ (?_))
      try clear hK4 K4
      refine c_seq fun K5 hK5 => c_region (sp F (p_move rfl) rfl rfl fun a F => so F rfl (o_call (vs := #[.string (bs (l19))]) F Try.en_30 rfl rfl ((iLogFrame_ok l19 w).mono ?_)))
      rintro e w ⟨rfl, K⟩
      refine ⟨_, rfl, fun a F => ?_⟩
      have O : Own w0 [] [] w := O.call0 K
      clear K
      have O : Own w0 [] [] w := O
      refine sp F (p_assign rfl) rfl rfl fun a F => c_nil (hK5 _ _ (?_))
      try clear hK5 K5
      refine c_seq fun K6 hK6 => c_region (sp F (p_move rfl) rfl rfl fun a F => so F rfl (o_call (vs := #[.string (bs (l19))]) F Try.en_29 rfl rfl ((sLogFrame_ok l19 w).mono ?_)))
      rintro e w ⟨rfl, K⟩
      refine ⟨_, rfl, fun a F => ?_⟩
      have O : Own w0 [] [] w := O.call0 K
      clear K
      have O : Own w0 [] [] w := O
      refine sp F (p_assign rfl) rfl rfl fun a F => c_nil (hK6 _ _ (?_))
      try clear hK6 K6
      refine c_seq fun K7 hK7 => c_seq fun K8 hK8 => c_region (sp F (p_move rfl) rfl rfl fun a F => sp F (p_move rfl) rfl rfl fun a F => sp F (p_sneL rfl rfl false (by simp)) rfl rfl fun a F => sp F (p_move rfl) rfl rfl fun a F => sp F (p_move rfl) rfl rfl fun a F => sp F (p_seq rfl rfl) rfl rfl fun a F => sp F (p_pick (t := false) rfl rfl) rfl rfl fun a F => c_nil (hK8 _ _ (?_)))
      try clear hK8 K8
      by_cases c30 : (lFrame l19) = ([])
      · have F := F.setB (d := 29) rfl (decide_eq_true c30)
        have F := F.setB (d := 30) rfl (decide_eq_true c30)
        refine c_ift F rfl (c_seq fun K9 hK9 => c_region (sp F (p_move rfl) rfl rfl fun a F => sp F (p_move rfl) rfl rfl fun a F => sp F (p_seqL rfl rfl true (by simp)) rfl rfl fun a F => sp F (p_assign rfl) rfl rfl fun a F => c_nil (hK9 _ _ (?_))))
        try clear hK9 K9
        refine wp_ret (r_then (ret1 F rfl rfl (?_)))
        exact ⟨rfl, O⟩
      · have F := F.setB (d := 29) rfl (decide_eq_false c30)
        have F := F.setB (d := 30) rfl (decide_eq_false c30)
        refine c_iff F rfl (wp_skip (hK7 _ _ (?_)))
        try clear hK7 K7
        refine c_seq fun K9 hK9 => ?_
        have hR := rec_of c30
        have hF := lFrame_ok hR
        have hl := lFrame_len hR
        have hf := frameL_length l19
        have hk0 := Int.emod_nonneg (cn2 : Int) (show ((lFrame l19).length : Int) ≠ 0 by omega)
        have hk1 := Int.emod_lt_of_pos (cn2 : Int) (show (0 : Int) < (lFrame l19).length by omega)
        refine c_region (sp F (p_move rfl) rfl rfl fun a F => sp F (p_move rfl) rfl rfl fun a F => sp F (p_len_l rfl Try.underlying34) rfl rfl fun a F => sp F (p_move rfl) rfl rfl fun a F => sp F (p_len_b rfl Try.underlying9) rfl rfl fun a F => sp F (p_rem rfl rfl (by omega) (by omega) (by omega)) rfl rfl fun a F => sp F (p_sto rfl rfl Try.underlying9 (by omega) (by omega)) rfl rfl fun a F => so F rfl (o_call (vs := #[.string (bs ((lFrame l19).take ((cn2 : Int) % ((lFrame l19).length : Int) : Int).toNat))]) F Try.en_37 rfl rfl ((iLogScan_ok ((lFrame l19).take ((cn2 : Int) % ((lFrame l19).length : Int) : Int).toNat) w (by first | omega | (simp; done) | (simp; omega))).mono ?_)))
        rintro e w ⟨P42, N42, C42, rfl, h42a, h42b, h42c, K⟩
        refine ⟨_, rfl, fun a F => ?_⟩
        have O : Own w0 [] [.row 9 1 (.slice P42 N42 C42) N42 ((scan ((lFrame l19).take ((cn2 : Int) % ((lFrame l19).length : Int) : Int).toNat)).flatMap encStr)] w := O.call0 K
        clear K
        have hs : scan ((lFrame l19).take ((cn2 : Int) % ((lFrame l19).length : Int) : Int).toNat) = [] := scan_tornL hR (by omega)
        rw [hs] at h42a
        have O : Own w0 [] [.row 9 1 (.slice P42 N42 C42) N42 ((scan ((lFrame l19).take ((cn2 : Int) % ((lFrame l19).length : Int) : Int).toNat)).flatMap encStr)] w := O
        refine sp F (p_move rfl) rfl rfl fun a F => sp F (p_extract rfl rfl) rfl rfl fun a F => sp F (p_extract rfl rfl) rfl rfl fun a F => sp F (p_assign rfl) rfl rfl fun a F => sp F (p_assign rfl) rfl rfl fun a F => c_nil (hK9 _ _ (?_))
        try clear hK9 K9
        refine c_seq fun K10 hK10 => c_region (sp F (p_move rfl) rfl rfl fun a F => sp F (p_len_l rfl Try.underlying40) rfl rfl fun a F => sp F (p_eql rfl rfl) rfl rfl fun a F => ?_)
        have c47 : (N42 : Int) = 0 := by simp at h42a; omega
        have F := F.setB (d := 47) rfl (decide_eq_true c47)
        refine sp F (p_move rfl) rfl rfl fun a F => sp F (p_move rfl) rfl rfl fun a F => sp F (p_eql rfl rfl) rfl rfl fun a F => ?_
        have c50 : (used (scan ((lFrame l19).take ((cn2 : Int) % ((lFrame l19).length : Int) : Int).toNat)) : Int) = 0 := by rw [hs]; rfl
        have F := F.setB (d := 50) rfl (decide_eq_true c50)
        refine sp F (p_pick (t := true) rfl rfl) rfl rfl fun a F => sp F (p_assign rfl) rfl rfl fun a F => c_nil (hK10 _ _ (?_))
        try clear hK10 K10
        refine wp_ret (ret1 F rfl rfl (?_))
        have O : Own w0 [] [] w := (O.take 0)
        exact ⟨rfl, O⟩

set_option maxRecDepth 100000 in
theorem frameTorn_lifted (os : Os) (started : os.Started) (H : Type) (enc : TypeId × Value → H) :
    ReturnsInHanded {} Try.checked os 10 .any (Rows.fnFrameTornSpec.pre6 enc Try.prog Try.f10 Rows.fnFrameTornRow.domain false) (Rows.fnFrameTornSpec.post enc Try.prog Try.f10 false true false false) := by
  have e0 : Rows.fnFrameTornRow.domain = [] := rfl
  rw [e0]
  refine lifted_of (C := Try.checked) Try.facts started (by kernel_rfl) Try.func10 rfl ?_ (tb := 4) (by kernel_rfl) Try.underlying4 (by kernel_rfl)
    (ChangeSpec.witness6 (enc := enc) (C := Try.checked) false ⟨#[], #[.slice none 0 0, .slice none 0 0], []⟩ 8 (by kernel_rfl) (by kernel_rfl) (by kernel_rfl) (by kernel_rfl)) ?_
  · intro ds hds
    match ds, hds with
    | [_, _], _ => rfl
  intro W base args ds p hval0 hA0
  have hval : ∀ (j : Nat) t v, Try.f10.params[j]? = some t → args[j]? = some v → Value.okWide Try.prog W .any base t v := hval0
  have hA : DataW.TrodAll enc Try.prog W 0 (fun _ => true) true Try.f10.params.toList args.toList ds p := hA0
  clear hA0 hval0
  show Calls Try.prog 10 args W _
  rw [Try.params10] at hA hval
  obtain ⟨v0, v1, d0, d1, p0, p1, hargs, rfl, rfl, h0, h1⟩ := trodAll_two hA
  obtain rfl : args = #[v0, v1] := by cases args; simp_all
  obtain ⟨a, n, c, rfl, hC⟩ := open_codeIn (hval 0 34 v0 rfl rfl) h0
  obtain ⟨a2, n2, c2, rfl, hC2⟩ := open_codeIn (hval 1 34 v1 rfl rfl) h1
  exact (frameTorn_ok a n c a2 n2 c2 W hC hC2).mono fun e w' h => ⟨h.1, h.2.below⟩

theorem frameTorn_pkg : ¬ Check.packageOf Try.f10.name = "main" := by
  intro h
  have h2 := congrArg String.toList h
  simp only [Check.packageOf, Try.f10] at h2
  simp at h2

theorem frameTorn_closed : lawFacts Try.prog 10 Try.f10 Rows.fnFrameTornSpec Rows.fnFrameTornRow = true := by kernel_rfl
theorem frameTorn_facts : joinedFacts Try.pinned.checked.prog 10 Try.f10 Rows.fnFrameTornSpec Rows.fnFrameTornRow = true := facts_of (P := Try.prog) Try.facts frameTorn_closed

theorem frameTorn_wrap : Func.isWrapper Try.pinned.checked.prog Try.f10 Rows.fnFrameTornRow.wrapper Rows.fnFrameTornRow.mainSum := by
  have e1 : Rows.fnFrameTornRow.wrapper = false := rfl
  have e2 : Rows.fnFrameTornRow.mainSum = "" := rfl
  rw [e1, e2]
  exact wrapper_of Try.pinned.checked.prog Try.f10 frameTorn_pkg

/-- The statement. -/
theorem frameTorn_over : Rows.fnFrameTornRow.holds Try.pinned (OpenSpec.ofChange Rows.fnFrameTornSpec) :=
  OpenClaim.holds_of_wide 10 Try.f10 rfl rfl rfl rfl rfl rfl rfl ⟨rfl, rfl, rfl, rfl, rfl⟩ rfl rfl rfl rfl rfl (by kernel_rfl) Try.func10 frameTorn_facts
    (of_decide_eq_true (by kernel_rfl)) frameTorn_wrap
    (fun os started H enc _ => frameTorn_lifted os started H enc)
theorem frameTorn_holds : Rows.FnFrameTornSaid := frameTorn_over
#print axioms frameTorn_holds

end Go.Proofs.Ytklgkfknifkbaaa
