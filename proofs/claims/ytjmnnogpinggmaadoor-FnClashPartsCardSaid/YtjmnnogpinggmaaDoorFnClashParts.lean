/- One of two clashing names begins with the other's parts: the law FnClashParts returns true: the row, and its card. No conditions. -/
import Derived.Test.YtjmnnogpinggmaaDoorNamL
import Derived.Test.YtjmnnogpinggmaaDoorDoorN
import Derived.Test.YtjmnnogpinggmaaDoorCards
import Derived.Test.YtjmnnogpinggmaaDoorTie
import Derived.SevenTiedAt
namespace Go.Proofs.YtjmnnogpinggmaaDoor
open Go.ChangeShapes Go.WideShapes Go.ChangeAt Go.RowKit
set_option linter.unusedVariables false
set_option linter.unusedSimpArgs false

set_option maxRecDepth 100000 in
/-- laws.FnClashParts -/
theorem clashParts_ok (A : Option Addr) (cn : Nat) (cc : Nat) (m0 : Int) (w0 : World) (hC : CodeIn w0 A cn cc) (hl_0 : 0 < w0.heap.size) (hm_0_0 : w0.cell? ⟨0, 0, none⟩ = some (.int .i64 (m0))) :
    Calls Tryd.prog 5 #[.slice A cn cc] w0 fun e w => e = .returned (.bool true) ∧ Own w0 [] [] w := by
  have O := Own.start w0
  have hcc : (cn : Int) ≤ cc := by have := hC.1; omega
  have hcm : (cc : Int) ≤ 9223372036854775807 := by have := hC.2.1; unfold maxLen at this; omega
  refine enterO (n := 61) Tryd.func5 rfl rfl rfl O fun a w F O => ?_
  refine c_seq fun K1 hK1 => c_region (sp F (p_assign rfl) rfl rfl fun a F => c_nil (hK1 _ _ (?_)))
  try clear hK1 K1
  refine c_seq fun K2 hK2 => c_seq fun K3 hK3 => c_region (sp F (p_move rfl) rfl rfl fun a F => sp F (p_len_l rfl Tryd.underlying22) rfl rfl fun a F => sp F (p_gtr rfl rfl) rfl rfl fun a F => c_nil (hK3 _ _ (?_)))
  try clear hK3 K3
  by_cases c11 : 1048576 < (cn : Int)
  · have F := F.setB (d := 11) rfl (decide_eq_true c11)
    refine c_ift F rfl (c_seq fun K4 hK4 => c_region (sp F (p_assign rfl) rfl rfl fun a F => c_nil (hK4 _ _ (?_))))
    try clear hK4 K4
    refine wp_ret (r_then (ret1 F rfl rfl (?_)))
    exact ⟨rfl, O⟩
  · have F := F.setB (d := 11) rfl (decide_eq_false c11)
    refine c_iff F rfl (wp_skip (hK2 _ _ (?_)))
    try clear hK2 K2
    refine c_seq fun K4 hK4 => c_region (sp F (p_move rfl) rfl rfl fun a F => so F rfl (o_call (vs := #[.slice A cn cc]) F Tryd.en_23 rfl rfl ((dNameClashes_ok A cn cc w (hC.keep O)).mono ?_)))
    rintro e w ⟨L14, M14, rfl, h14a, h14b, K⟩
    refine ⟨_, rfl, fun a F => ?_⟩
    have O : Own w0 [] [] w := O.call0 K
    clear K
    have O : Own w0 [] [] w := O
    refine sp F (p_move rfl) rfl rfl fun a F => sp F (p_extract rfl rfl) rfl rfl fun a F => sp F (p_extract rfl rfl) rfl rfl fun a F => sp F (p_assign rfl) rfl rfl fun a F => sp F (p_assign rfl) rfl rfl fun a F => c_nil (hK4 _ _ (?_))
    try clear hK4 K4
    refine c_seq fun K5 hK5 => c_region (sp F (p_move rfl) rfl rfl fun a F => sp F (p_move rfl) rfl rfl fun a F => so F rfl (o_call (vs := #[.string (bs (L14)), .string (bs (M14))]) F Tryd.en_24 rfl rfl ((iNameClashes_ok L14 M14 m0 w (by first | omega | assumption | (rw [List.length_append]; simp only [List.length_cons, List.length_nil]; omega) | (simp; done) | (simp; omega) | (exact hE _ (List.mem_of_getElem? (by assumption))) | (have := cut_small _ (List.mem_of_getElem? (by assumption)); omega)) (by first | omega | assumption | (rw [List.length_append]; simp only [List.length_cons, List.length_nil]; omega) | (simp; done) | (simp; omega) | (exact hE _ (List.mem_of_getElem? (by assumption))) | (have := cut_small _ (List.mem_of_getElem? (by assumption)); omega)) (Nat.lt_of_lt_of_le hl_0 O.size) (((O.old hl_0 (by simp)).trans hm_0_0))).mono ?_)))
    rintro e w ⟨rfl, K⟩
    refine ⟨_, rfl, fun a F => ?_⟩
    have O : Own w0 [] [] w := O.call0 K
    clear K
    have O : Own w0 [] [] w := O
    refine sp F (p_assign rfl) rfl rfl fun a F => c_nil (hK5 _ _ (?_))
    try clear hK5 K5
    refine c_seq fun K6 hK6 => c_region (sp F (p_move rfl) rfl rfl fun a F => sp F (p_move rfl) rfl rfl fun a F => so F rfl (o_call (vs := #[.string (bs (L14)), .string (bs (M14))]) F Tryd.en_25 rfl rfl ((sNameClashes_ok L14 M14 w (by first | omega | assumption | (rw [List.length_append]; simp only [List.length_cons, List.length_nil]; omega) | (simp; done) | (simp; omega) | (exact hE _ (List.mem_of_getElem? (by assumption))) | (have := cut_small _ (List.mem_of_getElem? (by assumption)); omega)) (by first | omega | assumption | (rw [List.length_append]; simp only [List.length_cons, List.length_nil]; omega) | (simp; done) | (simp; omega) | (exact hE _ (List.mem_of_getElem? (by assumption))) | (have := cut_small _ (List.mem_of_getElem? (by assumption)); omega))).mono ?_)))
    rintro e w ⟨rfl, K⟩
    refine ⟨_, rfl, fun a F => ?_⟩
    have O : Own w0 [] [] w := O.call0 K
    clear K
    have O : Own w0 [] [] w := O
    refine sp F (p_assign rfl) rfl rfl fun a F => c_nil (hK6 _ _ (?_))
    try clear hK6 K6
    refine c_seq fun K7 hK7 => c_seq fun K8 hK8 => c_region (sp F (p_move rfl) rfl rfl fun a F => sp F (p_move rfl) rfl rfl fun a F => sp F (p_bneL rfl rfl Tryd.underlying4 false (by simp)) rfl rfl fun a F => sp F (p_move rfl) rfl rfl fun a F => sp F (p_move rfl) rfl rfl fun a F => ?_)
    by_cases c27 : clashB L14 M14 = true
    · have F := F.setB (d := 19) rfl (decide_eq_true c27)
      have F := F.setB (d := 5) rfl (decide_eq_true c27)
      have F := F.setB (d := 22) rfl (decide_eq_true c27)
      have F := F.setB (d := 6) rfl (decide_eq_true c27)
      have F := F.setB (d := 23) rfl (decide_eq_true c27)
      have F := F.setB (d := 24) rfl (decide_eq_true c27)
      have F := F.setB (d := 27) rfl (decide_eq_true c27)
      refine sp F (p_not rfl) rfl rfl fun a F => sp F (p_pick (t := false) rfl rfl) rfl rfl fun a F => c_nil (hK8 _ _ (?_))
      try clear hK8 K8
      refine c_iff F rfl (wp_skip (hK7 _ _ (?_)))
      try clear hK7 K7
      refine c_seq fun K9 hK9 => c_region (sp F (p_move rfl) rfl rfl fun a F => so F rfl (o_call (vs := #[.string (bs (L14))]) F Tryd.en_22 rfl rfl ((iNameParts_ok L14 m0 w (by first | omega | assumption | (rw [List.length_append]; simp only [List.length_cons, List.length_nil]; omega) | (simp; done) | (simp; omega) | (exact hE _ (List.mem_of_getElem? (by assumption))) | (have := cut_small _ (List.mem_of_getElem? (by assumption)); omega)) (Nat.lt_of_lt_of_le hl_0 O.size) (((O.old hl_0 (by simp)).trans hm_0_0))).mono ?_)))
      rintro e w ⟨P34, N34, C34, rfl, h34a, h34b, K⟩
      refine ⟨_, rfl, fun a F => ?_⟩
      have O : Own w0 [] [.row 9 1 (.slice P34 N34 C34) N34 ((partsL L14).flatMap encStr)] w := O.call0 K
      clear K
      have O : Own w0 [] [.row 9 1 (.slice P34 N34 C34) N34 ((partsL L14).flatMap encStr)] w := O
      refine sp F (p_assign rfl) rfl rfl fun a F => c_nil (hK9 _ _ (?_))
      try clear hK9 K9
      refine c_seq fun K10 hK10 => c_region (sp F (p_move rfl) rfl rfl fun a F => so F rfl (o_call (vs := #[.string (bs (M14))]) F Tryd.en_22 rfl rfl ((iNameParts_ok M14 m0 w (by first | omega | assumption | (rw [List.length_append]; simp only [List.length_cons, List.length_nil]; omega) | (simp; done) | (simp; omega) | (exact hE _ (List.mem_of_getElem? (by assumption))) | (have := cut_small _ (List.mem_of_getElem? (by assumption)); omega)) (Nat.lt_of_lt_of_le hl_0 O.size) (((O.old hl_0 (by simp)).trans hm_0_0))).mono ?_)))
      rintro e w ⟨P36, N36, C36, rfl, h36a, h36b, K⟩
      refine ⟨_, rfl, fun a F => ?_⟩
      have O : Own w0 [] [.row 9 1 (.slice P36 N36 C36) N36 ((partsL M14).flatMap encStr), .row 9 1 (.slice P34 N34 C34) N34 ((partsL L14).flatMap encStr)] w := O.call0 K
      clear K
      have O : Own w0 [] [.row 9 1 (.slice P36 N36 C36) N36 ((partsL M14).flatMap encStr), .row 9 1 (.slice P34 N34 C34) N34 ((partsL L14).flatMap encStr)] w := O
      refine sp F (p_assign rfl) rfl rfl fun a F => c_nil (hK10 _ _ (?_))
      try clear hK10 K10
      refine c_seq fun K11 hK11 => c_seq fun K12 hK12 => c_region (sp F (p_move rfl) rfl rfl fun a F => sp F (p_len_l rfl Tryd.underlying28) rfl rfl fun a F => sp F (p_move rfl) rfl rfl fun a F => sp F (p_len_l rfl Tryd.underlying28) rfl rfl fun a F => sp F (p_gtr rfl rfl) rfl rfl fun a F => c_nil (hK12 _ _ (?_)))
      try clear hK12 K12
      by_cases c41 : (N36 : Int) < (N34 : Int)
      · have F := F.setB (d := 41) rfl (decide_eq_true c41)
        refine c_ift F rfl (c_seq fun K13 hK13 => c_region (sp F (p_move rfl) rfl rfl fun a F => sp F (p_move rfl) rfl rfl fun a F => sp F (p_len_l rfl Tryd.underlying28) rfl rfl fun a F => ?_))
        have hcap42 := O.rowCap 1 rfl
        refine sp F (p_slto rfl rfl Tryd.underlying28 Tryd.sz_9 (by omega) (by omega)) rfl rfl fun a F => sp F (p_move rfl) rfl rfl fun a F => so F rfl (o_call (vs := #[.slice P34 (((N36 : Int) : Int).toNat) C34, .slice P36 N36 C36]) F Tryd.en_26 rfl rfl ((sameTexts_ok P34 (((N36 : Int) : Int).toNat) C34 ((partsL L14).take (((N36 : Int) : Int).toNat)) P36 N36 C36 (partsL M14) w ((O.arr 1 (es := partsL L14) rfl encStr_len (by decide)).take (((N36 : Int) : Int).toNat)) (by first | omega | (simp; done) | (simp; omega) | (simp at *; omega)) (by omega) (O.arr 0 (es := partsL M14) rfl encStr_len (by decide)) (by first | omega | (simp; done) | (simp; omega) | (simp at *; omega)) (by omega)).mono ?_))
        rintro e w ⟨rfl, K⟩
        refine ⟨_, rfl, fun a F => ?_⟩
        have O : Own w0 [] [.row 9 1 (.slice P36 N36 C36) N36 ((partsL M14).flatMap encStr), .row 9 1 (.slice P34 N34 C34) N34 ((partsL L14).flatMap encStr)] w := O.call0 K
        clear K
        have c47 : ((partsL L14).take (((N36 : Int) : Int).toNat)) = (partsL M14) := by rcases clash_parts c27 with h5 | h5 <;> have h6 := h5.1 <;> first | omega | (rw [show N36 = (partsL M14).length by omega]; exact h5.2)
        have F := F.setB (d := 47) rfl (decide_eq_true c47)
        have O : Own w0 [] [.row 9 1 (.slice P36 N36 C36) N36 ((partsL M14).flatMap encStr), .row 9 1 (.slice P34 N34 C34) N34 ((partsL L14).flatMap encStr)] w := O
        refine sp F (p_assign rfl) rfl rfl fun a F => c_nil (hK13 _ _ (?_))
        try clear hK13 K13
        refine wp_ret (r_then (ret1 F rfl rfl (?_)))
        have O : Own w0 [] [] w := (O.take 0)
        exact ⟨rfl, O⟩
      · have F := F.setB (d := 41) rfl (decide_eq_false c41)
        refine c_iff F rfl (wp_skip (hK11 _ _ (?_)))
        try clear hK11 K11
        refine c_seq fun K13 hK13 => c_region (sp F (p_move rfl) rfl rfl fun a F => sp F (p_len_l rfl Tryd.underlying28) rfl rfl fun a F => sp F (p_move rfl) rfl rfl fun a F => sp F (p_len_l rfl Tryd.underlying28) rfl rfl fun a F => sp F (p_lss rfl rfl) rfl rfl fun a F => sp F (p_move rfl) rfl rfl fun a F => ?_)
        have c53 : (N34 : Int) < (N36 : Int) := by rcases clash_parts c27 with h5 | h5 <;> have h6 := h5.1 <;> omega
        have F := F.setB (d := 52) rfl (decide_eq_true c53)
        have F := F.setB (d := 53) rfl (decide_eq_true c53)
        refine sp F (p_move rfl) rfl rfl fun a F => sp F (p_move rfl) rfl rfl fun a F => sp F (p_len_l rfl Tryd.underlying28) rfl rfl fun a F => ?_
        have hcap54 := O.rowCap 0 rfl
        refine sp F (p_slto rfl rfl Tryd.underlying28 Tryd.sz_9 (by omega) (by omega)) rfl rfl fun a F => sp F (p_move rfl) rfl rfl fun a F => so F rfl (o_call (vs := #[.slice P36 (((N34 : Int) : Int).toNat) C36, .slice P34 N34 C34]) F Tryd.en_26 rfl rfl ((sameTexts_ok P36 (((N34 : Int) : Int).toNat) C36 ((partsL M14).take (((N34 : Int) : Int).toNat)) P34 N34 C34 (partsL L14) w ((O.arr 0 (es := partsL M14) rfl encStr_len (by decide)).take (((N34 : Int) : Int).toNat)) (by first | omega | (simp; done) | (simp; omega) | (simp at *; omega)) (by omega) (O.arr 1 (es := partsL L14) rfl encStr_len (by decide)) (by first | omega | (simp; done) | (simp; omega) | (simp at *; omega)) (by omega)).mono ?_))
        rintro e w ⟨rfl, K⟩
        refine ⟨_, rfl, fun a F => ?_⟩
        have O : Own w0 [] [.row 9 1 (.slice P36 N36 C36) N36 ((partsL M14).flatMap encStr), .row 9 1 (.slice P34 N34 C34) N34 ((partsL L14).flatMap encStr)] w := O.call0 K
        clear K
        have c59 : ((partsL M14).take (((N34 : Int) : Int).toNat)) = (partsL L14) := by rcases clash_parts c27 with h5 | h5 <;> have h6 := h5.1 <;> first | omega | (rw [show N34 = (partsL L14).length by omega]; exact h5.2)
        have F := F.setB (d := 59) rfl (decide_eq_true c59)
        have O : Own w0 [] [.row 9 1 (.slice P36 N36 C36) N36 ((partsL M14).flatMap encStr), .row 9 1 (.slice P34 N34 C34) N34 ((partsL L14).flatMap encStr)] w := O
        refine sp F (p_pick (t := true) rfl rfl) rfl rfl fun a F => sp F (p_assign rfl) rfl rfl fun a F => c_nil (hK13 _ _ (?_))
        try clear hK13 K13
        refine wp_ret (ret1 F rfl rfl (?_))
        have O : Own w0 [] [] w := (O.take 0)
        exact ⟨rfl, O⟩
    · have F := F.setB (d := 19) rfl (decide_eq_false c27)
      have F := F.setB (d := 5) rfl (decide_eq_false c27)
      have F := F.setB (d := 22) rfl (decide_eq_false c27)
      have F := F.setB (d := 6) rfl (decide_eq_false c27)
      have F := F.setB (d := 23) rfl (decide_eq_false c27)
      have F := F.setB (d := 24) rfl (decide_eq_false c27)
      have F := F.setB (d := 27) rfl (decide_eq_false c27)
      refine sp F (p_not rfl) rfl rfl fun a F => sp F (p_pick (t := false) rfl rfl) rfl rfl fun a F => c_nil (hK8 _ _ (?_))
      try clear hK8 K8
      refine c_ift F rfl (c_seq fun K9 hK9 => c_region (sp F (p_move rfl) rfl rfl fun a F => sp F (p_move rfl) rfl rfl fun a F => sp F (p_beqL rfl rfl Tryd.underlying4 true (by rfl)) rfl rfl fun a F => sp F (p_assign rfl) rfl rfl fun a F => c_nil (hK9 _ _ (?_))))
      try clear hK9 K9
      refine wp_ret (r_then (ret1 F rfl rfl (?_)))
      exact ⟨rfl, O⟩

set_option maxRecDepth 100000 in
theorem clashParts_lifted (os : Os) (started : os.Started) (H : Type) (enc : TypeId × Value → H) :
    ReturnsInHanded {} Tryd.checked os 5 .any (fun w args => (Rows.fnClashPartsSpec.pre enc Tryd.prog Tryd.f5 [] false w args ∧ laidMet Tryd.prog laidList w) ∧ sizedMet enc Tryd.prog Tryd.f5 (OpenSpec.ofChange Rows.fnClashPartsSpec) false w args)
      (Rows.fnClashPartsSpec.post enc Tryd.prog Tryd.f5 false true false false) := by
  refine lifted_laid started (by kernel_rfl) Tryd.func5 rfl ?_ (by kernel_rfl) (by kernel_rfl)
    (ChangeSpec.witness_at (enc := enc) (C := Tryd.checked) (os := os) (X := fun w _ => laidMet Tryd.prog laidList w) false (laidWorld os) #[.slice none 0 0] 8 rfl (laid_vars os _) (laid_rest os _) (by kernel_rfl) (by kernel_rfl) (by kernel_rfl) (laidWorld_met os _)) ?_
  · intro ds hds
    match ds, hds with
    | [_], _ => rfl
  intro W base args ds p m0 hval0 hA0 hm hl
  have hval : ∀ (j : Nat) t v, Tryd.f5.params[j]? = some t → args[j]? = some v → Value.okWide Tryd.prog W .any base t v := hval0
  have hA : DataW.TrodAll enc Tryd.prog W 0 (fun _ => true) true Tryd.f5.params.toList args.toList ds p := hA0
  clear hA0 hval0
  show Calls Tryd.prog 5 args W _
  rw [Tryd.params5] at hA hval
  obtain ⟨v0, d0, hargs, rfl, h0⟩ := trodAll_one hA
  obtain rfl : args = #[v0] := by cases args; simp_all
  obtain ⟨a, n, c, rfl, hC⟩ := open_codeIn (hval 0 22 v0 rfl rfl) h0
  exact (clashParts_ok a n c m0 W hC hl hm).mono fun e w' h => ⟨h.1, h.2.below⟩

theorem clashParts_pkg : ¬ Check.packageOf Tryd.f5.name = "main" := by
  intro h
  have h2 := congrArg String.toList h
  simp only [Check.packageOf, Tryd.f5] at h2
  simp at h2
theorem clashParts_closed : lawFacts Tryd.prog 5 Tryd.f5 Rows.fnClashPartsSpec Rows.fnClashPartsRow = true := by kernel_rfl
theorem clashParts_facts : joinedFacts Tryd.pinned.checked.prog 5 Tryd.f5 Rows.fnClashPartsSpec Rows.fnClashPartsRow = true := facts_of (P := Tryd.prog) Tryd.facts clashParts_closed
theorem clashParts_wrap : Func.isWrapper Tryd.pinned.checked.prog Tryd.f5 Rows.fnClashPartsRow.wrapper Rows.fnClashPartsRow.mainSum := by
  have e1 : Rows.fnClashPartsRow.wrapper = false := rfl
  have e2 : Rows.fnClashPartsRow.mainSum = "" := rfl
  rw [e1, e2]
  exact wrapper_of Tryd.pinned.checked.prog Tryd.f5 clashParts_pkg

/-- The row's statement. -/
theorem clashParts_row : Rows.FnClashPartsSaid :=
  OpenClaim.holds_of_wide 5 Tryd.f5 rfl rfl rfl rfl rfl rfl rfl ⟨rfl, rfl, rfl, rfl, rfl⟩ rfl rfl rfl rfl rfl (by kernel_rfl) Tryd.func5 clashParts_facts
    (of_decide_eq_true (by kernel_rfl)) clashParts_wrap
    (fun os started H enc _ => clashParts_lifted os started H enc)

/-- The card. -/
theorem clashParts_card : Rows.FnClashPartsCardSaid :=
  Claim7.holds_tied_plain_at .later [] [.data, .pinned] true (true, "5d7b27699adf6aa4303d3de668a7c3150c04e5a87965bab53939a9c73c259877") false
    clashParts_row (fun _ h => by cases h) (by kernel_rfl) (fun _ h => by cases h) fnClashParts_row_tie rfl ⟨rfl, rfl⟩ (by kernel_rfl) rfl
    (fun f fn hf hfn => by
      obtain rfl : f = 5 := Option.some.inj ((show Tryd.prog.funcNamed "loop.example/atomicpush/laws.FnClashParts" = some 5 by kernel_rfl).symm.trans hf) |>.symm
      obtain rfl : fn = Tryd.f5 := (Option.some.inj (Tryd.func5.symm.trans hfn)).symm
      exact ⟨by kernel_rfl, fun j t ht => by
        rw [Tryd.params5] at ht
        rcases j with _ | _ | _ | j <;> simp at ht <;> subst ht <;> kernel_rfl⟩)
    (by kernel_rfl)
#print axioms clashParts_card
end Go.Proofs.YtjmnnogpinggmaaDoor
