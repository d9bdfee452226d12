/- A star at the end matches all the rest: the law FnMatchStar returns true: the row, and its card. No conditions. -/
import Derived.Test.YtjmnnogpinggmaaDoorNamL
import Derived.Test.YtjmnnogpinggmaaDoorDoorN
import Derived.Test.YtjmnnogpinggmaaDoorCards
import Derived.Test.YtjmnnogpinggmaaDoorTie
import Derived.SevenTiedAt
namespace Go.Proofs.YtjmnnogpinggmaaDoor
open Go.ChangeShapes Go.WideShapes Go.ChangeAt Go.RowKit
set_option linter.unusedVariables false
set_option linter.unusedSimpArgs false

set_option maxRecDepth 100000 in
/-- laws.FnMatchStar -/
theorem matchStar_ok (A : Option Addr) (cn : Nat) (cc : Nat) (m0 : Int) (w0 : World) (hC : CodeIn w0 A cn cc) (hl_0 : 0 < w0.heap.size) (hm_0_0 : w0.cell? ⟨0, 0, none⟩ = some (.int .i64 (m0))) :
    Calls Tryd.prog 4 #[.slice A cn cc] w0 fun e w => e = .returned (.bool true) ∧ Own w0 [] [] w := by
  have O := Own.start w0
  have hcc : (cn : Int) ≤ cc := by have := hC.1; omega
  have hcm : (cc : Int) ≤ 9223372036854775807 := by have := hC.2.1; unfold maxLen at this; omega
  refine enterO (n := 65) Tryd.func4 rfl rfl rfl O fun a w F O => ?_
  refine c_seq fun K1 hK1 => c_region (sp F (p_assign rfl) rfl rfl fun a F => c_nil (hK1 _ _ (?_)))
  try clear hK1 K1
  refine c_seq fun K2 hK2 => c_seq fun K3 hK3 => c_region (sp F (p_move rfl) rfl rfl fun a F => sp F (p_len_l rfl Tryd.underlying22) rfl rfl fun a F => sp F (p_gtr rfl rfl) rfl rfl fun a F => c_nil (hK3 _ _ (?_)))
  try clear hK3 K3
  by_cases c12 : 1048576 < (cn : Int)
  · have F := F.setB (d := 12) rfl (decide_eq_true c12)
    refine c_ift F rfl (c_seq fun K4 hK4 => c_region (sp F (p_assign rfl) rfl rfl fun a F => c_nil (hK4 _ _ (?_))))
    try clear hK4 K4
    refine wp_ret (r_then (ret1 F rfl rfl (?_)))
    exact ⟨rfl, O⟩
  · have F := F.setB (d := 12) rfl (decide_eq_false c12)
    refine c_iff F rfl (wp_skip (hK2 _ _ (?_)))
    try clear hK2 K2
    refine c_seq fun K4 hK4 => c_region (sp F (p_move rfl) rfl rfl fun a F => so F rfl (o_call (vs := #[.slice A cn cc]) F Tryd.en_18 rfl rfl ((dNameMatches_ok A cn cc w (hC.keep O)).mono ?_)))
    rintro e w ⟨L15, M15, rfl, h15a, h15b, K⟩
    refine ⟨_, rfl, fun a F => ?_⟩
    have O : Own w0 [] [] w := O.call0 K
    clear K
    have O : Own w0 [] [] w := O
    refine sp F (p_move rfl) rfl rfl fun a F => sp F (p_extract rfl rfl) rfl rfl fun a F => sp F (p_extract rfl rfl) rfl rfl fun a F => sp F (p_assign rfl) rfl rfl fun a F => sp F (p_assign rfl) rfl rfl fun a F => c_nil (hK4 _ _ (?_))
    try clear hK4 K4
    refine c_seq fun K5 hK5 => c_region (sp F (p_move rfl) rfl rfl fun a F => sp F (p_move rfl) rfl rfl fun a F => so F rfl (o_call (vs := #[.string (bs (L15)), .string (bs (M15))]) F Tryd.en_19 rfl rfl ((iNameMatches_ok L15 M15 m0 w (by first | omega | (rw [List.length_append]; simp only [List.length_cons, List.length_nil]; omega) | assumption | (simp; done) | (simp; omega) | (exact hE _ (List.mem_of_getElem? (by assumption))) | (have := cut_small _ (List.mem_of_getElem? (by assumption)); omega)) (by first | omega | (rw [List.length_append]; simp only [List.length_cons, List.length_nil]; omega) | assumption | (simp; done) | (simp; omega) | (exact hE _ (List.mem_of_getElem? (by assumption))) | (have := cut_small _ (List.mem_of_getElem? (by assumption)); omega)) (Nat.lt_of_lt_of_le hl_0 O.size) (((O.old hl_0 (by simp)).trans hm_0_0))).mono ?_)))
    rintro e w ⟨rfl, K⟩
    refine ⟨_, rfl, fun a F => ?_⟩
    have O : Own w0 [] [] w := O.call0 K
    clear K
    have O : Own w0 [] [] w := O
    refine sp F (p_assign rfl) rfl rfl fun a F => c_nil (hK5 _ _ (?_))
    try clear hK5 K5
    refine c_seq fun K6 hK6 => c_region (sp F (p_move rfl) rfl rfl fun a F => sp F (p_move rfl) rfl rfl fun a F => so F rfl (o_call (vs := #[.string (bs (L15)), .string (bs (M15))]) F Tryd.en_20 rfl rfl ((sNameMatches_ok L15 M15 w (by first | omega | (rw [List.length_append]; simp only [List.length_cons, List.length_nil]; omega) | assumption | (simp; done) | (simp; omega) | (exact hE _ (List.mem_of_getElem? (by assumption))) | (have := cut_small _ (List.mem_of_getElem? (by assumption)); omega)) (by first | omega | (rw [List.length_append]; simp only [List.length_cons, List.length_nil]; omega) | assumption | (simp; done) | (simp; omega) | (exact hE _ (List.mem_of_getElem? (by assumption))) | (have := cut_small _ (List.mem_of_getElem? (by assumption)); omega))).mono ?_)))
    rintro e w ⟨rfl, K⟩
    refine ⟨_, rfl, fun a F => ?_⟩
    have O : Own w0 [] [] w := O.call0 K
    clear K
    have O : Own w0 [] [] w := O
    refine sp F (p_assign rfl) rfl rfl fun a F => c_nil (hK6 _ _ (?_))
    try clear hK6 K6
    refine c_seq fun K7 hK7 => c_seq fun K8 hK8 => c_region (sp F (p_move rfl) rfl rfl fun a F => sp F (p_move rfl) rfl rfl fun a F => sp F (p_bneL rfl rfl Tryd.underlying4 false (by simp)) rfl rfl fun a F => sp F (p_move rfl) rfl rfl fun a F => sp F (p_move rfl) rfl rfl fun a F => ?_)
    by_cases c28 : matchB L15 M15 = true
    · have F := F.setB (d := 20) rfl (decide_eq_true c28)
      have F := F.setB (d := 5) rfl (decide_eq_true c28)
      have F := F.setB (d := 23) rfl (decide_eq_true c28)
      have F := F.setB (d := 6) rfl (decide_eq_true c28)
      have F := F.setB (d := 24) rfl (decide_eq_true c28)
      have F := F.setB (d := 25) rfl (decide_eq_true c28)
      have F := F.setB (d := 28) rfl (decide_eq_true c28)
      refine sp F (p_not rfl) rfl rfl fun a F => sp F (p_pick (t := false) rfl rfl) rfl rfl fun a F => c_nil (hK8 _ _ (?_))
      try clear hK8 K8
      refine c_iff F rfl (wp_skip (hK7 _ _ (?_)))
      try clear hK7 K7
      refine c_seq fun K9 hK9 => c_region (sp F (p_assign rfl) rfl rfl fun a F => c_nil (hK9 _ _ (?_)))
      try clear hK9 K9
      refine c_seq fun K10 hK10 => c_seq fun K11 hK11 => c_region (sp F (p_assign rfl) rfl rfl fun a F => c_nil (hK11 _ _ (?_)))
      try clear hK11 K11
      refine wp_block (?_)
      refine c_loop (fun mm a w => ∃ (k : Int), ∃ (c : Int), mm = ((L15.length : Int) - k).toNat ∧ Has 65 [(0, .slice A cn cc), (2, .bool false), (12, .bool false), (3, .string (bs (L15))), (4, .string (bs (M15))), (5, .bool true), (6, .bool true), (30, .bool false), (8, .int .i64 (k)), (7, .int .i64 (c))] a ∧ Own w0 [] [] w ∧ (0 ≤ k) ∧ (k ≤ L15.length) ∧ (c = ((cutL (L15.take (k : Int).toNat)).length : Int)) ∧ (0 ≤ c) ∧ (c ≤ k + 1)) ?_ ?_
      · have F : Has 65 [(0, .slice A cn cc), (2, .bool false), (12, .bool false), (3, .string (bs (L15))), (4, .string (bs (M15))), (5, .bool true), (6, .bool true), (30, .bool false), (8, .int .i64 (0)), (7, .int .i64 (1))] a := F.pick ⟨rfl, rfl, rfl, rfl, rfl, rfl, rfl, rfl, rfl, rfl, trivial⟩
        exact ⟨((L15.length : Int) - 0).toNat, 0, 1, rfl, F, O, by first | assumption | omega, by first | assumption | omega, by rfl, by first | assumption | omega, by first | assumption | omega⟩
      · rintro mm a w ⟨k, c, rfl, F, O, hi0a, hi0b, hi0c, hi0d, hi0e⟩
        refine c_seq fun K12 hK12 => c_seq fun K13 hK13 => c_region (sp F (p_move rfl) rfl rfl fun a F => sp F (p_move rfl) rfl rfl fun a F => sp F (p_len_b rfl Tryd.underlying9) rfl rfl fun a F => sp F (p_lss rfl rfl) rfl rfl fun a F => c_nil (hK13 _ _ (?_)))
        try clear hK13 K13
        by_cases c37 : k < (L15.length : Int)
        · have F := F.setB (d := 37) rfl (decide_eq_true c37)
          refine c_ift F rfl (wp_skip (hK12 _ _ (?_)))
          try clear hK12 K12
          refine c_seq fun K14 hK14 => wp_block (c_seq fun K15 hK15 => c_region (sp F (p_move rfl) rfl rfl fun a F => sp F (p_move rfl) rfl rfl fun a F => sp F (p_index rfl rfl Tryd.underlying9 (by omega) (by omega)) rfl rfl fun a F => sp F (p_eql rfl rfl) rfl rfl fun a F => c_nil (hK15 _ _ (?_))))
          try clear hK15 K15
          by_cases c43 : (byteAt L15 k) = 47
          · have F := F.setB (d := 43) rfl (decide_eq_true c43)
            refine c_ift F rfl (c_region (sp F (p_move rfl) rfl rfl fun a F => sp F (p_add rfl rfl (by omega) (by omega)) rfl rfl fun a F => sp F (p_assign rfl) rfl rfl fun a F => c_nil (hK14 _ _ (?_))))
            try clear hK14 K14
            refine c_region (sp F (p_move rfl) rfl rfl fun a F => sp F (p_add rfl rfl (by omega) (by omega)) rfl rfl fun a F => sp F (p_assign rfl) rfl rfl fun a F => c_nil (?_))
            have F : Has 65 [(0, .slice A cn cc), (2, .bool false), (12, .bool false), (3, .string (bs (L15))), (4, .string (bs (M15))), (5, .bool true), (6, .bool true), (30, .bool false), (8, .int .i64 (k + 1)), (7, .int .i64 (c + 1))] a := F.pick ⟨rfl, rfl, rfl, rfl, rfl, rfl, rfl, rfl, rfl, rfl, trivial⟩
            exact ⟨((L15.length : Int) - (k + 1)).toNat, by omega, (k + 1), (c + 1), rfl, F, O, by first | assumption | omega, by first | assumption | omega, by first | (rw [cnt_sl hi0a (by omega) c43]; omega) | (rw [cnt_ne hi0a (by omega) c43]; exact hi0c), by first | assumption | omega, by first | assumption | omega⟩
          · have F := F.setB (d := 43) rfl (decide_eq_false c43)
            refine c_iff F rfl (wp_skip (hK14 _ _ (?_)))
            try clear hK14 K14
            refine c_region (sp F (p_move rfl) rfl rfl fun a F => sp F (p_add rfl rfl (by omega) (by omega)) rfl rfl fun a F => sp F (p_assign rfl) rfl rfl fun a F => c_nil (?_))
            have F : Has 65 [(0, .slice A cn cc), (2, .bool false), (12, .bool false), (3, .string (bs (L15))), (4, .string (bs (M15))), (5, .bool true), (6, .bool true), (30, .bool false), (8, .int .i64 (k + 1)), (7, .int .i64 (c))] a := F.pick ⟨rfl, rfl, rfl, rfl, rfl, rfl, rfl, rfl, rfl, rfl, trivial⟩
            exact ⟨((L15.length : Int) - (k + 1)).toNat, by omega, (k + 1), c, rfl, F, O, by first | assumption | omega, by first | assumption | omega, by first | (rw [cnt_sl hi0a (by omega) c43]; omega) | (rw [cnt_ne hi0a (by omega) c43]; exact hi0c), by first | assumption | omega, by first | assumption | omega⟩
        · have F := F.setB (d := 37) rfl (decide_eq_false c37)
          refine c_iff F rfl (wp_exit (e_then (e_then (e_here (hK10 _ _ (?_))))))
          try clear hK10 K10
          refine c_seq fun K14 hK14 => c_region (sp F (p_move rfl) rfl rfl fun a F => so F rfl (o_call (vs := #[.string (bs (M15))]) F Tryd.en_22 rfl rfl ((iNameParts_ok M15 m0 w (by first | omega | (rw [List.length_append]; simp only [List.length_cons, List.length_nil]; omega) | assumption | (simp; done) | (simp; omega) | (exact hE _ (List.mem_of_getElem? (by assumption))) | (have := cut_small _ (List.mem_of_getElem? (by assumption)); omega)) (Nat.lt_of_lt_of_le hl_0 O.size) (((O.old hl_0 (by simp)).trans hm_0_0))).mono ?_)))
          rintro e w ⟨P47, N47, C47, rfl, h47a, h47b, K⟩
          refine ⟨_, rfl, fun a F => ?_⟩
          have O : Own w0 [] [.row 9 1 (.slice P47 N47 C47) N47 ((partsL M15).flatMap encStr)] w := O.call0 K
          clear K
          have O : Own w0 [] [.row 9 1 (.slice P47 N47 C47) N47 ((partsL M15).flatMap encStr)] w := O
          refine sp F (p_len_l rfl Tryd.underlying28) rfl rfl fun a F => sp F (p_assign rfl) rfl rfl fun a F => c_nil (hK14 _ _ (?_))
          try clear hK14 K14
          refine c_seq fun K15 hK15 => ?_
          rw [cnt_all (by omega)] at hi0c
          have hml := match_len c28
          refine c_region (sp F (p_move rfl) rfl rfl fun a F => sp F (p_move rfl) rfl rfl fun a F => sp F (p_eql rfl rfl) rfl rfl fun a F => sp F (p_move rfl) rfl rfl fun a F => ?_)
          by_cases c52 : c = (N47 : Int)
          · have F := F.setB (d := 51) rfl (decide_eq_true c52)
            have F := F.setB (d := 52) rfl (decide_eq_true c52)
            refine ss F rfl rfl fun a F => ss F rfl rfl fun a F => ss F rfl rfl fun a F => ss F rfl rfl fun a F => ss F rfl rfl fun a F => ss F rfl rfl fun a F => ss F rfl rfl fun a F => ss F rfl rfl fun a F => ?_
            try have hpl : 0 < L15.length := by rcases hml with h5 | h5 <;> first | omega | exact h5.2.1
            refine ss F rfl rfl fun a F => ss F rfl rfl fun a F => ss F rfl rfl fun a F => sp F (p_pick (t := true) rfl rfl) rfl rfl fun a F => sp F (p_assign rfl) rfl rfl fun a F => c_nil (hK15 _ _ (?_))
            try clear hK15 K15
            refine wp_ret (ret1 F rfl rfl (?_))
            have O : Own w0 [] [] w := (O.take 0)
            exact ⟨rfl, O⟩
          · have F := F.setB (d := 51) rfl (decide_eq_false c52)
            have F := F.setB (d := 52) rfl (decide_eq_false c52)
            refine sp F (p_move rfl) rfl rfl fun a F => sp F (p_move rfl) rfl rfl fun a F => sp F (p_lss rfl rfl) rfl rfl fun a F => ?_
            have c55 : c < (N47 : Int) := by rcases hml with h5 | h5 <;> first | omega | (have h6 := h5.1; omega)
            have F := F.setB (d := 55) rfl (decide_eq_true c55)
            refine sp F (p_move rfl) rfl rfl fun a F => sp F (p_move rfl) rfl rfl fun a F => sp F (p_move rfl) rfl rfl fun a F => sp F (p_len_b rfl Tryd.underlying9) rfl rfl fun a F => sp F (p_sub rfl rfl (by omega) (by omega)) rfl rfl fun a F => ?_
            try have hpl : 0 < L15.length := by rcases hml with h5 | h5 <;> first | omega | exact h5.2.1
            refine sp F (p_index rfl rfl Tryd.underlying9 (by omega) (by omega)) rfl rfl fun a F => sp F (p_eql rfl rfl) rfl rfl fun a F => ?_
            have c62 : (byteAt L15 ((L15.length : Int) - 1)) = 42 := by rcases hml with h5 | h5 <;> first | omega | exact h5.2.2
            have F := F.setB (d := 62) rfl (decide_eq_true c62)
            refine sp F (p_pick (t := true) rfl rfl) rfl rfl fun a F => sp F (p_pick (t := false) rfl rfl) rfl rfl fun a F => sp F (p_assign rfl) rfl rfl fun a F => c_nil (hK15 _ _ (?_))
            try clear hK15 K15
            refine wp_ret (ret1 F rfl rfl (?_))
            have O : Own w0 [] [] w := (O.take 0)
            exact ⟨rfl, O⟩
    · have F := F.setB (d := 20) rfl (decide_eq_false c28)
      have F := F.setB (d := 5) rfl (decide_eq_false c28)
      have F := F.setB (d := 23) rfl (decide_eq_false c28)
      have F := F.setB (d := 6) rfl (decide_eq_false c28)
      have F := F.setB (d := 24) rfl (decide_eq_false c28)
      have F := F.setB (d := 25) rfl (decide_eq_false c28)
      have F := F.setB (d := 28) rfl (decide_eq_false c28)
      refine sp F (p_not rfl) rfl rfl fun a F => sp F (p_pick (t := false) rfl rfl) rfl rfl fun a F => c_nil (hK8 _ _ (?_))
      try clear hK8 K8
      refine c_ift F rfl (c_seq fun K9 hK9 => c_region (sp F (p_move rfl) rfl rfl fun a F => sp F (p_move rfl) rfl rfl fun a F => sp F (p_beqL rfl rfl Tryd.underlying4 true (by rfl)) rfl rfl fun a F => sp F (p_assign rfl) rfl rfl fun a F => c_nil (hK9 _ _ (?_))))
      try clear hK9 K9
      refine wp_ret (r_then (ret1 F rfl rfl (?_)))
      exact ⟨rfl, O⟩

set_option maxRecDepth 100000 in
theorem matchStar_lifted (os : Os) (started : os.Started) (H : Type) (enc : TypeId × Value → H) :
    ReturnsInHanded {} Tryd.checked os 4 .any (fun w args => (Rows.fnMatchStarSpec.pre enc Tryd.prog Tryd.f4 [] false w args ∧ laidMet Tryd.prog laidList w) ∧ sizedMet enc Tryd.prog Tryd.f4 (OpenSpec.ofChange Rows.fnMatchStarSpec) false w args)
      (Rows.fnMatchStarSpec.post enc Tryd.prog Tryd.f4 false true false false) := by
  refine lifted_laid started (by kernel_rfl) Tryd.func4 rfl ?_ (by kernel_rfl) (by kernel_rfl)
    (ChangeSpec.witness_at (enc := enc) (C := Tryd.checked) (os := os) (X := fun w _ => laidMet Tryd.prog laidList w) false (laidWorld os) #[.slice none 0 0] 8 rfl (laid_vars os _) (laid_rest os _) (by kernel_rfl) (by kernel_rfl) (by kernel_rfl) (laidWorld_met os _)) ?_
  · intro ds hds
    match ds, hds with
    | [_], _ => rfl
  intro W base args ds p m0 hval0 hA0 hm hl
  have hval : ∀ (j : Nat) t v, Tryd.f4.params[j]? = some t → args[j]? = some v → Value.okWide Tryd.prog W .any base t v := hval0
  have hA : DataW.TrodAll enc Tryd.prog W 0 (fun _ => true) true Tryd.f4.params.toList args.toList ds p := hA0
  clear hA0 hval0
  show Calls Tryd.prog 4 args W _
  rw [Tryd.params4] at hA hval
  obtain ⟨v0, d0, hargs, rfl, h0⟩ := trodAll_one hA
  obtain rfl : args = #[v0] := by cases args; simp_all
  obtain ⟨a, n, c, rfl, hC⟩ := open_codeIn (hval 0 22 v0 rfl rfl) h0
  exact (matchStar_ok a n c m0 W hC hl hm).mono fun e w' h => ⟨h.1, h.2.below⟩

theorem matchStar_pkg : ¬ Check.packageOf Tryd.f4.name = "main" := by
  intro h
  have h2 := congrArg String.toList h
  simp only [Check.packageOf, Tryd.f4] at h2
  simp at h2
theorem matchStar_closed : lawFacts Tryd.prog 4 Tryd.f4 Rows.fnMatchStarSpec Rows.fnMatchStarRow = true := by kernel_rfl
theorem matchStar_facts : joinedFacts Tryd.pinned.checked.prog 4 Tryd.f4 Rows.fnMatchStarSpec Rows.fnMatchStarRow = true := facts_of (P := Tryd.prog) Tryd.facts matchStar_closed
theorem matchStar_wrap : Func.isWrapper Tryd.pinned.checked.prog Tryd.f4 Rows.fnMatchStarRow.wrapper Rows.fnMatchStarRow.mainSum := by
  have e1 : Rows.fnMatchStarRow.wrapper = false := rfl
  have e2 : Rows.fnMatchStarRow.mainSum = "" := rfl
  rw [e1, e2]
  exact wrapper_of Tryd.pinned.checked.prog Tryd.f4 matchStar_pkg

/-- The row's statement. -/
theorem matchStar_row : Rows.FnMatchStarSaid :=
  OpenClaim.holds_of_wide 4 Tryd.f4 rfl rfl rfl rfl rfl rfl rfl ⟨rfl, rfl, rfl, rfl, rfl⟩ rfl rfl rfl rfl rfl (by kernel_rfl) Tryd.func4 matchStar_facts
    (of_decide_eq_true (by kernel_rfl)) matchStar_wrap
    (fun os started H enc _ => matchStar_lifted os started H enc)

/-- The card. -/
theorem matchStar_card : Rows.FnMatchStarCardSaid :=
  Claim7.holds_tied_plain_at .later [] [.data, .pinned] true (true, "5d7b27699adf6aa4303d3de668a7c3150c04e5a87965bab53939a9c73c259877") false
    matchStar_row (fun _ h => by cases h) (by kernel_rfl) (fun _ h => by cases h) fnMatchStar_row_tie rfl ⟨rfl, rfl⟩ (by kernel_rfl) rfl
    (fun f fn hf hfn => by
      obtain rfl : f = 4 := Option.some.inj ((show Tryd.prog.funcNamed "loop.example/atomicpush/laws.FnMatchStar" = some 4 by kernel_rfl).symm.trans hf) |>.symm
      obtain rfl : fn = Tryd.f4 := (Option.some.inj (Tryd.func4.symm.trans hfn)).symm
      exact ⟨by kernel_rfl, fun j t ht => by
        rw [Tryd.params4] at ht
        rcases j with _ | _ | _ | j <;> simp at ht <;> subst ht <;> kernel_rfl⟩)
    (by kernel_rfl)
#print axioms matchStar_card
end Go.Proofs.YtjmnnogpinggmaaDoor
