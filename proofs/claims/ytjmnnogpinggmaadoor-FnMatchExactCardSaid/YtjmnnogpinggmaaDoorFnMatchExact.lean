/- A name as a pattern matches itself alone: the law FnMatchExact returns true: the row, and its card. No conditions. -/
import Derived.Test.YtjmnnogpinggmaaDoorNamL
import Derived.Test.YtjmnnogpinggmaaDoorDoorN
import Derived.Test.YtjmnnogpinggmaaDoorCards
import Derived.Test.YtjmnnogpinggmaaDoorTie
import Derived.SevenTiedAt
namespace Go.Proofs.YtjmnnogpinggmaaDoor
open Go.ChangeShapes Go.WideShapes Go.ChangeAt Go.RowKit
set_option linter.unusedVariables false
set_option linter.unusedSimpArgs false

set_option maxRecDepth 100000 in
/-- laws.FnMatchExact -/
theorem matchExact_ok (A : Option Addr) (cn : Nat) (cc : Nat) (m0 : Int) (w0 : World) (hC : CodeIn w0 A cn cc) (hl_0 : 0 < w0.heap.size) (hm_0_0 : w0.cell? ⟨0, 0, none⟩ = some (.int .i64 (m0))) :
    Calls Tryd.prog 3 #[.slice A cn cc] w0 fun e w => e = .returned (.bool true) ∧ Own w0 [] [] w := by
  have O := Own.start w0
  have hcc : (cn : Int) ≤ cc := by have := hC.1; omega
  have hcm : (cc : Int) ≤ 9223372036854775807 := by have := hC.2.1; unfold maxLen at this; omega
  refine enterO (n := 42) Tryd.func3 rfl rfl rfl O fun a w F O => ?_
  refine c_seq fun K1 hK1 => c_region (sp F (p_assign rfl) rfl rfl fun a F => c_nil (hK1 _ _ (?_)))
  try clear hK1 K1
  refine c_seq fun K2 hK2 => c_seq fun K3 hK3 => c_region (sp F (p_move rfl) rfl rfl fun a F => sp F (p_len_l rfl Tryd.underlying22) rfl rfl fun a F => sp F (p_gtr rfl rfl) rfl rfl fun a F => c_nil (hK3 _ _ (?_)))
  try clear hK3 K3
  by_cases c9 : 1048576 < (cn : Int)
  · have F := F.setB (d := 9) rfl (decide_eq_true c9)
    refine c_ift F rfl (c_seq fun K4 hK4 => c_region (sp F (p_assign rfl) rfl rfl fun a F => c_nil (hK4 _ _ (?_))))
    try clear hK4 K4
    refine wp_ret (r_then (ret1 F rfl rfl (?_)))
    exact ⟨rfl, O⟩
  · have F := F.setB (d := 9) rfl (decide_eq_false c9)
    refine c_iff F rfl (wp_skip (hK2 _ _ (?_)))
    try clear hK2 K2
    refine c_seq fun K4 hK4 => c_region (sp F (p_move rfl) rfl rfl fun a F => so F rfl (o_call (vs := #[.slice A cn cc]) F Tryd.en_18 rfl rfl ((dNameMatches_ok A cn cc w (hC.keep O)).mono ?_)))
    rintro e w ⟨L12, M12, rfl, h12a, h12b, K⟩
    refine ⟨_, rfl, fun a F => ?_⟩
    have O : Own w0 [] [] w := O.call0 K
    clear K
    have O : Own w0 [] [] w := O
    refine sp F (p_move rfl) rfl rfl fun a F => sp F (p_extract rfl rfl) rfl rfl fun a F => sp F (p_extract rfl rfl) rfl rfl fun a F => sp F (p_assign rfl) rfl rfl fun a F => sp F (p_assign rfl) rfl rfl fun a F => c_nil (hK4 _ _ (?_))
    try clear hK4 K4
    refine c_seq fun K5 hK5 => c_region (sp F (p_move rfl) rfl rfl fun a F => sp F (p_move rfl) rfl rfl fun a F => so F rfl (o_call (vs := #[.string (bs (L12)), .string (bs (M12))]) F Tryd.en_19 rfl rfl ((iNameMatches_ok L12 M12 m0 w (by first | omega | assumption | (simp; done) | (simp; omega) | (exact hE _ (List.mem_of_getElem? (by assumption))) | (have := cut_small _ (List.mem_of_getElem? (by assumption)); omega)) (by first | omega | assumption | (simp; done) | (simp; omega) | (exact hE _ (List.mem_of_getElem? (by assumption))) | (have := cut_small _ (List.mem_of_getElem? (by assumption)); omega)) (Nat.lt_of_lt_of_le hl_0 O.size) (((O.old hl_0 (by simp)).trans hm_0_0))).mono ?_)))
    rintro e w ⟨rfl, K⟩
    refine ⟨_, rfl, fun a F => ?_⟩
    have O : Own w0 [] [] w := O.call0 K
    clear K
    have O : Own w0 [] [] w := O
    refine sp F (p_assign rfl) rfl rfl fun a F => c_nil (hK5 _ _ (?_))
    try clear hK5 K5
    refine c_seq fun K6 hK6 => c_region (sp F (p_move rfl) rfl rfl fun a F => sp F (p_move rfl) rfl rfl fun a F => so F rfl (o_call (vs := #[.string (bs (L12)), .string (bs (M12))]) F Tryd.en_20 rfl rfl ((sNameMatches_ok L12 M12 w (by first | omega | assumption | (simp; done) | (simp; omega) | (exact hE _ (List.mem_of_getElem? (by assumption))) | (have := cut_small _ (List.mem_of_getElem? (by assumption)); omega)) (by first | omega | assumption | (simp; done) | (simp; omega) | (exact hE _ (List.mem_of_getElem? (by assumption))) | (have := cut_small _ (List.mem_of_getElem? (by assumption)); omega))).mono ?_)))
    rintro e w ⟨rfl, K⟩
    refine ⟨_, rfl, fun a F => ?_⟩
    have O : Own w0 [] [] w := O.call0 K
    clear K
    have O : Own w0 [] [] w := O
    refine sp F (p_assign rfl) rfl rfl fun a F => c_nil (hK6 _ _ (?_))
    try clear hK6 K6
    refine c_seq fun K7 hK7 => c_seq fun K8 hK8 => c_region (sp F (p_move rfl) rfl rfl fun a F => sp F (p_move rfl) rfl rfl fun a F => sp F (p_bneL rfl rfl Tryd.underlying4 false (by simp)) rfl rfl fun a F => c_nil (hK8 _ _ (?_)))
    try clear hK8 K8
    refine c_iff F rfl (wp_skip (hK7 _ _ (?_)))
    try clear hK7 K7
    refine c_seq fun K9 hK9 => c_region (sp F (p_move rfl) rfl rfl fun a F => so F rfl (o_call (vs := #[.string (bs (L12))]) F Tryd.en_21 rfl rfl ((iNameValid_ok L12 m0 w (by first | omega | assumption | (simp; done) | (simp; omega) | (exact hE _ (List.mem_of_getElem? (by assumption))) | (have := cut_small _ (List.mem_of_getElem? (by assumption)); omega)) (Nat.lt_of_lt_of_le hl_0 O.size) (((O.old hl_0 (by simp)).trans hm_0_0))).mono ?_)))
    rintro e w ⟨rfl, K⟩
    refine ⟨_, rfl, fun a F => ?_⟩
    have O : Own w0 [] [] w := O.call0 K
    clear K
    have O : Own w0 [] [] w := O
    by_cases c28 : validB L12 = true
    · have F := F.setB (d := 28) rfl (decide_eq_true c28)
      refine sp F (p_not rfl) rfl rfl fun a F => sp F (p_move rfl) rfl rfl fun a F => sp F (p_move rfl) rfl rfl fun a F => so F rfl (o_call (vs := #[.string (bs (M12))]) F Tryd.en_21 rfl rfl ((iNameValid_ok M12 m0 w (by first | omega | assumption | (simp; done) | (simp; omega) | (exact hE _ (List.mem_of_getElem? (by assumption))) | (have := cut_small _ (List.mem_of_getElem? (by assumption)); omega)) (Nat.lt_of_lt_of_le hl_0 O.size) (((O.old hl_0 (by simp)).trans hm_0_0))).mono ?_))
      rintro e w ⟨rfl, K⟩
      refine ⟨_, rfl, fun a F => ?_⟩
      have O : Own w0 [] [] w := O.call0 K
      clear K
      have O : Own w0 [] [] w := O
      by_cases c32 : validB M12 = true
      · have F := F.setB (d := 32) rfl (decide_eq_true c32)
        refine sp F (p_not rfl) rfl rfl fun a F => sp F (p_pick (t := false) rfl rfl) rfl rfl fun a F => sp F (p_move rfl) rfl rfl fun a F => sp F (p_move rfl) rfl rfl fun a F => sp F (p_move rfl) rfl rfl fun a F => sp F (p_move rfl) rfl rfl fun a F => sp F (p_seq rfl rfl) rfl rfl fun a F => ?_
        by_cases c36 : matchB L12 M12 = true
        · have F := F.setB (d := 17) rfl (decide_eq_true c36)
          have F := F.setB (d := 5) rfl (decide_eq_true c36)
          have F := F.setB (d := 20) rfl (decide_eq_true c36)
          have F := F.setB (d := 6) rfl (decide_eq_true c36)
          have F := F.setB (d := 21) rfl (decide_eq_true c36)
          have F := F.setB (d := 22) rfl (decide_eq_true c36)
          have F := F.setB (d := 36) rfl (decide_eq_true c36)
          have c39 : L12 = M12 := by exact (match_valid c28 c32).1 c36
          have F := F.setB (d := 39) rfl (decide_eq_true c39)
          refine sp F (p_beqL rfl rfl Tryd.underlying4 true (by rfl)) rfl rfl fun a F => sp F (p_pick (t := false) rfl rfl) rfl rfl fun a F => sp F (p_assign rfl) rfl rfl fun a F => c_nil (hK9 _ _ (?_))
          try clear hK9 K9
          refine wp_ret (ret1 F rfl rfl (?_))
          exact ⟨rfl, O⟩
        · have F := F.setB (d := 17) rfl (decide_eq_false c36)
          have F := F.setB (d := 5) rfl (decide_eq_false c36)
          have F := F.setB (d := 20) rfl (decide_eq_false c36)
          have F := F.setB (d := 6) rfl (decide_eq_false c36)
          have F := F.setB (d := 21) rfl (decide_eq_false c36)
          have F := F.setB (d := 22) rfl (decide_eq_false c36)
          have F := F.setB (d := 36) rfl (decide_eq_false c36)
          have c39 : ¬ (L12 = M12) := by exact fun h => c36 ((match_valid c28 c32).2 h)
          have F := F.setB (d := 39) rfl (decide_eq_false c39)
          refine sp F (p_beqL rfl rfl Tryd.underlying4 true (by rfl)) rfl rfl fun a F => sp F (p_pick (t := false) rfl rfl) rfl rfl fun a F => sp F (p_assign rfl) rfl rfl fun a F => c_nil (hK9 _ _ (?_))
          try clear hK9 K9
          refine wp_ret (ret1 F rfl rfl (?_))
          exact ⟨rfl, O⟩
      · have F := F.setB (d := 32) rfl (decide_eq_false c32)
        refine sp F (p_not rfl) rfl rfl fun a F => sp F (p_pick (t := false) rfl rfl) rfl rfl fun a F => sp F (p_move rfl) rfl rfl fun a F => ss F rfl rfl fun a F => ss F rfl rfl fun a F => ss F rfl rfl fun a F => ss F rfl rfl fun a F => ss F rfl rfl fun a F => sp F (p_pick (t := true) rfl rfl) rfl rfl fun a F => sp F (p_assign rfl) rfl rfl fun a F => c_nil (hK9 _ _ (?_))
        try clear hK9 K9
        refine wp_ret (ret1 F rfl rfl (?_))
        exact ⟨rfl, O⟩
    · have F := F.setB (d := 28) rfl (decide_eq_false c28)
      refine sp F (p_not rfl) rfl rfl fun a F => sp F (p_move rfl) rfl rfl fun a F => ss F rfl rfl fun a F => ss F rfl rfl fun a F => ss F rfl rfl fun a F => sp F (p_pick (t := true) rfl rfl) rfl rfl fun a F => sp F (p_move rfl) rfl rfl fun a F => ss F rfl rfl fun a F => ss F rfl rfl fun a F => ss F rfl rfl fun a F => ss F rfl rfl fun a F => ss F rfl rfl fun a F => sp F (p_pick (t := true) rfl rfl) rfl rfl fun a F => ?_
      refine sp F (p_assign rfl) rfl rfl fun a F => c_nil (hK9 _ _ (?_))
      try clear hK9 K9
      refine wp_ret (ret1 F rfl rfl (?_))
      exact ⟨rfl, O⟩

set_option maxRecDepth 100000 in
theorem matchExact_lifted (os : Os) (started : os.Started) (H : Type) (enc : TypeId × Value → H) :
    ReturnsInHanded {} Tryd.checked os 3 .any (fun w args => (Rows.fnMatchExactSpec.pre enc Tryd.prog Tryd.f3 [] false w args ∧ laidMet Tryd.prog laidList w) ∧ sizedMet enc Tryd.prog Tryd.f3 (OpenSpec.ofChange Rows.fnMatchExactSpec) false w args)
      (Rows.fnMatchExactSpec.post enc Tryd.prog Tryd.f3 false true false false) := by
  refine lifted_laid started (by kernel_rfl) Tryd.func3 rfl ?_ (by kernel_rfl) (by kernel_rfl)
    (ChangeSpec.witness_at (enc := enc) (C := Tryd.checked) (os := os) (X := fun w _ => laidMet Tryd.prog laidList w) false (laidWorld os) #[.slice none 0 0] 8 rfl (laid_vars os _) (laid_rest os _) (by kernel_rfl) (by kernel_rfl) (by kernel_rfl) (laidWorld_met os _)) ?_
  · intro ds hds
    match ds, hds with
    | [_], _ => rfl
  intro W base args ds p m0 hval0 hA0 hm hl
  have hval : ∀ (j : Nat) t v, Tryd.f3.params[j]? = some t → args[j]? = some v → Value.okWide Tryd.prog W .any base t v := hval0
  have hA : DataW.TrodAll enc Tryd.prog W 0 (fun _ => true) true Tryd.f3.params.toList args.toList ds p := hA0
  clear hA0 hval0
  show Calls Tryd.prog 3 args W _
  rw [Tryd.params3] at hA hval
  obtain ⟨v0, d0, hargs, rfl, h0⟩ := trodAll_one hA
  obtain rfl : args = #[v0] := by cases args; simp_all
  obtain ⟨a, n, c, rfl, hC⟩ := open_codeIn (hval 0 22 v0 rfl rfl) h0
  exact (matchExact_ok a n c m0 W hC hl hm).mono fun e w' h => ⟨h.1, h.2.below⟩

theorem matchExact_pkg : ¬ Check.packageOf Tryd.f3.name = "main" := by
  intro h
  have h2 := congrArg String.toList h
  simp only [Check.packageOf, Tryd.f3] at h2
  simp at h2
theorem matchExact_closed : lawFacts Tryd.prog 3 Tryd.f3 Rows.fnMatchExactSpec Rows.fnMatchExactRow = true := by kernel_rfl
theorem matchExact_facts : joinedFacts Tryd.pinned.checked.prog 3 Tryd.f3 Rows.fnMatchExactSpec Rows.fnMatchExactRow = true := facts_of (P := Tryd.prog) Tryd.facts matchExact_closed
theorem matchExact_wrap : Func.isWrapper Tryd.pinned.checked.prog Tryd.f3 Rows.fnMatchExactRow.wrapper Rows.fnMatchExactRow.mainSum := by
  have e1 : Rows.fnMatchExactRow.wrapper = false := rfl
  have e2 : Rows.fnMatchExactRow.mainSum = "" := rfl
  rw [e1, e2]
  exact wrapper_of Tryd.pinned.checked.prog Tryd.f3 matchExact_pkg

/-- The row's statement. -/
theorem matchExact_row : Rows.FnMatchExactSaid :=
  OpenClaim.holds_of_wide 3 Tryd.f3 rfl rfl rfl rfl rfl rfl rfl ⟨rfl, rfl, rfl, rfl, rfl⟩ rfl rfl rfl rfl rfl (by kernel_rfl) Tryd.func3 matchExact_facts
    (of_decide_eq_true (by kernel_rfl)) matchExact_wrap
    (fun os started H enc _ => matchExact_lifted os started H enc)

/-- The card. -/
theorem matchExact_card : Rows.FnMatchExactCardSaid :=
  Claim7.holds_tied_plain_at .later [] [.data, .pinned] true (true, "5d7b27699adf6aa4303d3de668a7c3150c04e5a87965bab53939a9c73c259877") false
    matchExact_row (fun _ h => by cases h) (by kernel_rfl) (fun _ h => by cases h) fnMatchExact_row_tie rfl ⟨rfl, rfl⟩ (by kernel_rfl) rfl
    (fun f fn hf hfn => by
      obtain rfl : f = 3 := Option.some.inj ((show Tryd.prog.funcNamed "loop.example/atomicpush/laws.FnMatchExact" = some 3 by kernel_rfl).symm.trans hf) |>.symm
      obtain rfl : fn = Tryd.f3 := (Option.some.inj (Tryd.func3.symm.trans hfn)).symm
      exact ⟨by kernel_rfl, fun j t ht => by
        rw [Tryd.params3] at ht
        rcases j with _ | _ | _ | j <;> simp at ht <;> subst ht <;> kernel_rfl⟩)
    (by kernel_rfl)
#print axioms matchExact_card
end Go.Proofs.YtjmnnogpinggmaaDoor
