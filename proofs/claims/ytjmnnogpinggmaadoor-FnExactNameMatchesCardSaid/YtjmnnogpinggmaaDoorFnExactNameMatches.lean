/- The two programs agree on which names match: the law FnExactNameMatches returns true: the row, and its card. No conditions. -/
import Derived.Test.YtjmnnogpinggmaaDoorNamL
import Derived.Test.YtjmnnogpinggmaaDoorDoorN
import Derived.Test.YtjmnnogpinggmaaDoorCards
import Derived.Test.YtjmnnogpinggmaaDoorTie
import Derived.SevenTiedAt
namespace Go.Proofs.YtjmnnogpinggmaaDoor
open Go.ChangeShapes Go.WideShapes Go.ChangeAt Go.RowKit
set_option linter.unusedVariables false
set_option linter.unusedSimpArgs false

set_option maxRecDepth 100000 in
/-- laws.FnExactNameMatches -/
theorem exNameMatches_ok (x : List UInt8) (y : List UInt8) (m0 : Int) (w0 : World) (hx : (x.length : Int) ≤ 9223372036854775807) (hy : (y.length : Int) ≤ 9223372036854775807) (hl_0 : 0 < w0.heap.size) (hm_0_0 : w0.cell? ⟨0, 0, none⟩ = some (.int .i64 (m0))) :
    Calls Tryd.prog 10 #[.string (bs (x)), .string (bs (y))] w0 fun e w => e = .returned (.bool true) ∧ Own w0 [] [] w := by
  have O := Own.start w0
  refine enterO (n := 22) Tryd.func10 rfl rfl rfl O fun a w F O => ?_
  refine c_seq fun K1 hK1 => c_region (sp F (p_assign rfl) rfl rfl fun a F => c_nil (hK1 _ _ (?_)))
  try clear hK1 K1
  refine c_seq fun K2 hK2 => c_seq fun K3 hK3 => c_region (sp F (p_move rfl) rfl rfl fun a F => sp F (p_len_b rfl Tryd.underlying9) rfl rfl fun a F => sp F (p_gtr rfl rfl) rfl rfl fun a F => c_nil (hK3 _ _ (?_)))
  try clear hK3 K3
  by_cases c9 : 1048576 < (x.length : Int)
  · have F := F.setB (d := 9) rfl (decide_eq_true c9)
    refine c_ift F rfl (c_seq fun K4 hK4 => c_region (sp F (p_assign rfl) rfl rfl fun a F => c_nil (hK4 _ _ (?_))))
    try clear hK4 K4
    refine wp_ret (r_then (ret1 F rfl rfl (?_)))
    exact ⟨rfl, O⟩
  · have F := F.setB (d := 9) rfl (decide_eq_false c9)
    refine c_iff F rfl (wp_skip (hK2 _ _ (?_)))
    try clear hK2 K2
    refine c_seq fun K4 hK4 => c_seq fun K5 hK5 => c_region (sp F (p_move rfl) rfl rfl fun a F => sp F (p_len_b rfl Tryd.underlying9) rfl rfl fun a F => sp F (p_gtr rfl rfl) rfl rfl fun a F => c_nil (hK5 _ _ (?_)))
    try clear hK5 K5
    by_cases c12 : 1048576 < (y.length : Int)
    · have F := F.setB (d := 12) rfl (decide_eq_true c12)
      refine c_ift F rfl (c_seq fun K6 hK6 => c_region (sp F (p_assign rfl) rfl rfl fun a F => c_nil (hK6 _ _ (?_))))
      try clear hK6 K6
      refine wp_ret (r_then (ret1 F rfl rfl (?_)))
      exact ⟨rfl, O⟩
    · have F := F.setB (d := 12) rfl (decide_eq_false c12)
      refine c_iff F rfl (wp_skip (hK4 _ _ (?_)))
      try clear hK4 K4
      refine c_seq fun K6 hK6 => c_region (sp F (p_move rfl) rfl rfl fun a F => sp F (p_move rfl) rfl rfl fun a F => so F rfl (o_call (vs := #[.string (bs (x)), .string (bs (y))]) F Tryd.en_20 rfl rfl ((sNameMatches_ok x y w (by first | omega | (rw [List.length_append]; simp only [List.length_cons, List.length_nil]; omega) | assumption | (simp; done) | (simp; omega) | (exact hE _ (List.mem_of_getElem? (by assumption))) | (have := cut_small _ (List.mem_of_getElem? (by assumption)); omega)) (by first | omega | (rw [List.length_append]; simp only [List.length_cons, List.length_nil]; omega) | assumption | (simp; done) | (simp; omega) | (exact hE _ (List.mem_of_getElem? (by assumption))) | (have := cut_small _ (List.mem_of_getElem? (by assumption)); omega))).mono ?_)))
      rintro e w ⟨rfl, K⟩
      refine ⟨_, rfl, fun a F => ?_⟩
      have O : Own w0 [] [] w := O.call0 K
      clear K
      have O : Own w0 [] [] w := O
      refine sp F (p_assign rfl) rfl rfl fun a F => c_nil (hK6 _ _ (?_))
      try clear hK6 K6
      refine c_seq fun K7 hK7 => c_region (sp F (p_move rfl) rfl rfl fun a F => sp F (p_move rfl) rfl rfl fun a F => so F rfl (o_call (vs := #[.string (bs (x)), .string (bs (y))]) F Tryd.en_19 rfl rfl ((iNameMatches_ok x y m0 w (by first | omega | (rw [List.length_append]; simp only [List.length_cons, List.length_nil]; omega) | assumption | (simp; done) | (simp; omega) | (exact hE _ (List.mem_of_getElem? (by assumption))) | (have := cut_small _ (List.mem_of_getElem? (by assumption)); omega)) (by first | omega | (rw [List.length_append]; simp only [List.length_cons, List.length_nil]; omega) | assumption | (simp; done) | (simp; omega) | (exact hE _ (List.mem_of_getElem? (by assumption))) | (have := cut_small _ (List.mem_of_getElem? (by assumption)); omega)) (Nat.lt_of_lt_of_le hl_0 O.size) (((O.old hl_0 (by simp)).trans hm_0_0))).mono ?_)))
      rintro e w ⟨rfl, K⟩
      refine ⟨_, rfl, fun a F => ?_⟩
      have O : Own w0 [] [] w := O.call0 K
      clear K
      have O : Own w0 [] [] w := O
      refine sp F (p_assign rfl) rfl rfl fun a F => c_nil (hK7 _ _ (?_))
      try clear hK7 K7
      refine c_seq fun K8 hK8 => c_seq fun K9 hK9 => c_region (sp F (p_move rfl) rfl rfl fun a F => sp F (p_move rfl) rfl rfl fun a F => sp F (p_bneL rfl rfl Tryd.underlying4 false (by simp)) rfl rfl fun a F => c_nil (hK9 _ _ (?_)))
      try clear hK9 K9
      refine c_iff F rfl (wp_skip (hK8 _ _ (?_)))
      try clear hK8 K8
      refine c_seq fun K10 hK10 => c_region (sp F (p_assign rfl) rfl rfl fun a F => c_nil (hK10 _ _ (?_)))
      try clear hK10 K10
      refine wp_ret (ret1 F rfl rfl (?_))
      exact ⟨rfl, O⟩

set_option maxRecDepth 100000 in
theorem exNameMatches_lifted (os : Os) (started : os.Started) (H : Type) (enc : TypeId × Value → H) :
    ReturnsInHanded {} Tryd.checked os 10 .any (fun w args => (Rows.fnExactNameMatchesSpec.pre enc Tryd.prog Tryd.f10 [] false w args ∧ laidMet Tryd.prog laidList w) ∧ sizedMet enc Tryd.prog Tryd.f10 (OpenSpec.ofChange Rows.fnExactNameMatchesSpec) false w args)
      (Rows.fnExactNameMatchesSpec.post enc Tryd.prog Tryd.f10 false true false false) := by
  refine lifted_laid started (by kernel_rfl) Tryd.func10 rfl ?_ (by kernel_rfl) (by kernel_rfl)
    (ChangeSpec.witness_at (enc := enc) (C := Tryd.checked) (os := os) (X := fun w _ => laidMet Tryd.prog laidList w) false (laidWorld os) #[.string ByteArray.empty, .string ByteArray.empty] 8 rfl (laid_vars os _) (laid_rest os _) (by kernel_rfl) (by kernel_rfl) (by kernel_rfl) (laidWorld_met os _)) ?_
  · intro ds hds
    match ds, hds with
    | [_, _], _ => rfl
  intro W base args ds p m0 hval0 hA0 hm hl
  have hval : ∀ (j : Nat) t v, Tryd.f10.params[j]? = some t → args[j]? = some v → Value.okWide Tryd.prog W .any base t v := hval0
  have hA : DataW.TrodAll enc Tryd.prog W 0 (fun _ => true) true Tryd.f10.params.toList args.toList ds p := hA0
  clear hA0 hval0
  show Calls Tryd.prog 10 args W _
  rw [Tryd.params10] at hA hval
  obtain ⟨v0, v1, d0, d1, p0, p1, hargs, rfl, rfl, h0, h1⟩ := trodAll_two hA
  obtain rfl : args = #[v0, v1] := by cases args; simp_all
  obtain ⟨s0, rfl, hs0⟩ := open_text (hval 0 9 v0 rfl rfl) h0
  obtain ⟨s1, rfl, hs1⟩ := open_text (hval 1 9 v1 rfl rfl) h1
  exact (exNameMatches_ok s0 s1 m0 W hs0 hs1 hl hm).mono fun e w' h => ⟨h.1, h.2.below⟩

theorem exNameMatches_pkg : ¬ Check.packageOf Tryd.f10.name = "main" := by
  intro h
  have h2 := congrArg String.toList h
  simp only [Check.packageOf, Tryd.f10] at h2
  simp at h2
theorem exNameMatches_closed : lawFacts Tryd.prog 10 Tryd.f10 Rows.fnExactNameMatchesSpec Rows.fnExactNameMatchesRow = true := by kernel_rfl
theorem exNameMatches_facts : joinedFacts Tryd.pinned.checked.prog 10 Tryd.f10 Rows.fnExactNameMatchesSpec Rows.fnExactNameMatchesRow = true := facts_of (P := Tryd.prog) Tryd.facts exNameMatches_closed
theorem exNameMatches_wrap : Func.isWrapper Tryd.pinned.checked.prog Tryd.f10 Rows.fnExactNameMatchesRow.wrapper Rows.fnExactNameMatchesRow.mainSum := by
  have e1 : Rows.fnExactNameMatchesRow.wrapper = false := rfl
  have e2 : Rows.fnExactNameMatchesRow.mainSum = "" := rfl
  rw [e1, e2]
  exact wrapper_of Tryd.pinned.checked.prog Tryd.f10 exNameMatches_pkg

/-- The row's statement. -/
theorem exNameMatches_row : Rows.FnExactNameMatchesSaid :=
  OpenClaim.holds_of_wide 10 Tryd.f10 rfl rfl rfl rfl rfl rfl rfl ⟨rfl, rfl, rfl, rfl, rfl⟩ rfl rfl rfl rfl rfl (by kernel_rfl) Tryd.func10 exNameMatches_facts
    (of_decide_eq_true (by kernel_rfl)) exNameMatches_wrap
    (fun os started H enc _ => exNameMatches_lifted os started H enc)

/-- The card. -/
theorem exNameMatches_card : Rows.FnExactNameMatchesCardSaid :=
  Claim7.holds_tied_plain_at .later [] [.data, .pinned] true (true, "5d7b27699adf6aa4303d3de668a7c3150c04e5a87965bab53939a9c73c259877") false
    exNameMatches_row (fun _ h => by cases h) (by kernel_rfl) (fun _ h => by cases h) fnExactNameMatches_row_tie rfl ⟨rfl, rfl⟩ (by kernel_rfl) rfl
    (fun f fn hf hfn => by
      obtain rfl : f = 10 := Option.some.inj ((show Tryd.prog.funcNamed "loop.example/atomicpush/laws.FnExactNameMatches" = some 10 by kernel_rfl).symm.trans hf) |>.symm
      obtain rfl : fn = Tryd.f10 := (Option.some.inj (Tryd.func10.symm.trans hfn)).symm
      exact ⟨by kernel_rfl, fun j t ht => by
        rw [Tryd.params10] at ht
        rcases j with _ | _ | _ | j <;> simp at ht <;> subst ht <;> kernel_rfl⟩)
    (by kernel_rfl)
#print axioms exNameMatches_card
end Go.Proofs.YtjmnnogpinggmaaDoor
