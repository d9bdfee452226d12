/- A name has at most so many letters: the law FnNameLong returns true: the row, and its card. No conditions. -/
import Derived.Test.YtjmnnogpinggmaaDoorNamL
import Derived.Test.YtjmnnogpinggmaaDoorDoorN
import Derived.Test.YtjmnnogpinggmaaDoorCards
import Derived.Test.YtjmnnogpinggmaaDoorTie
import Derived.SevenTiedAt
namespace Go.Proofs.YtjmnnogpinggmaaDoor
open Go.ChangeShapes Go.WideShapes Go.ChangeAt Go.RowKit
set_option linter.unusedVariables false
set_option linter.unusedSimpArgs false

set_option maxRecDepth 100000 in
/-- laws.FnNameLong -/
theorem nameLong_ok (A : Option Addr) (cn : Nat) (cc : Nat) (m0 : Int) (w0 : World) (hC : CodeIn w0 A cn cc) (hl_0 : 0 < w0.heap.size) (hm_0_0 : w0.cell? ⟨0, 0, none⟩ = some (.int .i64 (m0))) :
    Calls Tryd.prog 9 #[.slice A cn cc] w0 fun e w => e = .returned (.bool true) ∧ Own w0 [] [] w := by
  have O := Own.start w0
  have hcc : (cn : Int) ≤ cc := by have := hC.1; omega
  have hcm : (cc : Int) ≤ 9223372036854775807 := by have := hC.2.1; unfold maxLen at this; omega
  refine enterO (n := 37) Tryd.func9 rfl rfl rfl O fun a w F O => ?_
  refine c_seq fun K1 hK1 => c_region (sp F (p_assign rfl) rfl rfl fun a F => c_nil (hK1 _ _ (?_)))
  try clear hK1 K1
  refine c_seq fun K2 hK2 => c_seq fun K3 hK3 => c_region (sp F (p_move rfl) rfl rfl fun a F => sp F (p_len_l rfl Tryd.underlying22) rfl rfl fun a F => sp F (p_gtr rfl rfl) rfl rfl fun a F => c_nil (hK3 _ _ (?_)))
  try clear hK3 K3
  by_cases c8 : 1048576 < (cn : Int)
  · have F := F.setB (d := 8) rfl (decide_eq_true c8)
    refine c_ift F rfl (c_seq fun K4 hK4 => c_region (sp F (p_assign rfl) rfl rfl fun a F => c_nil (hK4 _ _ (?_))))
    try clear hK4 K4
    refine wp_ret (r_then (ret1 F rfl rfl (?_)))
    exact ⟨rfl, O⟩
  · have F := F.setB (d := 8) rfl (decide_eq_false c8)
    refine c_iff F rfl (wp_skip (hK2 _ _ (?_)))
    try clear hK2 K2
    refine c_seq fun K4 hK4 => c_region (sp F (p_move rfl) rfl rfl fun a F => so F rfl (o_call (vs := #[.slice A cn cc]) F Tryd.en_28 rfl rfl ((dNameValid_ok A cn cc w (hC.keep O)).mono ?_)))
    rintro e w ⟨L10, rfl, h10a, K⟩
    refine ⟨_, rfl, fun a F => ?_⟩
    have O : Own w0 [] [] w := O.call0 K
    clear K
    have O : Own w0 [] [] w := O
    refine sp F (p_assign rfl) rfl rfl fun a F => c_nil (hK4 _ _ (?_))
    try clear hK4 K4
    refine c_seq fun K5 hK5 => c_region (sp F (p_move rfl) rfl rfl fun a F => so F rfl (o_call (vs := #[.string (bs (L10))]) F Tryd.en_21 rfl rfl ((iNameValid_ok L10 m0 w (by first | omega | assumption | (simp; done) | (simp; omega) | (exact hE _ (List.mem_of_getElem? (by assumption))) | (have := cut_small _ (List.mem_of_getElem? (by assumption)); omega)) (Nat.lt_of_lt_of_le hl_0 O.size) (((O.old hl_0 (by simp)).trans hm_0_0))).mono ?_)))
    rintro e w ⟨rfl, K⟩
    refine ⟨_, rfl, fun a F => ?_⟩
    have O : Own w0 [] [] w := O.call0 K
    clear K
    have O : Own w0 [] [] w := O
    refine sp F (p_assign rfl) rfl rfl fun a F => c_nil (hK5 _ _ (?_))
    try clear hK5 K5
    refine c_seq fun K6 hK6 => c_region (sp F (p_move rfl) rfl rfl fun a F => so F rfl (o_call (vs := #[.string (bs (L10))]) F Tryd.en_27 rfl rfl ((sNameValid_ok L10 w (by first | omega | assumption | (simp; done) | (simp; omega) | (exact hE _ (List.mem_of_getElem? (by assumption))) | (have := cut_small _ (List.mem_of_getElem? (by assumption)); omega))).mono ?_)))
    rintro e w ⟨rfl, K⟩
    refine ⟨_, rfl, fun a F => ?_⟩
    have O : Own w0 [] [] w := O.call0 K
    clear K
    have O : Own w0 [] [] w := O
    refine sp F (p_assign rfl) rfl rfl fun a F => c_nil (hK6 _ _ (?_))
    try clear hK6 K6
    refine c_seq fun K7 hK7 => c_seq fun K8 hK8 => c_region (sp F (p_move rfl) rfl rfl fun a F => sp F (p_move rfl) rfl rfl fun a F => sp F (p_bneL rfl rfl Tryd.underlying4 false (by simp)) rfl rfl fun a F => sp F (p_move rfl) rfl rfl fun a F => sp F (p_move rfl) rfl rfl fun a F => ?_)
    by_cases c19 : validB L10 = true
    · have F := F.setB (d := 12) rfl (decide_eq_true c19)
      have F := F.setB (d := 4) rfl (decide_eq_true c19)
      have F := F.setB (d := 14) rfl (decide_eq_true c19)
      have F := F.setB (d := 5) rfl (decide_eq_true c19)
      have F := F.setB (d := 15) rfl (decide_eq_true c19)
      have F := F.setB (d := 16) rfl (decide_eq_true c19)
      have F := F.setB (d := 19) rfl (decide_eq_true c19)
      refine sp F (p_not rfl) rfl rfl fun a F => sp F (p_pick (t := false) rfl rfl) rfl rfl fun a F => c_nil (hK8 _ _ (?_))
      try clear hK8 K8
      refine c_iff F rfl (wp_skip (hK7 _ _ (?_)))
      try clear hK7 K7
      refine c_seq fun K9 hK9 => c_region (sp F (p_move rfl) rfl rfl fun a F => sp F (p_len_b rfl Tryd.underlying9) rfl rfl fun a F => sp F (p_leq rfl rfl) rfl rfl fun a F => sp F (p_move rfl) rfl rfl fun a F => ?_)
      have c28 : (L10.length : Int) ≤ 12 := by exact (validB_iff.1 c19).1
      have F := F.setB (d := 27) rfl (decide_eq_true c28)
      have F := F.setB (d := 28) rfl (decide_eq_true c28)
      refine sp F (p_move rfl) rfl rfl fun a F => sp F (p_cat rfl rfl (by first | omega | (simp; done) | (simp; omega))) rfl rfl fun a F => so F rfl (o_call (vs := #[.string (bs (L10 ++ ([97])))]) F Tryd.en_21 rfl rfl ((iNameValid_ok (L10 ++ ([97])) m0 w (by first | omega | assumption | (simp; done) | (simp; omega) | (exact hE _ (List.mem_of_getElem? (by assumption))) | (have := cut_small _ (List.mem_of_getElem? (by assumption)); omega)) (Nat.lt_of_lt_of_le hl_0 O.size) (((O.old hl_0 (by simp)).trans hm_0_0))).mono ?_))
      rintro e w ⟨rfl, K⟩
      refine ⟨_, rfl, fun a F => ?_⟩
      have O : Own w0 [] [] w := O.call0 K
      clear K
      have O : Own w0 [] [] w := O
      refine sp F (p_move rfl) rfl rfl fun a F => sp F (p_len_b rfl Tryd.underlying9) rfl rfl fun a F => sp F (p_lss rfl rfl) rfl rfl fun a F => ?_
      by_cases c31 : validB (L10 ++ ([97])) = true
      · have F := F.setB (d := 31) rfl (decide_eq_true c31)
        have c34 : (L10.length : Int) < 12 := by exact (valid_a c19).1 c31
        have F := F.setB (d := 34) rfl (decide_eq_true c34)
        refine sp F (p_beqL rfl rfl Tryd.underlying4 true (by rfl)) rfl rfl fun a F => sp F (p_pick (t := true) rfl rfl) rfl rfl fun a F => sp F (p_assign rfl) rfl rfl fun a F => c_nil (hK9 _ _ (?_))
        try clear hK9 K9
        refine wp_ret (ret1 F rfl rfl (?_))
        exact ⟨rfl, O⟩
      · have F := F.setB (d := 31) rfl (decide_eq_false c31)
        have c34 : ¬ ((L10.length : Int) < 12) := by exact fun h => c31 ((valid_a c19).2 h)
        have F := F.setB (d := 34) rfl (decide_eq_false c34)
        refine sp F (p_beqL rfl rfl Tryd.underlying4 true (by rfl)) rfl rfl fun a F => sp F (p_pick (t := true) rfl rfl) rfl rfl fun a F => sp F (p_assign rfl) rfl rfl fun a F => c_nil (hK9 _ _ (?_))
        try clear hK9 K9
        refine wp_ret (ret1 F rfl rfl (?_))
        exact ⟨rfl, O⟩
    · have F := F.setB (d := 12) rfl (decide_eq_false c19)
      have F := F.setB (d := 4) rfl (decide_eq_false c19)
      have F := F.setB (d := 14) rfl (decide_eq_false c19)
      have F := F.setB (d := 5) rfl (decide_eq_false c19)
      have F := F.setB (d := 15) rfl (decide_eq_false c19)
      have F := F.setB (d := 16) rfl (decide_eq_false c19)
      have F := F.setB (d := 19) rfl (decide_eq_false c19)
      refine sp F (p_not rfl) rfl rfl fun a F => sp F (p_pick (t := false) rfl rfl) rfl rfl fun a F => c_nil (hK8 _ _ (?_))
      try clear hK8 K8
      refine c_ift F rfl (c_seq fun K9 hK9 => c_region (sp F (p_move rfl) rfl rfl fun a F => sp F (p_move rfl) rfl rfl fun a F => sp F (p_beqL rfl rfl Tryd.underlying4 true (by rfl)) rfl rfl fun a F => sp F (p_assign rfl) rfl rfl fun a F => c_nil (hK9 _ _ (?_))))
      try clear hK9 K9
      refine wp_ret (r_then (ret1 F rfl rfl (?_)))
      exact ⟨rfl, O⟩

set_option maxRecDepth 100000 in
theorem nameLong_lifted (os : Os) (started : os.Started) (H : Type) (enc : TypeId × Value → H) :
    ReturnsInHanded {} Tryd.checked os 9 .any (fun w args => (Rows.fnNameLongSpec.pre enc Tryd.prog Tryd.f9 [] false w args ∧ laidMet Tryd.prog laidList w) ∧ sizedMet enc Tryd.prog Tryd.f9 (OpenSpec.ofChange Rows.fnNameLongSpec) false w args)
      (Rows.fnNameLongSpec.post enc Tryd.prog Tryd.f9 false true false false) := by
  refine lifted_laid started (by kernel_rfl) Tryd.func9 rfl ?_ (by kernel_rfl) (by kernel_rfl)
    (ChangeSpec.witness_at (enc := enc) (C := Tryd.checked) (os := os) (X := fun w _ => laidMet Tryd.prog laidList w) false (laidWorld os) #[.slice none 0 0] 8 rfl (laid_vars os _) (laid_rest os _) (by kernel_rfl) (by kernel_rfl) (by kernel_rfl) (laidWorld_met os _)) ?_
  · intro ds hds
    match ds, hds with
    | [_], _ => rfl
  intro W base args ds p m0 hval0 hA0 hm hl
  have hval : ∀ (j : Nat) t v, Tryd.f9.params[j]? = some t → args[j]? = some v → Value.okWide Tryd.prog W .any base t v := hval0
  have hA : DataW.TrodAll enc Tryd.prog W 0 (fun _ => true) true Tryd.f9.params.toList args.toList ds p := hA0
  clear hA0 hval0
  show Calls Tryd.prog 9 args W _
  rw [Tryd.params9] at hA hval
  obtain ⟨v0, d0, hargs, rfl, h0⟩ := trodAll_one hA
  obtain rfl : args = #[v0] := by cases args; simp_all
  obtain ⟨a, n, c, rfl, hC⟩ := open_codeIn (hval 0 22 v0 rfl rfl) h0
  exact (nameLong_ok a n c m0 W hC hl hm).mono fun e w' h => ⟨h.1, h.2.below⟩

theorem nameLong_pkg : ¬ Check.packageOf Tryd.f9.name = "main" := by
  intro h
  have h2 := congrArg String.toList h
  simp only [Check.packageOf, Tryd.f9] at h2
  simp at h2
theorem nameLong_closed : lawFacts Tryd.prog 9 Tryd.f9 Rows.fnNameLongSpec Rows.fnNameLongRow = true := by kernel_rfl
theorem nameLong_facts : joinedFacts Tryd.pinned.checked.prog 9 Tryd.f9 Rows.fnNameLongSpec Rows.fnNameLongRow = true := facts_of (P := Tryd.prog) Tryd.facts nameLong_closed
theorem nameLong_wrap : Func.isWrapper Tryd.pinned.checked.prog Tryd.f9 Rows.fnNameLongRow.wrapper Rows.fnNameLongRow.mainSum := by
  have e1 : Rows.fnNameLongRow.wrapper = false := rfl
  have e2 : Rows.fnNameLongRow.mainSum = "" := rfl
  rw [e1, e2]
  exact wrapper_of Tryd.pinned.checked.prog Tryd.f9 nameLong_pkg

/-- The row's statement. -/
theorem nameLong_row : Rows.FnNameLongSaid :=
  OpenClaim.holds_of_wide 9 Tryd.f9 rfl rfl rfl rfl rfl rfl rfl ⟨rfl, rfl, rfl, rfl, rfl⟩ rfl rfl rfl rfl rfl (by kernel_rfl) Tryd.func9 nameLong_facts
    (of_decide_eq_true (by kernel_rfl)) nameLong_wrap
    (fun os started H enc _ => nameLong_lifted os started H enc)

/-- The card. -/
theorem nameLong_card : Rows.FnNameLongCardSaid :=
  Claim7.holds_tied_plain_at .later [] [.data, .pinned] true (true, "5d7b27699adf6aa4303d3de668a7c3150c04e5a87965bab53939a9c73c259877") false
    nameLong_row (fun _ h => by cases h) (by kernel_rfl) (fun _ h => by cases h) fnNameLong_row_tie rfl ⟨rfl, rfl⟩ (by kernel_rfl) rfl
    (fun f fn hf hfn => by
      obtain rfl : f = 9 := Option.some.inj ((show Tryd.prog.funcNamed "loop.example/atomicpush/laws.FnNameLong" = some 9 by kernel_rfl).symm.trans hf) |>.symm
      obtain rfl : fn = Tryd.f9 := (Option.some.inj (Tryd.func9.symm.trans hfn)).symm
      exact ⟨by kernel_rfl, fun j t ht => by
        rw [Tryd.params9] at ht
        rcases j with _ | _ | _ | j <;> simp at ht <;> subst ht <;> kernel_rfl⟩)
    (by kernel_rfl)
#print axioms nameLong_card
end Go.Proofs.YtjmnnogpinggmaaDoor
