/- A free lock has no owner: the law FnFreeAll returns true. No conditions. -/
import Derived.Test.YtilpbddeijolbaaRefE
import Derived.Test.YtilpbddeijolbaaRefL
import Derived.Test.YtilpbddeijolbaaOpenC
namespace Go.Proofs.Ytilpbddeijolbaa
open Go.ChangeShapes Go.WideShapes Go.ChangeAt Go.RowKit
set_option linter.unusedVariables false
set_option linter.unusedSimpArgs false

set_option maxRecDepth 100000 in
/-- laws.FnFreeAll -/
theorem freeAll_ok (A : Option Addr) (cn : Nat) (cc : Nat) (A2 : Option Addr) (cn2 : Nat) (cc2 : Nat) (w0 : World) (hC : CodeIn w0 A cn cc) (hC2 : CodeIn w0 A2 cn2 cc2) :
    Calls Try.prog 11 #[.slice A cn cc, .slice A2 cn2 cc2] w0 fun e w => e = .returned (.bool true) ∧ Own w0 [] [] w := by
  have O := Own.start w0
  have hcc : (cn : Int) ≤ cc := by have := hC.1; omega
  have hcm : (cc : Int) ≤ 9223372036854775807 := by have := hC.2.1; unfold maxLen at this; omega
  have hcc2 : (cn2 : Int) ≤ cc2 := by have := hC2.1; omega
  have hcm2 : (cc2 : Int) ≤ 9223372036854775807 := by have := hC2.2.1; unfold maxLen at this; omega
  refine enterO (n := 60) Try.func11 rfl rfl rfl O fun a w F O => ?_
  refine c_seq fun K1 hK1 => c_region (sp F (p_assign rfl) rfl rfl fun a F => c_nil (hK1 _ _ (?_)))
  try clear hK1 K1
  refine c_seq fun K2 hK2 => c_seq fun K3 hK3 => c_region (sp F (p_move rfl) rfl rfl fun a F => sp F (p_len_l rfl Try.underlying26) rfl rfl fun a F => sp F (p_gtr rfl rfl) rfl rfl fun a F => sp F (p_move rfl) rfl rfl fun a F => ?_)
  by_cases c15 : 1048576 < (cn : Int)
  · have F := F.setB (d := 14) rfl (decide_eq_true c15)
    have F := F.setB (d := 15) rfl (decide_eq_true c15)
    refine ss F rfl rfl fun a F => ss F rfl rfl fun a F => ss F rfl rfl fun a F => sp F (p_pick (t := true) rfl rfl) rfl rfl fun a F => c_nil (hK3 _ _ (?_))
    try clear hK3 K3
    refine c_ift F rfl (c_seq fun K4 hK4 => c_region (sp F (p_assign rfl) rfl rfl fun a F => c_nil (hK4 _ _ (?_))))
    try clear hK4 K4
    refine wp_ret (r_then (ret1 F rfl rfl (?_)))
    exact ⟨rfl, O⟩
  · have F := F.setB (d := 14) rfl (decide_eq_false c15)
    have F := F.setB (d := 15) rfl (decide_eq_false c15)
    refine sp F (p_move rfl) rfl rfl fun a F => sp F (p_len_l rfl Try.underlying26) rfl rfl fun a F => sp F (p_gtr rfl rfl) rfl rfl fun a F => sp F (p_pick (t := false) rfl rfl) rfl rfl fun a F => c_nil (hK3 _ _ (?_))
    try clear hK3 K3
    by_cases c19 : 1048576 < (cn2 : Int)
    · have F := F.setB (d := 18) rfl (decide_eq_true c19)
      have F := F.setB (d := 19) rfl (decide_eq_true c19)
      refine c_ift F rfl (c_seq fun K4 hK4 => c_region (sp F (p_assign rfl) rfl rfl fun a F => c_nil (hK4 _ _ (?_))))
      try clear hK4 K4
      refine wp_ret (r_then (ret1 F rfl rfl (?_)))
      exact ⟨rfl, O⟩
    · have F := F.setB (d := 18) rfl (decide_eq_false c19)
      have F := F.setB (d := 19) rfl (decide_eq_false c19)
      refine c_iff F rfl (wp_skip (hK2 _ _ (?_)))
      try clear hK2 K2
      refine c_seq fun K4 hK4 => c_region (sp F (p_move rfl) rfl rfl fun a F => so F rfl (o_call (vs := #[.slice A cn cc]) F Try.en_33 rfl rfl ((dLocksValid_ok A cn cc w (hC.keep O)).mono ?_)))
      rintro e w ⟨b21, N21, C21, es21, rfl, h21a, h21b, K⟩
      refine ⟨_, rfl, fun a F => ?_⟩
      have O : Own w0 [] [.row 3 1 (.slice (some ⟨b21, 0, none⟩) N21 C21) N21 (es21.flatMap encInt)] w := O.call0 K
      clear K
      have O : Own w0 [] [.row 3 1 (.slice (some ⟨b21, 0, none⟩) N21 C21) N21 (es21.flatMap encInt)] w := O
      refine sp F (p_assign rfl) rfl rfl fun a F => c_nil (hK4 _ _ (?_))
      try clear hK4 K4
      refine c_seq fun K5 hK5 => c_region (sp F (p_move rfl) rfl rfl fun a F => so F rfl (o_call (vs := #[.slice (some ⟨b21, 0, none⟩) N21 C21]) F Try.en_19 rfl rfl ((iLocksValid_ok (some ⟨b21, 0, none⟩) N21 C21 es21 w (O.arr 0 (es := es21) rfl encInt_len (by decide)) (by first | omega | (simp; done) | (simp; omega) | (simp at *; omega)) (by omega)).mono ?_)))
      rintro e w ⟨rfl, K⟩
      refine ⟨_, rfl, fun a F => ?_⟩
      have O : Own w0 [] [.row 3 1 (.slice (some ⟨b21, 0, none⟩) N21 C21) N21 (es21.flatMap encInt)] w := O.call0 K
      clear K
      have O : Own w0 [] [.row 3 1 (.slice (some ⟨b21, 0, none⟩) N21 C21) N21 (es21.flatMap encInt)] w := O
      refine sp F (p_assign rfl) rfl rfl fun a F => c_nil (hK5 _ _ (?_))
      try clear hK5 K5
      refine c_seq fun K6 hK6 => c_region (sp F (p_move rfl) rfl rfl fun a F => so F rfl (o_call (vs := #[.slice (some ⟨b21, 0, none⟩) N21 C21]) F Try.en_17 rfl rfl ((sLocksValid_ok (some ⟨b21, 0, none⟩) N21 C21 es21 w (O.arr 0 (es := es21) rfl encInt_len (by decide)) (by first | omega | (simp; done) | (simp; omega) | (simp at *; omega)) (by omega)).mono ?_)))
      rintro e w ⟨rfl, K⟩
      refine ⟨_, rfl, fun a F => ?_⟩
      have O : Own w0 [] [.row 3 1 (.slice (some ⟨b21, 0, none⟩) N21 C21) N21 (es21.flatMap encInt)] w := O.call0 K
      clear K
      have O : Own w0 [] [.row 3 1 (.slice (some ⟨b21, 0, none⟩) N21 C21) N21 (es21.flatMap encInt)] w := O
      refine sp F (p_assign rfl) rfl rfl fun a F => c_nil (hK6 _ _ (?_))
      try clear hK6 K6
      refine c_seq fun K7 hK7 => c_seq fun K8 hK8 => c_region (sp F (p_move rfl) rfl rfl fun a F => sp F (p_move rfl) rfl rfl fun a F => sp F (p_bneL rfl rfl Try.underlying4 false (by simp)) rfl rfl fun a F => sp F (p_move rfl) rfl rfl fun a F => sp F (p_move rfl) rfl rfl fun a F => ?_)
      by_cases c30 : es21.length = 4 ∧ okIn (-1) (11) es21 = true
      · have F := F.setB (d := 23) rfl (decide_eq_true c30)
        have F := F.setB (d := 6) rfl (decide_eq_true c30)
        have F := F.setB (d := 25) rfl (decide_eq_true c30)
        have F := F.setB (d := 7) rfl (decide_eq_true c30)
        have F := F.setB (d := 26) rfl (decide_eq_true c30)
        have F := F.setB (d := 27) rfl (decide_eq_true c30)
        have F := F.setB (d := 30) rfl (decide_eq_true c30)
        refine sp F (p_not rfl) rfl rfl fun a F => sp F (p_pick (t := false) rfl rfl) rfl rfl fun a F => c_nil (hK8 _ _ (?_))
        try clear hK8 K8
        refine c_iff F rfl (wp_skip (hK7 _ _ (?_)))
        try clear hK7 K7
        refine c_seq fun K9 hK9 => c_region (sp F (p_move rfl) rfl rfl fun a F => sp F (p_len_l rfl Try.underlying26) rfl rfl fun a F => sp F (p_rem rfl rfl (by omega) (by omega) (by omega)) rfl rfl fun a F => sp F (p_assign rfl) rfl rfl fun a F => c_nil (hK9 _ _ (?_)))
        try clear hK9 K9
        refine c_seq fun K10 hK10 => c_region (so F rfl (o_bslice (cs := [.int .i64 (-1), .int .i64 (-1), .int .i64 (-1), .int .i64 (-1)]) F O rfl Try.underlying22 Try.sz_3 Try.zero_3 rfl rfl rfl fun b39 w O a F => ?_))
        have O : Own w0 [] [.cells b39 [.int .i64 (-1), .int .i64 (-1), .int .i64 (-1), .int .i64 (-1)] 3, .row 3 1 (.slice (some ⟨b21, 0, none⟩) N21 C21) N21 (es21.flatMap encInt)] w := O
        refine sp F (p_assign rfl) rfl rfl fun a F => c_nil (hK10 _ _ (?_))
        try clear hK10 K10
        refine c_seq fun K11 hK11 => c_region (sp F (p_move rfl) rfl rfl fun a F => sp F (p_move rfl) rfl rfl fun a F => so F rfl (o_call (vs := #[.slice (some ⟨b39, 0, none⟩) 4 4, .int .i64 ((cn2 : Int) % 12)]) F Try.en_38 rfl rfl ((iLocksFree_ok (some ⟨b39, 0, none⟩) 4 4 ([-1, -1, -1, -1]) ((cn2 : Int) % 12) w (O.arrC 0 (es := [-1, -1, -1, -1]) rfl encInt_len (by decide)) (by first | omega | (simp; done) | (simp; omega) | (simp at *; omega)) (by omega)).mono ?_)))
        rintro e w ⟨P43, N43, C43, rfl, h43a, h43b, K⟩
        refine ⟨_, rfl, fun a F => ?_⟩
        have O : Own w0 [] [.row 3 1 (.slice P43 N43 C43) N43 ((LF ([-1, -1, -1, -1]) ((cn2 : Int) % 12)).flatMap encInt), .cells b39 [.int .i64 (-1), .int .i64 (-1), .int .i64 (-1), .int .i64 (-1)] 3, .row 3 1 (.slice (some ⟨b21, 0, none⟩) N21 C21) N21 (es21.flatMap encInt)] w := O.call0 K
        clear K
        have O : Own w0 [] [.row 3 1 (.slice P43 N43 C43) N43 ((LF ([-1, -1, -1, -1]) ((cn2 : Int) % 12)).flatMap encInt), .cells b39 [.int .i64 (-1), .int .i64 (-1), .int .i64 (-1), .int .i64 (-1)] 3, .row 3 1 (.slice (some ⟨b21, 0, none⟩) N21 C21) N21 (es21.flatMap encInt)] w := O
        refine sp F (p_move rfl) rfl rfl fun a F => sp F (p_extract rfl rfl) rfl rfl fun a F => sp F (p_extract rfl rfl) rfl rfl fun a F => ?_
        have c45 : ¬ (((([-1, -1, -1, -1]).length = 4 ∧ okIn (-1) (11) ([-1, -1, -1, -1]) = true) ∧ (0 ≤ ((cn2 : Int) % 12) ∧ ((cn2 : Int) % 12) ≤ 11)) ∧ hasI ((cn2 : Int) % 12) ([-1, -1, -1, -1]) = true) := by intro h; have := h.2; rw [hasI_free (by omega)] at this; cases this
        have F := F.setB (d := 45) rfl (decide_eq_false c45)
        refine sp F (p_assign rfl) rfl rfl fun a F => sp F (p_assign rfl) rfl rfl fun a F => c_nil (hK11 _ _ (?_))
        try clear hK11 K11
        refine c_seq fun K12 hK12 => c_region (sp F (p_move rfl) rfl rfl fun a F => sp F (p_move rfl) rfl rfl fun a F => so F rfl (o_call (vs := #[.slice (some ⟨b39, 0, none⟩) 4 4, .int .i64 ((cn2 : Int) % 12)]) F Try.en_30 rfl rfl ((iLocksOf_ok (some ⟨b39, 0, none⟩) 4 4 ([-1, -1, -1, -1]) ((cn2 : Int) % 12) w (O.arrC 1 (es := [-1, -1, -1, -1]) rfl encInt_len (by decide)) (by first | omega | (simp; done) | (simp; omega) | (simp at *; omega)) (by omega)).mono ?_)))
        rintro e w ⟨P48, N48, C48, rfl, h48a, h48b, K⟩
        refine ⟨_, rfl, fun a F => ?_⟩
        have O : Own w0 [] [.row 3 1 (.slice P48 N48 C48) N48 ((LO ([-1, -1, -1, -1]) ((cn2 : Int) % 12)).flatMap encInt), .row 3 1 (.slice P43 N43 C43) N43 ((LF ([-1, -1, -1, -1]) ((cn2 : Int) % 12)).flatMap encInt), .cells b39 [.int .i64 (-1), .int .i64 (-1), .int .i64 (-1), .int .i64 (-1)] 3, .row 3 1 (.slice (some ⟨b21, 0, none⟩) N21 C21) N21 (es21.flatMap encInt)] w := O.call0 K
        clear K
        have O : Own w0 [] [.row 3 1 (.slice P48 N48 C48) N48 ((LO ([-1, -1, -1, -1]) ((cn2 : Int) % 12)).flatMap encInt), .row 3 1 (.slice P43 N43 C43) N43 ((LF ([-1, -1, -1, -1]) ((cn2 : Int) % 12)).flatMap encInt), .cells b39 [.int .i64 (-1), .int .i64 (-1), .int .i64 (-1), .int .i64 (-1)] 3, .row 3 1 (.slice (some ⟨b21, 0, none⟩) N21 C21) N21 (es21.flatMap encInt)] w := O
        refine sp F (p_len_l rfl Try.underlying22) rfl rfl fun a F => sp F (p_eql rfl rfl) rfl rfl fun a F => ?_
        have c50 : (N48 : Int) = 0 := by have h8 : (LO [-1, -1, -1, -1] ((cn2 : Int) % 12)).length = 0 := (by rw [LO_free (by omega)]; rfl); omega
        have F := F.setB (d := 50) rfl (decide_eq_true c50)
        refine sp F (p_move rfl) rfl rfl fun a F => sp F (p_move rfl) rfl rfl fun a F => sp F (p_not rfl) rfl rfl fun a F => sp F (p_pick (t := true) rfl rfl) rfl rfl fun a F => sp F (p_move rfl) rfl rfl fun a F => sp F (p_move rfl) rfl rfl fun a F => sp F (p_move rfl) rfl rfl fun a F => so F rfl (o_call (vs := #[.slice P43 N43 C43, .slice (some ⟨b39, 0, none⟩) 4 4]) F Try.en_39 rfl rfl ((sameInts_ok P43 N43 C43 (LF ([-1, -1, -1, -1]) ((cn2 : Int) % 12)) (some ⟨b39, 0, none⟩) 4 4 ([-1, -1, -1, -1]) w (O.arr 1 (es := LF ([-1, -1, -1, -1]) ((cn2 : Int) % 12)) rfl encInt_len (by decide)) (by first | omega | (simp; done) | (simp; omega) | (simp at *; omega)) (by omega) (O.arrC 2 (es := [-1, -1, -1, -1]) rfl encInt_len (by decide)) (by first | omega | (simp; done) | (simp; omega) | (simp at *; omega)) (by omega)).mono ?_))
        rintro e w ⟨rfl, K⟩
        refine ⟨_, rfl, fun a F => ?_⟩
        have O : Own w0 [] [.row 3 1 (.slice P48 N48 C48) N48 ((LO ([-1, -1, -1, -1]) ((cn2 : Int) % 12)).flatMap encInt), .row 3 1 (.slice P43 N43 C43) N43 ((LF ([-1, -1, -1, -1]) ((cn2 : Int) % 12)).flatMap encInt), .cells b39 [.int .i64 (-1), .int .i64 (-1), .int .i64 (-1), .int .i64 (-1)] 3, .row 3 1 (.slice (some ⟨b21, 0, none⟩) N21 C21) N21 (es21.flatMap encInt)] w := O.call0 K
        clear K
        have c58 : (LF ([-1, -1, -1, -1]) ((cn2 : Int) % 12)) = ([-1, -1, -1, -1]) := by exact LF_free (by omega) (by omega)
        have F := F.setB (d := 58) rfl (decide_eq_true c58)
        have O : Own w0 [] [.row 3 1 (.slice P48 N48 C48) N48 ((LO ([-1, -1, -1, -1]) ((cn2 : Int) % 12)).flatMap encInt), .row 3 1 (.slice P43 N43 C43) N43 ((LF ([-1, -1, -1, -1]) ((cn2 : Int) % 12)).flatMap encInt), .cells b39 [.int .i64 (-1), .int .i64 (-1), .int .i64 (-1), .int .i64 (-1)] 3, .row 3 1 (.slice (some ⟨b21, 0, none⟩) N21 C21) N21 (es21.flatMap encInt)] w := O
        refine sp F (p_pick (t := true) rfl rfl) rfl rfl fun a F => sp F (p_assign rfl) rfl rfl fun a F => c_nil (hK12 _ _ (?_))
        try clear hK12 K12
        refine wp_ret (ret1 F rfl rfl (?_))
        have O : Own w0 [] [] w := (O.take 0)
        exact ⟨rfl, O⟩
      · have F := F.setB (d := 23) rfl (decide_eq_false c30)
        have F := F.setB (d := 6) rfl (decide_eq_false c30)
        have F := F.setB (d := 25) rfl (decide_eq_false c30)
        have F := F.setB (d := 7) rfl (decide_eq_false c30)
        have F := F.setB (d := 26) rfl (decide_eq_false c30)
        have F := F.setB (d := 27) rfl (decide_eq_false c30)
        have F := F.setB (d := 30) rfl (decide_eq_false c30)
        refine sp F (p_not rfl) rfl rfl fun a F => sp F (p_pick (t := false) rfl rfl) rfl rfl fun a F => c_nil (hK8 _ _ (?_))
        try clear hK8 K8
        refine c_ift F rfl (c_seq fun K9 hK9 => c_region (sp F (p_move rfl) rfl rfl fun a F => sp F (p_move rfl) rfl rfl fun a F => sp F (p_beqL rfl rfl Try.underlying4 true (by rfl)) rfl rfl fun a F => sp F (p_assign rfl) rfl rfl fun a F => c_nil (hK9 _ _ (?_))))
        try clear hK9 K9
        refine wp_ret (r_then (ret1 F rfl rfl (?_)))
        have O : Own w0 [] [] w := (O.take 0)
        exact ⟨rfl, O⟩

set_option maxRecDepth 100000 in
theorem freeAll_lifted (os : Os) (started : os.Started) (H : Type) (enc : TypeId × Value → H) :
    ReturnsInHanded {} Try.checked os 11 .any (Rows.fnFreeAllSpec.pre6 enc Try.prog Try.f11 Rows.fnFreeAllRow.domain false) (Rows.fnFreeAllSpec.post enc Try.prog Try.f11 false true false false) := by
  have e0 : Rows.fnFreeAllRow.domain = [] := rfl
  rw [e0]
  refine lifted_of (C := Try.checked) Try.facts started (by kernel_rfl) Try.func11 rfl ?_ (tb := 4) (by kernel_rfl) Try.underlying4 (by kernel_rfl)
    (ChangeSpec.witness6 (enc := enc) (C := Try.checked) false ⟨#[], #[.slice none 0 0, .slice none 0 0], []⟩ 8 (by kernel_rfl) (by kernel_rfl) (by kernel_rfl) (by kernel_rfl)) ?_
  · intro ds hds
    match ds, hds with
    | [_, _], _ => rfl
  intro W base args ds p hval0 hA0
  have hval : ∀ (j : Nat) t v, Try.f11.params[j]? = some t → args[j]? = some v → Value.okWide Try.prog W .any base t v := hval0
  have hA : DataW.TrodAll enc Try.prog W 0 (fun _ => true) true Try.f11.params.toList args.toList ds p := hA0
  clear hA0 hval0
  show Calls Try.prog 11 args W _
  rw [Try.params11] at hA hval
  obtain ⟨v0, v1, d0, d1, p0, p1, hargs, rfl, rfl, h0, h1⟩ := trodAll_two hA
  obtain rfl : args = #[v0, v1] := by cases args; simp_all
  obtain ⟨a, n, c, rfl, hC⟩ := open_codeIn (hval 0 26 v0 rfl rfl) h0
  obtain ⟨a2, n2, c2, rfl, hC2⟩ := open_codeIn (hval 1 26 v1 rfl rfl) h1
  exact (freeAll_ok a n c a2 n2 c2 W hC hC2).mono fun e w' h => ⟨h.1, h.2.below⟩

theorem freeAll_pkg : ¬ Check.packageOf Try.f11.name = "main" := by
  intro h
  have h2 := congrArg String.toList h
  simp only [Check.packageOf, Try.f11] at h2
  simp at h2

theorem freeAll_closed : lawFacts Try.prog 11 Try.f11 Rows.fnFreeAllSpec Rows.fnFreeAllRow = true := by kernel_rfl
theorem freeAll_facts : joinedFacts Try.pinned.checked.prog 11 Try.f11 Rows.fnFreeAllSpec Rows.fnFreeAllRow = true := facts_of (P := Try.prog) Try.facts freeAll_closed

theorem freeAll_wrap : Func.isWrapper Try.pinned.checked.prog Try.f11 Rows.fnFreeAllRow.wrapper Rows.fnFreeAllRow.mainSum := by
  have e1 : Rows.fnFreeAllRow.wrapper = false := rfl
  have e2 : Rows.fnFreeAllRow.mainSum = "" := rfl
  rw [e1, e2]
  exact wrapper_of Try.pinned.checked.prog Try.f11 freeAll_pkg

/-- The statement. -/
theorem freeAll_over : Rows.fnFreeAllRow.holds Try.pinned (OpenSpec.ofChange Rows.fnFreeAllSpec) :=
  OpenClaim.holds_of_wide 11 Try.f11 rfl rfl rfl rfl rfl rfl rfl ⟨rfl, rfl, rfl, rfl, rfl⟩ rfl rfl rfl rfl rfl (by kernel_rfl) Try.func11 freeAll_facts
    (of_decide_eq_true (by kernel_rfl)) freeAll_wrap
    (fun os started H enc _ => freeAll_lifted os started H enc)
theorem freeAll_holds : Rows.FnFreeAllSaid := freeAll_over
#print axioms freeAll_holds

end Go.Proofs.Ytilpbddeijolbaa
