/- Refs are of one number: the law FnRefsValid returns true. No conditions. -/
import Derived.Test.YtilpbddeijolbaaRefE
import Derived.Test.YtilpbddeijolbaaRefL
import Derived.Test.YtilpbddeijolbaaOpenC
namespace Go.Proofs.Ytilpbddeijolbaa
open Go.ChangeShapes Go.WideShapes Go.ChangeAt Go.RowKit
set_option linter.unusedVariables false
set_option linter.unusedSimpArgs false

set_option maxRecDepth 100000 in
/-- laws.FnRefsValid -/
theorem refsValid_ok (A : Option Addr) (cn : Nat) (cc : Nat) (w0 : World) (hC : CodeIn w0 A cn cc) :
    Calls Try.prog 5 #[.slice A cn cc] w0 fun e w => e = .returned (.bool true) ∧ Own w0 [] [] w := by
  have O := Own.start w0
  have hcc : (cn : Int) ≤ cc := by have := hC.1; omega
  have hcm : (cc : Int) ≤ 9223372036854775807 := by have := hC.2.1; unfold maxLen at this; omega
  refine enterO (n := 43) Try.func5 rfl rfl rfl O fun a w F O => ?_
  refine c_seq fun K1 hK1 => c_region (sp F (p_assign rfl) rfl rfl fun a F => c_nil (hK1 _ _ (?_)))
  try clear hK1 K1
  refine c_seq fun K2 hK2 => c_seq fun K3 hK3 => c_region (sp F (p_move rfl) rfl rfl fun a F => sp F (p_len_l rfl Try.underlying26) rfl rfl fun a F => sp F (p_gtr rfl rfl) rfl rfl fun a F => c_nil (hK3 _ _ (?_)))
  try clear hK3 K3
  by_cases c8 : 1048576 < (cn : Int)
  · have F := F.setB (d := 8) rfl (decide_eq_true c8)
    refine c_ift F rfl (c_seq fun K4 hK4 => c_region (sp F (p_assign rfl) rfl rfl fun a F => c_nil (hK4 _ _ (?_))))
    try clear hK4 K4
    refine wp_ret (r_then (ret1 F rfl rfl (?_)))
    exact ⟨rfl, O⟩
  · have F := F.setB (d := 8) rfl (decide_eq_false c8)
    refine c_iff F rfl (wp_skip (hK2 _ _ (?_)))
    try clear hK2 K2
    refine c_seq fun K4 hK4 => c_region (sp F (p_move rfl) rfl rfl fun a F => so F rfl (o_call (vs := #[.slice A cn cc]) F Try.en_23 rfl rfl ((dRefsValid_ok A cn cc w (hC.keep O)).mono ?_)))
    rintro e w ⟨b10, N10, C10, es10, rfl, h10a, h10b, K⟩
    refine ⟨_, rfl, fun a F => ?_⟩
    have O : Own w0 [] [.row 3 1 (.slice (some ⟨b10, 0, none⟩) N10 C10) N10 (es10.flatMap encInt)] w := O.call0 K
    clear K
    have O : Own w0 [] [.row 3 1 (.slice (some ⟨b10, 0, none⟩) N10 C10) N10 (es10.flatMap encInt)] w := O
    refine sp F (p_assign rfl) rfl rfl fun a F => c_nil (hK4 _ _ (?_))
    try clear hK4 K4
    refine c_seq fun K5 hK5 => c_region (sp F (p_move rfl) rfl rfl fun a F => so F rfl (o_call (vs := #[.slice (some ⟨b10, 0, none⟩) N10 C10]) F Try.en_22 rfl rfl ((iRefsValid_ok (some ⟨b10, 0, none⟩) N10 C10 es10 w (O.arr 0 (es := es10) rfl encInt_len (by decide)) (by first | omega | (simp; done) | (simp; omega) | (simp at *; omega)) (by omega)).mono ?_)))
    rintro e w ⟨rfl, K⟩
    refine ⟨_, rfl, fun a F => ?_⟩
    have O : Own w0 [] [.row 3 1 (.slice (some ⟨b10, 0, none⟩) N10 C10) N10 (es10.flatMap encInt)] w := O.call0 K
    clear K
    have O : Own w0 [] [.row 3 1 (.slice (some ⟨b10, 0, none⟩) N10 C10) N10 (es10.flatMap encInt)] w := O
    refine sp F (p_assign rfl) rfl rfl fun a F => c_nil (hK5 _ _ (?_))
    try clear hK5 K5
    refine c_seq fun K6 hK6 => c_region (sp F (p_move rfl) rfl rfl fun a F => so F rfl (o_call (vs := #[.slice (some ⟨b10, 0, none⟩) N10 C10]) F Try.en_21 rfl rfl ((sRefsValid_ok (some ⟨b10, 0, none⟩) N10 C10 es10 w (O.arr 0 (es := es10) rfl encInt_len (by decide)) (by first | omega | (simp; done) | (simp; omega) | (simp at *; omega)) (by omega)).mono ?_)))
    rintro e w ⟨rfl, K⟩
    refine ⟨_, rfl, fun a F => ?_⟩
    have O : Own w0 [] [.row 3 1 (.slice (some ⟨b10, 0, none⟩) N10 C10) N10 (es10.flatMap encInt)] w := O.call0 K
    clear K
    have O : Own w0 [] [.row 3 1 (.slice (some ⟨b10, 0, none⟩) N10 C10) N10 (es10.flatMap encInt)] w := O
    refine sp F (p_assign rfl) rfl rfl fun a F => c_nil (hK6 _ _ (?_))
    try clear hK6 K6
    refine c_seq fun K7 hK7 => c_seq fun K8 hK8 => c_region (sp F (p_move rfl) rfl rfl fun a F => sp F (p_move rfl) rfl rfl fun a F => sp F (p_bneL rfl rfl Try.underlying4 false (by simp)) rfl rfl fun a F => sp F (p_move rfl) rfl rfl fun a F => sp F (p_move rfl) rfl rfl fun a F => ?_)
    by_cases c19 : es10.length = 4 ∧ okIn (-1) (990) es10 = true
    · have F := F.setB (d := 12) rfl (decide_eq_true c19)
      have F := F.setB (d := 4) rfl (decide_eq_true c19)
      have F := F.setB (d := 14) rfl (decide_eq_true c19)
      have F := F.setB (d := 5) rfl (decide_eq_true c19)
      have F := F.setB (d := 15) rfl (decide_eq_true c19)
      have F := F.setB (d := 16) rfl (decide_eq_true c19)
      have F := F.setB (d := 19) rfl (decide_eq_true c19)
      refine sp F (p_not rfl) rfl rfl fun a F => sp F (p_pick (t := false) rfl rfl) rfl rfl fun a F => c_nil (hK8 _ _ (?_))
      try clear hK8 K8
      refine c_iff F rfl (wp_skip (hK7 _ _ (?_)))
      try clear hK7 K7
      refine c_seq fun K9 hK9 => c_region (so F rfl (o_bslice (cs := []) F O rfl Try.underlying22 Try.sz_3 Try.zero_3 rfl rfl rfl fun b25 w O a F => ?_))
      have O : Own w0 [] [.cells b25 [] 3, .row 3 1 (.slice (some ⟨b10, 0, none⟩) N10 C10) N10 (es10.flatMap encInt)] w := O
      refine sp F (p_move rfl) rfl rfl fun a F => ?_
      have O := O.asRow 0 (q := 0) (sz := 1) rfl rfl (by unfold maxLen; omega)
      have O : Own w0 [] [.row 3 1 (.slice (some ⟨b25, 0, none⟩) 0 0) 0 ([]), .row 3 1 (.slice (some ⟨b10, 0, none⟩) N10 C10) N10 (es10.flatMap encInt)] w := O
      refine so F rfl (o_appendX F O rfl rfl Try.underlying22 Try.elem_3 (by decide) 0 rfl (O.arr 1 (es := es10) rfl encInt_len (by decide)) ⟨_, _, rfl⟩ encInt_len (by first | omega | (simp; omega)) (fun _ => rfl) (by unfold maxLen; omega) (by omega) rfl fun p27 k27 w O a F => ?_)
      have hst : ([]) ++ (es10).flatMap encInt = (es10).flatMap encInt := by simp
      have O := O.setR 0 rfl (congrArg (Res.row 3 1 (.slice p27 (0 + N10) k27) (0 + N10)) hst)
      have O : Own w0 [] [.row 3 1 (.slice p27 (0 + N10) k27) (0 + N10) ((es10).flatMap encInt), .row 3 1 (.slice (some ⟨b10, 0, none⟩) N10 C10) N10 (es10.flatMap encInt)] w := O
      refine so F rfl (o_bslice (cs := [.int .i64 (-1)]) F O rfl Try.underlying22 Try.sz_3 Try.zero_3 rfl rfl rfl fun b28 w O a F => ?_)
      have O : Own w0 [] [.cells b28 [.int .i64 (-1)] 3, .row 3 1 (.slice p27 (0 + N10) k27) (0 + N10) ((es10).flatMap encInt), .row 3 1 (.slice (some ⟨b10, 0, none⟩) N10 C10) N10 (es10.flatMap encInt)] w := O
      refine so F rfl (o_append F O rfl rfl Try.underlying22 Try.elem_3 (by decide) 1 0 rfl rfl rfl rfl (by unfold maxLen; omega) (by omega) rfl fun p29 k29 w O a F => ?_)
      have O : Own w0 [] [.cells b28 [.int .i64 (-1)] 3, .row 3 1 (.slice p29 ((0 + N10) + 1) k29) ((0 + N10) + 1) (((es10).flatMap encInt) ++ [.int .i64 (-1)]), .row 3 1 (.slice (some ⟨b10, 0, none⟩) N10 C10) N10 (es10.flatMap encInt)] w := O
      have O := O.setR 1 rfl (show Res.row 3 1 (.slice p29 ((0 + N10) + 1) k29) ((0 + N10) + 1) (((es10).flatMap encInt) ++ [.int .i64 (-1)]) = .row 3 1 (.slice p29 ((0 + N10) + 1) k29) ((0 + N10) + 1) ((es10 ++ [-1]).flatMap encInt) from by simp [encInt])
      have O : Own w0 [] [.cells b28 [.int .i64 (-1)] 3, .row 3 1 (.slice p29 ((0 + N10) + 1) k29) ((0 + N10) + 1) ((es10 ++ [-1]).flatMap encInt), .row 3 1 (.slice (some ⟨b10, 0, none⟩) N10 C10) N10 (es10.flatMap encInt)] w := O
      refine so F rfl (o_call (vs := #[.slice p29 ((0 + N10) + 1) k29]) F Try.en_22 rfl rfl ((iRefsValid_ok p29 ((0 + N10) + 1) k29 (es10 ++ [-1]) w (O.arr 1 (es := es10 ++ [-1]) rfl encInt_len (by decide)) (by first | omega | (simp; done) | (simp; omega) | (simp at *; omega)) (by omega)).mono ?_))
      rintro e w ⟨rfl, K⟩
      refine ⟨_, rfl, fun a F => ?_⟩
      have O : Own w0 [] [.cells b28 [.int .i64 (-1)] 3, .row 3 1 (.slice p29 ((0 + N10) + 1) k29) ((0 + N10) + 1) ((es10 ++ [-1]).flatMap encInt), .row 3 1 (.slice (some ⟨b10, 0, none⟩) N10 C10) N10 (es10.flatMap encInt)] w := O.call0 K
      clear K
      have c30 : ¬ ((es10 ++ [-1]).length = 4 ∧ okIn (-1) (990) (es10 ++ [-1]) = true) := by intro h; have := h.1; simp at this; omega
      have F := F.setB (d := 30) rfl (decide_eq_false c30)
      have O : Own w0 [] [.cells b28 [.int .i64 (-1)] 3, .row 3 1 (.slice p29 ((0 + N10) + 1) k29) ((0 + N10) + 1) ((es10 ++ [-1]).flatMap encInt), .row 3 1 (.slice (some ⟨b10, 0, none⟩) N10 C10) N10 (es10.flatMap encInt)] w := O
      refine sp F (p_not rfl) rfl rfl fun a F => sp F (p_move rfl) rfl rfl fun a F => sp F (p_move rfl) rfl rfl fun a F => so F rfl (o_slfrom F rfl rfl Try.underlying22 Try.sz_3 (by omega) (by omega) rfl fun o34 ho34 a F => ?_)
      have O : Own w0 [] [.cells b28 [.int .i64 (-1)] 3, .row 3 1 (.slice p29 ((0 + N10) + 1) k29) ((0 + N10) + 1) ((es10 ++ [-1]).flatMap encInt), .row 3 1 (.slice (some ⟨b10, 0, none⟩) N10 C10) N10 (es10.flatMap encInt)] w := O
      refine so F rfl (o_call (vs := #[.slice (some ⟨b10, o34, none⟩) (N10 - (1 : Int).toNat) (C10 - (1 : Int).toNat)]) F Try.en_22 rfl rfl ((iRefsValid_ok (some ⟨b10, o34, none⟩) (N10 - (1 : Int).toNat) (C10 - (1 : Int).toNat) (es10.drop ((1 : Int).toNat)) w (O.arrSub 2 rfl encInt_len (by decide) ho34) (by first | omega | (simp; done) | (simp; omega) | (simp at *; omega)) (by omega)).mono ?_))
      rintro e w ⟨rfl, K⟩
      refine ⟨_, rfl, fun a F => ?_⟩
      have O : Own w0 [] [.cells b28 [.int .i64 (-1)] 3, .row 3 1 (.slice p29 ((0 + N10) + 1) k29) ((0 + N10) + 1) ((es10 ++ [-1]).flatMap encInt), .row 3 1 (.slice (some ⟨b10, 0, none⟩) N10 C10) N10 (es10.flatMap encInt)] w := O.call0 K
      clear K
      have c35 : ¬ ((es10.drop ((1 : Int).toNat)).length = 4 ∧ okIn (-1) (990) (es10.drop ((1 : Int).toNat)) = true) := by intro h; have := h.1; simp at this; omega
      have F := F.setB (d := 35) rfl (decide_eq_false c35)
      have O : Own w0 [] [.cells b28 [.int .i64 (-1)] 3, .row 3 1 (.slice p29 ((0 + N10) + 1) k29) ((0 + N10) + 1) ((es10 ++ [-1]).flatMap encInt), .row 3 1 (.slice (some ⟨b10, 0, none⟩) N10 C10) N10 (es10.flatMap encInt)] w := O
      refine sp F (p_not rfl) rfl rfl fun a F => sp F (p_pick (t := true) rfl rfl) rfl rfl fun a F => sp F (p_move rfl) rfl rfl fun a F => sp F (p_move rfl) rfl rfl fun a F => sp F (p_len_l rfl Try.underlying22) rfl rfl fun a F => sp F (p_eql rfl rfl) rfl rfl fun a F => ?_
      have c41 : (N10 : Int) = 4 := by omega
      have F := F.setB (d := 41) rfl (decide_eq_true c41)
      refine sp F (p_pick (t := true) rfl rfl) rfl rfl fun a F => sp F (p_assign rfl) rfl rfl fun a F => c_nil (hK9 _ _ (?_))
      try clear hK9 K9
      refine wp_ret (ret1 F rfl rfl (?_))
      have O : Own w0 [] [] w := (O.take 0)
      exact ⟨rfl, O⟩
    · have F := F.setB (d := 12) rfl (decide_eq_false c19)
      have F := F.setB (d := 4) rfl (decide_eq_false c19)
      have F := F.setB (d := 14) rfl (decide_eq_false c19)
      have F := F.setB (d := 5) rfl (decide_eq_false c19)
      have F := F.setB (d := 15) rfl (decide_eq_false c19)
      have F := F.setB (d := 16) rfl (decide_eq_false c19)
      have F := F.setB (d := 19) rfl (decide_eq_false c19)
      refine sp F (p_not rfl) rfl rfl fun a F => sp F (p_pick (t := false) rfl rfl) rfl rfl fun a F => c_nil (hK8 _ _ (?_))
      try clear hK8 K8
      refine c_ift F rfl (c_seq fun K9 hK9 => c_region (sp F (p_move rfl) rfl rfl fun a F => sp F (p_move rfl) rfl rfl fun a F => sp F (p_beqL rfl rfl Try.underlying4 true (by rfl)) rfl rfl fun a F => sp F (p_assign rfl) rfl rfl fun a F => c_nil (hK9 _ _ (?_))))
      try clear hK9 K9
      refine wp_ret (r_then (ret1 F rfl rfl (?_)))
      have O : Own w0 [] [] w := (O.take 0)
      exact ⟨rfl, O⟩

set_option maxRecDepth 100000 in
theorem refsValid_lifted (os : Os) (started : os.Started) (H : Type) (enc : TypeId × Value → H) :
    ReturnsInHanded {} Try.checked os 5 .any (Rows.fnRefsValidSpec.pre6 enc Try.prog Try.f5 Rows.fnRefsValidRow.domain false) (Rows.fnRefsValidSpec.post enc Try.prog Try.f5 false true false false) := by
  have e0 : Rows.fnRefsValidRow.domain = [] := rfl
  rw [e0]
  refine lifted_of (C := Try.checked) Try.facts started (by kernel_rfl) Try.func5 rfl ?_ (tb := 4) (by kernel_rfl) Try.underlying4 (by kernel_rfl)
    (ChangeSpec.witness6 (enc := enc) (C := Try.checked) false ⟨#[], #[.slice none 0 0], []⟩ 8 (by kernel_rfl) (by kernel_rfl) (by kernel_rfl) (by kernel_rfl)) ?_
  · intro ds hds
    match ds, hds with
    | [_], _ => rfl
  intro W base args ds p hval0 hA0
  have hval : ∀ (j : Nat) t v, Try.f5.params[j]? = some t → args[j]? = some v → Value.okWide Try.prog W .any base t v := hval0
  have hA : DataW.TrodAll enc Try.prog W 0 (fun _ => true) true Try.f5.params.toList args.toList ds p := hA0
  clear hA0 hval0
  show Calls Try.prog 5 args W _
  rw [Try.params5] at hA hval
  obtain ⟨v0, d0, hargs, rfl, h0⟩ := trodAll_one hA
  obtain rfl : args = #[v0] := by cases args; simp_all
  obtain ⟨a, n, c, rfl, hC⟩ := open_codeIn (hval 0 26 v0 rfl rfl) h0
  exact (refsValid_ok a n c W hC).mono fun e w' h => ⟨h.1, h.2.below⟩

theorem refsValid_pkg : ¬ Check.packageOf Try.f5.name = "main" := by
  intro h
  have h2 := congrArg String.toList h
  simp only [Check.packageOf, Try.f5] at h2
  simp at h2

theorem refsValid_closed : lawFacts Try.prog 5 Try.f5 Rows.fnRefsValidSpec Rows.fnRefsValidRow = true := by kernel_rfl
theorem refsValid_facts : joinedFacts Try.pinned.checked.prog 5 Try.f5 Rows.fnRefsValidSpec Rows.fnRefsValidRow = true := facts_of (P := Try.prog) Try.facts refsValid_closed

theorem refsValid_wrap : Func.isWrapper Try.pinned.checked.prog Try.f5 Rows.fnRefsValidRow.wrapper Rows.fnRefsValidRow.mainSum := by
  have e1 : Rows.fnRefsValidRow.wrapper = false := rfl
  have e2 : Rows.fnRefsValidRow.mainSum = "" := rfl
  rw [e1, e2]
  exact wrapper_of Try.pinned.checked.prog Try.f5 refsValid_pkg

/-- The statement. -/
theorem refsValid_over : Rows.fnRefsValidRow.holds Try.pinned (OpenSpec.ofChange Rows.fnRefsValidSpec) :=
  OpenClaim.holds_of_wide 5 Try.f5 rfl rfl rfl rfl rfl rfl rfl ⟨rfl, rfl, rfl, rfl, rfl⟩ rfl rfl rfl rfl rfl (by kernel_rfl) Try.func5 refsValid_facts
    (of_decide_eq_true (by kernel_rfl)) refsValid_wrap
    (fun os started H enc _ => refsValid_lifted os started H enc)
theorem refsValid_holds : Rows.FnRefsValidSaid := refsValid_over
#print axioms refsValid_holds

end Go.Proofs.Ytilpbddeijolbaa
