/- The two programs agree on the depths of entries of packs: the law FnExactPackDepth returns true. No conditions. -/
import Derived.Test.YtbhidkcljekobaaPkB
import Derived.Test.YtbhidkcljekobaaOpenP
namespace Go.Proofs.Ytbhidkcljekobaa
open Go.ChangeShapes Go.WideShapes Go.ChangeAt Go.RowKit
set_option linter.unusedVariables false
set_option linter.unusedSimpArgs false

set_option maxRecDepth 100000 in
/-- laws.FnExactPackDepth -/
theorem exPackDepth_ok (A : Option Addr) (n : Nat) (c : Nat) (es : List (Ent)) (L : List PE) (i : Int) (w0 : World) (hA : Arr w0 encEnt 4 A es) (hn : (n : Int) = es.length) (hb : (n : Int) ≤ 9223372036854775807) (hE : Ents w0 es L) (hB : BndL L) :
    Calls Try.prog 5 #[.slice A n c, .int .i64 (i)] w0 fun e w => e = .returned (.bool true) ∧ Own w0 [] [] w := by
  have O := Own.start w0
  refine enterO (n := 31) Try.func5 rfl rfl rfl O fun a w F O => ?_
  refine c_seq fun K1 hK1 => c_region (sp F (p_assign rfl) rfl rfl fun a F => c_nil (hK1 _ _ (?_)))
  try clear hK1 K1
  refine c_seq fun K2 hK2 => c_region (sp F (p_assign rfl) rfl rfl fun a F => c_nil (hK2 _ _ (?_)))
  try clear hK2 K2
  refine c_seq fun K3 hK3 => c_region (sp F (p_move rfl) rfl rfl fun a F => sp F (p_move rfl) rfl rfl fun a F => so F rfl (o_call (vs := #[.slice A n c, .int .i64 (1048576)]) F Try.en_18 rfl rfl ((szPackEntryS_ok A n c es L 1048576 w (hA.keep O) (by first | omega | (simp; done) | (simp; omega) | (simp at *; omega)) (by omega) (hE.keep O) (by assumption) (by omega) (by omega)).mono ?_)))
  rintro e w ⟨q11, rfl, h11a, K⟩
  refine ⟨_, rfl, fun a F => ?_⟩
  have O : Own w0 [] [] w := O.call0 K
  clear K
  have O : Own w0 [] [] w := O
  refine sp F (p_assign rfl) rfl rfl fun a F => c_nil (hK3 _ _ (?_))
  try clear hK3 K3
  refine c_seq fun K4 hK4 => c_seq fun K5 hK5 => c_region (sp F (p_move rfl) rfl rfl fun a F => sp F (p_lss rfl rfl) rfl rfl fun a F => c_nil (hK5 _ _ (?_)))
  try clear hK5 K5
  by_cases c13 : q11 < 0
  · have F := F.setB (d := 13) rfl (decide_eq_true c13)
    refine c_ift F rfl (c_seq fun K6 hK6 => c_region (sp F (p_assign rfl) rfl rfl fun a F => c_nil (hK6 _ _ (?_))))
    try clear hK6 K6
    refine wp_ret (r_then (ret1 F rfl rfl (?_)))
    exact ⟨rfl, O⟩
  · have F := F.setB (d := 13) rfl (decide_eq_false c13)
    refine c_iff F rfl (wp_skip (hK4 _ _ (?_)))
    try clear hK4 K4
    refine c_seq fun K6 hK6 => ?_
    obtain ⟨hn9, hSm⟩ : (n : Int) ≤ 1048576 ∧ SmallL L := by rcases h11a with h | h; omega; exact ⟨h.1.2, h.2⟩
    refine c_region (sp F (p_move rfl) rfl rfl fun a F => so F rfl (o_call (vs := #[.slice A n c]) F Try.en_20 rfl rfl ((toPackEntryS_ok A n c es L w (hA.keep O) (by first | omega | (simp; done) | (simp; omega) | (simp at *; omega)) (by omega) (hE.keep O) (by assumption)).mono ?_)))
    rintro e w ⟨b15, N15, es115, Z15, rfl, h15a, h15b, h15c, K⟩
    refine ⟨_, rfl, fun a F => ?_⟩
    have O : Own w0 [] ([.row 61 4 (.slice (some ⟨b15, 0, none⟩) N15 N15) N15 (es115.flatMap encEnt)] ++ entR Z15) w := (O.call0 K).tl1
    clear K
    have O : Own w0 [] ([.row 61 4 (.slice (some ⟨b15, 0, none⟩) N15 N15) N15 (es115.flatMap encEnt)] ++ entR Z15) w := O
    refine sp F (p_move rfl) rfl rfl fun a F => so F rfl (o_call (vs := #[.slice (some ⟨b15, 0, none⟩) N15 N15, .int .i64 (i)]) F Try.en_19 rfl rfl ((sPackDepth_ok (some ⟨b15, 0, none⟩) N15 N15 es115 i w (O.arr 0 (es := es115) rfl encEnt_len (by decide)) (by first | omega | (simp; done) | (simp; omega) | (simp at *; omega)) (by omega)).mono ?_))
    rintro e w ⟨r17, rfl, h17a, K⟩
    refine ⟨_, rfl, fun a F => ?_⟩
    have O : Own w0 [] ([.row 61 4 (.slice (some ⟨b15, 0, none⟩) N15 N15) N15 (es115.flatMap encEnt)] ++ entR Z15) w := O.call0 K
    clear K
    have O : Own w0 [] [] w := O.take 0
    have O : Own w0 [] [] w := O
    refine sp F (p_assign rfl) rfl rfl fun a F => c_nil (hK6 _ _ (?_))
    try clear hK6 K6
    refine c_seq fun K7 hK7 => c_region (sp F (p_move rfl) rfl rfl fun a F => so F rfl (o_call (vs := #[.slice A n c]) F Try.en_20 rfl rfl ((toPackEntryS_ok A n c es L w (hA.keep O) (by first | omega | (simp; done) | (simp; omega) | (simp at *; omega)) (by omega) (hE.keep O) (by assumption)).mono ?_)))
    rintro e w ⟨b19, N19, es119, Z19, rfl, h19a, h19b, h19c, K⟩
    refine ⟨_, rfl, fun a F => ?_⟩
    have O : Own w0 [] ([.row 61 4 (.slice (some ⟨b19, 0, none⟩) N19 N19) N19 (es119.flatMap encEnt)] ++ entR Z19) w := (O.call0 K).tl1
    clear K
    have O : Own w0 [] ([.row 61 4 (.slice (some ⟨b19, 0, none⟩) N19 N19) N19 (es119.flatMap encEnt)] ++ entR Z19) w := O
    refine sp F (p_assign rfl) rfl rfl fun a F => c_nil (hK7 _ _ (?_))
    try clear hK7 K7
    refine c_seq fun K8 hK8 => c_region (sp F (p_move rfl) rfl rfl fun a F => sp F (p_move rfl) rfl rfl fun a F => so F rfl (o_call (vs := #[.slice (some ⟨b19, 0, none⟩) N19 N19, .int .i64 (i)]) F Try.en_21 rfl rfl ((iPackDepth_ok (some ⟨b19, 0, none⟩) N19 N19 es119 i w (O.arr 0 (es := es119) rfl encEnt_len (by decide)) (by first | omega | (simp; done) | (simp; omega) | (simp at *; omega)) (by omega)).mono ?_)))
    rintro e w ⟨r22, rfl, h22a, K⟩
    refine ⟨_, rfl, fun a F => ?_⟩
    have O : Own w0 [] ([.row 61 4 (.slice (some ⟨b19, 0, none⟩) N19 N19) N19 (es119.flatMap encEnt)] ++ entR Z19) w := O.call0 K
    clear K
    have O : Own w0 [] ([.row 61 4 (.slice (some ⟨b19, 0, none⟩) N19 N19) N19 (es119.flatMap encEnt)] ++ entR Z19) w := O
    refine sp F (p_assign rfl) rfl rfl fun a F => c_nil (hK8 _ _ (?_))
    try clear hK8 K8
    refine c_seq fun K9 hK9 => c_seq fun K10 hK10 => c_region (sp F (p_move rfl) rfl rfl fun a F => sp F (p_move rfl) rfl rfl fun a F => sp F (p_neq rfl rfl) rfl rfl fun a F => ?_)
    have c25 : r22 = r17 := by rw [filled_bases h15c] at h17a; rw [filled_bases h19c] at h22a; exact pd_uniq h22a h17a
    have F := F.setB (d := 25) rfl (decide_eq_false (fun h => h c25))
    refine c_nil (hK10 _ _ (?_))
    try clear hK10 K10
    refine c_iff F rfl (wp_skip (hK9 _ _ (?_)))
    try clear hK9 K9
    refine c_seq fun K11 hK11 => c_seq fun K12 hK12 => c_region (sp F (p_move rfl) rfl rfl fun a F => sp F (p_move rfl) rfl rfl fun a F => so F rfl (o_call (vs := #[.slice A n c]) F Try.en_20 rfl rfl ((toPackEntryS_ok A n c es L w (hA.keep O) (by first | omega | (simp; done) | (simp; omega) | (simp at *; omega)) (by omega) (hE.keep O) (by assumption)).mono ?_)))
    rintro e w ⟨b28, N28, es128, Z28, rfl, h28a, h28b, h28c, K⟩
    refine ⟨_, rfl, fun a F => ?_⟩
    have O : Own w0 [] ([.row 61 4 (.slice (some ⟨b28, 0, none⟩) N28 N28) N28 (es128.flatMap encEnt), .row 61 4 (.slice (some ⟨b19, 0, none⟩) N19 N19) N19 (es119.flatMap encEnt)] ++ (entR Z28 ++ entR Z19)) w := (O.call0 K).tl2
    clear K
    have O : Own w0 [] ([.row 61 4 (.slice (some ⟨b28, 0, none⟩) N28 N28) N28 (es128.flatMap encEnt), .row 61 4 (.slice (some ⟨b19, 0, none⟩) N19 N19) N19 (es119.flatMap encEnt)] ++ (entR Z28 ++ entR Z19)) w := O
    refine so F rfl (o_call (vs := #[.slice (some ⟨b19, 0, none⟩) N19 N19, .slice (some ⟨b28, 0, none⟩) N28 N28]) F Try.en_22 rfl rfl ((eqPackEntryS_ok (some ⟨b19, 0, none⟩) N19 N19 es119 (some ⟨b28, 0, none⟩) N28 N28 es128 L L w (O.arr 1 (es := es119) rfl encEnt_len (by decide)) (by first | omega | (simp; done) | (simp; omega) | (simp at *; omega)) (by omega) (O.arr 0 (es := es128) rfl encEnt_len (by decide)) (by first | omega | (simp; done) | (simp; omega) | (simp at *; omega)) (by omega) (ents_of O h19c (fun r h => List.mem_append_right _ (List.mem_append_right _ h))) (ents_of O h28c (fun r h => List.mem_append_right _ (List.mem_append_left _ h))) (by assumption) (by assumption)).mono ?_))
    rintro e w ⟨rfl, K⟩
    refine ⟨_, rfl, fun a F => ?_⟩
    have O : Own w0 [] ([.row 61 4 (.slice (some ⟨b28, 0, none⟩) N28 N28) N28 (es128.flatMap encEnt), .row 61 4 (.slice (some ⟨b19, 0, none⟩) N19 N19) N19 (es119.flatMap encEnt)] ++ (entR Z28 ++ entR Z19)) w := O.call0 K
    clear K
    have c29 : L = L := by rfl
    have F := F.setB (d := 29) rfl (decide_eq_true c29)
    have O : Own w0 [] ([.row 61 4 (.slice (some ⟨b28, 0, none⟩) N28 N28) N28 (es128.flatMap encEnt), .row 61 4 (.slice (some ⟨b19, 0, none⟩) N19 N19) N19 (es119.flatMap encEnt)] ++ (entR Z28 ++ entR Z19)) w := O
    refine sp F (p_not rfl) rfl rfl fun a F => c_nil (hK12 _ _ (?_))
    try clear hK12 K12
    refine c_iff F rfl (wp_skip (hK11 _ _ (?_)))
    try clear hK11 K11
    refine c_seq fun K13 hK13 => c_region (sp F (p_assign rfl) rfl rfl fun a F => c_nil (hK13 _ _ (?_)))
    try clear hK13 K13
    refine wp_ret (ret1 F rfl rfl (?_))
    have O : Own w0 [] [] w := (O.take 0)
    exact ⟨rfl, O⟩

set_option maxRecDepth 100000 in
theorem exPackDepth_lifted (os : Os) (started : os.Started) (H : Type) (enc : TypeId × Value → H) :
    ReturnsInHanded {} Try.checked os 5 .any (Rows.fnExactPackDepthSpec.pre6 enc Try.prog Try.f5 Rows.fnExactPackDepthRow.domain false) (Rows.fnExactPackDepthSpec.post enc Try.prog Try.f5 false true false false) := by
  have e0 : Rows.fnExactPackDepthRow.domain = [] := rfl
  rw [e0]
  refine lifted_of (C := Try.checked) Try.facts started (by kernel_rfl) Try.func5 rfl ?_ (tb := 4) (by kernel_rfl) Try.underlying4 (by kernel_rfl)
    (ChangeSpec.witness6 (enc := enc) (C := Try.checked) false ⟨#[], #[.slice none 0 0, .int .i64 0], []⟩ 8 (by kernel_rfl) (by kernel_rfl) (by kernel_rfl) (by kernel_rfl)) ?_
  · intro ds hds
    match ds, hds with
    | [_, _], _ => rfl
  intro W base args ds p hval0 hA0
  have hval : ∀ (j : Nat) t v, Try.f5.params[j]? = some t → args[j]? = some v → Value.okWide Try.prog W .any base t v := hval0
  have hA : DataW.TrodAll enc Try.prog W 0 (fun _ => true) true Try.f5.params.toList args.toList ds p := hA0
  clear hA0 hval0
  show Calls Try.prog 5 args W _
  rw [Try.params5] at hA hval
  obtain ⟨v0, v1, d0, d1, p0, p1, hargs, rfl, rfl, h0, h1⟩ := trodAll_two hA
  obtain rfl : args = #[v0, v1] := by cases args; simp_all
  obtain ⟨a, n, c, es, L, rfl, hArr, hn, hb, hE, hB⟩ := open_packIn (hval 0 32 v0 rfl rfl) h0
  obtain ⟨t, rfl⟩ := okWide_int Try.underlying3 (hval 1 3 v1 rfl rfl)
  exact (exPackDepth_ok a n c es L t W hArr hn hb hE hB).mono fun e w' h => ⟨h.1, h.2.below⟩

theorem exPackDepth_pkg : ¬ Check.packageOf Try.f5.name = "main" := by
  intro h
  have h2 := congrArg String.toList h
  simp only [Check.packageOf, Try.f5] at h2
  simp at h2

theorem exPackDepth_closed : lawFacts Try.prog 5 Try.f5 Rows.fnExactPackDepthSpec Rows.fnExactPackDepthRow = true := by kernel_rfl
theorem exPackDepth_facts : joinedFacts Try.pinned.checked.prog 5 Try.f5 Rows.fnExactPackDepthSpec Rows.fnExactPackDepthRow = true := facts_of (P := Try.prog) Try.facts exPackDepth_closed

theorem exPackDepth_wrap : Func.isWrapper Try.pinned.checked.prog Try.f5 Rows.fnExactPackDepthRow.wrapper Rows.fnExactPackDepthRow.mainSum := by
  have e1 : Rows.fnExactPackDepthRow.wrapper = false := rfl
  have e2 : Rows.fnExactPackDepthRow.mainSum = "" := rfl
  rw [e1, e2]
  exact wrapper_of Try.pinned.checked.prog Try.f5 exPackDepth_pkg

/-- The statement. -/
theorem exPackDepth_over : Rows.fnExactPackDepthRow.holds Try.pinned (OpenSpec.ofChange Rows.fnExactPackDepthSpec) :=
  OpenClaim.holds_of_wide 5 Try.f5 rfl rfl rfl rfl rfl rfl rfl ⟨rfl, rfl, rfl, rfl, rfl⟩ rfl rfl rfl rfl rfl (by kernel_rfl) Try.func5 exPackDepth_facts
    (of_decide_eq_true (by kernel_rfl)) exPackDepth_wrap
    (fun os started H enc _ => exPackDepth_lifted os started H enc)
theorem exPackDepth_holds : Rows.FnExactPackDepthSaid := exPackDepth_over
#print axioms exPackDepth_holds

end Go.Proofs.Ytbhidkcljekobaa
