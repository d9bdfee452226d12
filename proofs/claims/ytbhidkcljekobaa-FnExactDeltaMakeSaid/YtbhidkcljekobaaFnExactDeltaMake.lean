/- The two programs agree on making deltas: the law FnExactDeltaMake returns true. No conditions. -/
import Derived.Test.YtbhidkcljekobaaDelK
import Derived.Test.YtbhidkcljekobaaOpenC
import Derived.Test.YtbhidkcljekobaaDoorD
import Derived.ChangeMaps5
namespace Go.Proofs.Ytbhidkcljekobaa
open Go.ChangeShapes Go.WideShapes Go.ChangeAt Go.RowKit
set_option linter.unusedVariables false
set_option linter.unusedSimpArgs false


theorem open_text {H : Type} {enc : TypeId × Value → H} {W : World} {r : Reach} {b0 : Nat} {v : Value} {d : DataW H} {p : List MemPlace}
    (hv : Value.okWide Try.prog W r b0 9 v) (h : DataW.Trod enc Try.prog W 0 (fun _ => true) true 9 v d p) : ∃ s : List UInt8, v = .string (bs s) ∧ (s.length : Int) ≤ 9223372036854775807 := by
  obtain ⟨b, rfl, _, _, hb⟩ := Go.ChangeMaps.open_string Try.underlying9 hv h
  exact ⟨b.data.toList, by rw [← bs_of b], by rw [bs_of b, bs_size] at hb; unfold maxLen at hb; omega⟩
set_option maxRecDepth 100000 in
/-- laws.FnExactDeltaMake -/
theorem exDeltaMake_ok (x : List UInt8) (y : List UInt8) (m0 : Int) (w0 : World) (hx : (x.length : Int) ≤ 9223372036854775807) (hy : (y.length : Int) ≤ 9223372036854775807) (hl_0 : 0 < w0.heap.size) (hm_0_0 : w0.cell? ⟨0, 0, none⟩ = some (.int .i64 (m0))) :
    Calls Try.prog 11 #[.string (bs (x)), .string (bs (y))] w0 fun e w => e = .returned (.bool true) ∧ Own w0 [] [] w := by
  have O := Own.start w0
  refine enterO (n := 52) Try.func11 rfl rfl rfl O fun a w F O => ?_
  refine c_seq fun K1 hK1 => c_region (sp F (p_assign rfl) rfl rfl fun a F => c_nil (hK1 _ _ (?_)))
  try clear hK1 K1
  refine c_seq fun K2 hK2 => c_seq fun K3 hK3 => c_region (sp F (p_move rfl) rfl rfl fun a F => sp F (p_len_b rfl Try.underlying9) rfl rfl fun a F => sp F (p_gtr rfl rfl) rfl rfl fun a F => c_nil (hK3 _ _ (?_)))
  try clear hK3 K3
  by_cases c12 : 1048576 < (x.length : Int)
  · have F := F.setB (d := 12) rfl (decide_eq_true c12)
    refine c_ift F rfl (c_seq fun K4 hK4 => c_region (sp F (p_assign rfl) rfl rfl fun a F => c_nil (hK4 _ _ (?_))))
    try clear hK4 K4
    refine wp_ret (r_then (ret1 F rfl rfl (?_)))
    exact ⟨rfl, O⟩
  · have F := F.setB (d := 12) rfl (decide_eq_false c12)
    refine c_iff F rfl (wp_skip (hK2 _ _ (?_)))
    try clear hK2 K2
    refine c_seq fun K4 hK4 => c_seq fun K5 hK5 => c_region (sp F (p_move rfl) rfl rfl fun a F => sp F (p_len_b rfl Try.underlying9) rfl rfl fun a F => sp F (p_gtr rfl rfl) rfl rfl fun a F => c_nil (hK5 _ _ (?_)))
    try clear hK5 K5
    by_cases c15 : 1048576 < (y.length : Int)
    · have F := F.setB (d := 15) rfl (decide_eq_true c15)
      refine c_ift F rfl (c_seq fun K6 hK6 => c_region (sp F (p_assign rfl) rfl rfl fun a F => c_nil (hK6 _ _ (?_))))
      try clear hK6 K6
      refine wp_ret (r_then (ret1 F rfl rfl (?_)))
      exact ⟨rfl, O⟩
    · have F := F.setB (d := 15) rfl (decide_eq_false c15)
      refine c_iff F rfl (wp_skip (hK4 _ _ (?_)))
      try clear hK4 K4
      refine c_seq fun K6 hK6 => c_region (sp F (p_move rfl) rfl rfl fun a F => sp F (p_move rfl) rfl rfl fun a F => so F rfl (o_call (vs := #[.string (bs (x)), .string (bs (y))]) F Try.en_25 rfl rfl ((sDeltaMake_ok x y w (by first | omega | (simp; done) | (simp; omega)) (by first | omega | (simp; done) | (simp; omega))).mono ?_)))
      rintro e w ⟨P18, N18, C18, rfl, h18a, h18b, K⟩
      refine ⟨_, rfl, fun a F => ?_⟩
      have O : Own w0 [] [.row 43 3 (.slice P18 N18 C18) N18 ((makeD x y).flatMap encOp)] w := O.call0 K
      clear K
      have O : Own w0 [] [.row 43 3 (.slice P18 N18 C18) N18 ((makeD x y).flatMap encOp)] w := O
      refine sp F (p_assign rfl) rfl rfl fun a F => c_nil (hK6 _ _ (?_))
      try clear hK6 K6
      refine c_seq fun K7 hK7 => c_region (sp F (p_move rfl) rfl rfl fun a F => sp F (p_move rfl) rfl rfl fun a F => so F rfl (o_call (vs := #[.string (bs (x)), .string (bs (y))]) F Try.en_24 rfl rfl ((iDeltaMake_ok x y m0 w (by first | omega | (simp; done) | (simp; omega)) (by first | omega | (simp; done) | (simp; omega)) (Nat.lt_of_lt_of_le hl_0 O.size) (((O.old hl_0 (by simp)).trans hm_0_0))).mono ?_)))
      rintro e w ⟨P21, N21, C21, rfl, h21a, h21b, K⟩
      refine ⟨_, rfl, fun a F => ?_⟩
      have O : Own w0 [] [.row 43 3 (.slice P21 N21 C21) N21 ((makeD x y).flatMap encOp), .row 43 3 (.slice P18 N18 C18) N18 ((makeD x y).flatMap encOp)] w := O.call0 K
      clear K
      have O : Own w0 [] [.row 43 3 (.slice P21 N21 C21) N21 ((makeD x y).flatMap encOp), .row 43 3 (.slice P18 N18 C18) N18 ((makeD x y).flatMap encOp)] w := O
      refine sp F (p_assign rfl) rfl rfl fun a F => c_nil (hK7 _ _ (?_))
      try clear hK7 K7
      refine c_seq fun K8 hK8 => c_seq fun K9 hK9 => c_region (sp F (p_move rfl) rfl rfl fun a F => sp F (p_move rfl) rfl rfl fun a F => so F rfl (o_call (vs := #[.slice P21 N21 C21, .slice P18 N18 C18]) F Try.en_17 rfl rfl ((eqOpS_ok P21 N21 C21 (makeD x y) P18 N18 C18 (makeD x y) w (O.arr 0 (es := makeD x y) rfl encOp_len (by decide)) (by first | omega | (simp; done) | (simp; omega) | (simp at *; omega)) (by omega) (O.arr 1 (es := makeD x y) rfl encOp_len (by decide)) (by first | omega | (simp; done) | (simp; omega) | (simp at *; omega)) (by omega)).mono ?_)))
      rintro e w ⟨rfl, K⟩
      refine ⟨_, rfl, fun a F => ?_⟩
      have O : Own w0 [] [.row 43 3 (.slice P21 N21 C21) N21 ((makeD x y).flatMap encOp), .row 43 3 (.slice P18 N18 C18) N18 ((makeD x y).flatMap encOp)] w := O.call0 K
      clear K
      have c24 : (makeD x y) = (makeD x y) := by rfl
      have F := F.setB (d := 24) rfl (decide_eq_true c24)
      have O : Own w0 [] [.row 43 3 (.slice P21 N21 C21) N21 ((makeD x y).flatMap encOp), .row 43 3 (.slice P18 N18 C18) N18 ((makeD x y).flatMap encOp)] w := O
      refine sp F (p_not rfl) rfl rfl fun a F => c_nil (hK9 _ _ (?_))
      try clear hK9 K9
      refine c_iff F rfl (wp_skip (hK8 _ _ (?_)))
      try clear hK8 K8
      refine c_seq fun K10 hK10 => c_region (sp F (p_assign rfl) rfl rfl fun a F => c_nil (hK10 _ _ (?_)))
      try clear hK10 K10
      refine c_seq fun K11 hK11 => c_region (sp F (p_move rfl) rfl rfl fun a F => sp F (p_move rfl) rfl rfl fun a F => so F rfl (o_call (vs := #[.slice P21 N21 C21, .int .i64 (1)]) F Try.en_27 rfl rfl ((markOpS P21 N21 C21 (makeD x y) 1 w (by first | omega | (simp; done) | (simp; omega) | (simp at *; omega)) (by omega) (by omega) (by omega) O.handR).mono ?_)))
      rintro e w ⟨es128, rfl, h28a, h28b, K⟩
      refine ⟨_, rfl, fun a F => ?_⟩
      have O : Own w0 [] [.row 43 3 (.slice P21 N21 C21) N21 (es128.flatMap encOp), .row 43 3 (.slice P18 N18 C18) N18 ((makeD x y).flatMap encOp)] w := O.callR K
      clear K
      have O : Own w0 [] [.row 43 3 (.slice P21 N21 C21) N21 (es128.flatMap encOp), .row 43 3 (.slice P18 N18 C18) N18 ((makeD x y).flatMap encOp)] w := O
      refine sp F (p_assign rfl) rfl rfl fun a F => c_nil (hK11 _ _ (?_))
      try clear hK11 K11
      refine c_seq fun K12 hK12 => c_region (sp F (p_assign rfl) rfl rfl fun a F => c_nil (hK12 _ _ (?_)))
      try clear hK12 K12
      refine c_seq fun K13 hK13 => c_region (sp F (p_move rfl) rfl rfl fun a F => sp F (p_move rfl) rfl rfl fun a F => so F rfl (o_call (vs := #[.slice P21 N21 C21, .int .i64 (1)]) F Try.en_28 rfl rfl ((heldOpS_ok P21 N21 C21 es128 1 w (O.arr 0 (es := es128) rfl encOp_len (by decide)) (by first | omega | (simp; done) | (simp; omega) | (simp at *; omega)) (by omega) (by assumption) (by omega) (by omega)).mono ?_)))
      rintro e w ⟨rfl, K⟩
      refine ⟨_, rfl, fun a F => ?_⟩
      have O : Own w0 [] [.row 43 3 (.slice P21 N21 C21) N21 (es128.flatMap encOp), .row 43 3 (.slice P18 N18 C18) N18 ((makeD x y).flatMap encOp)] w := O.call0 K
      clear K
      have O : Own w0 [] [.row 43 3 (.slice P21 N21 C21) N21 (es128.flatMap encOp), .row 43 3 (.slice P18 N18 C18) N18 ((makeD x y).flatMap encOp)] w := O
      refine sp F (p_assign rfl) rfl rfl fun a F => c_nil (hK13 _ _ (?_))
      try clear hK13 K13
      refine c_seq fun K14 hK14 => c_seq fun K15 hK15 => c_region (sp F (p_move rfl) rfl rfl fun a F => sp F (p_lss rfl rfl) rfl rfl fun a F => ?_)
      have c33 : ¬ ((1 + 3 * (N21 : Int)) < 0) := by omega
      have F := F.setB (d := 33) rfl (decide_eq_false c33)
      refine c_nil (hK15 _ _ (?_))
      try clear hK15 K15
      refine c_iff F rfl (wp_skip (hK14 _ _ (?_)))
      try clear hK14 K14
      refine c_seq fun K16 hK16 => c_seq fun K17 hK17 => c_region (sp F (p_move rfl) rfl rfl fun a F => sp F (p_move rfl) rfl rfl fun a F => sp F (p_neq rfl rfl) rfl rfl fun a F => ?_)
      have c36 : (1 + 3 * (N21 : Int)) = (1 + 3 * (N21 : Int)) := by omega
      have F := F.setB (d := 36) rfl (decide_eq_false (fun h => h c36))
      refine c_nil (hK17 _ _ (?_))
      try clear hK17 K17
      refine c_iff F rfl (wp_skip (hK16 _ _ (?_)))
      try clear hK16 K16
      refine c_seq fun K18 hK18 => c_region (sp F (p_move rfl) rfl rfl fun a F => sp F (p_move rfl) rfl rfl fun a F => so F rfl (o_call (vs := #[.string (bs (x)), .string (bs (y))]) F Try.en_24 rfl rfl ((iDeltaMake_ok x y m0 w (by first | omega | (simp; done) | (simp; omega)) (by first | omega | (simp; done) | (simp; omega)) (Nat.lt_of_lt_of_le hl_0 O.size) (((O.old hl_0 (by simp)).trans hm_0_0))).mono ?_)))
      rintro e w ⟨P39, N39, C39, rfl, h39a, h39b, K⟩
      refine ⟨_, rfl, fun a F => ?_⟩
      have O : Own w0 [] [.row 43 3 (.slice P39 N39 C39) N39 ((makeD x y).flatMap encOp), .row 43 3 (.slice P21 N21 C21) N21 (es128.flatMap encOp), .row 43 3 (.slice P18 N18 C18) N18 ((makeD x y).flatMap encOp)] w := O.call0 K
      clear K
      have O : Own w0 [] [.row 43 3 (.slice P39 N39 C39) N39 ((makeD x y).flatMap encOp), .row 43 3 (.slice P21 N21 C21) N21 (es128.flatMap encOp), .row 43 3 (.slice P18 N18 C18) N18 ((makeD x y).flatMap encOp)] w := O
      refine sp F (p_assign rfl) rfl rfl fun a F => c_nil (hK18 _ _ (?_))
      try clear hK18 K18
      refine c_seq fun K19 hK19 => c_seq fun K20 hK20 => c_region (sp F (p_move rfl) rfl rfl fun a F => sp F (p_move rfl) rfl rfl fun a F => so F rfl (o_call (vs := #[.slice P39 N39 C39, .slice P18 N18 C18]) F Try.en_17 rfl rfl ((eqOpS_ok P39 N39 C39 (makeD x y) P18 N18 C18 (makeD x y) w (O.arr 0 (es := makeD x y) rfl encOp_len (by decide)) (by first | omega | (simp; done) | (simp; omega) | (simp at *; omega)) (by omega) (O.arr 2 (es := makeD x y) rfl encOp_len (by decide)) (by first | omega | (simp; done) | (simp; omega) | (simp at *; omega)) (by omega)).mono ?_)))
      rintro e w ⟨rfl, K⟩
      refine ⟨_, rfl, fun a F => ?_⟩
      have O : Own w0 [] [.row 43 3 (.slice P39 N39 C39) N39 ((makeD x y).flatMap encOp), .row 43 3 (.slice P21 N21 C21) N21 (es128.flatMap encOp), .row 43 3 (.slice P18 N18 C18) N18 ((makeD x y).flatMap encOp)] w := O.call0 K
      clear K
      have F := F.setB (d := 42) rfl (decide_eq_true c24)
      have O : Own w0 [] [.row 43 3 (.slice P39 N39 C39) N39 ((makeD x y).flatMap encOp), .row 43 3 (.slice P21 N21 C21) N21 (es128.flatMap encOp), .row 43 3 (.slice P18 N18 C18) N18 ((makeD x y).flatMap encOp)] w := O
      refine sp F (p_not rfl) rfl rfl fun a F => c_nil (hK20 _ _ (?_))
      try clear hK20 K20
      refine c_iff F rfl (wp_skip (hK19 _ _ (?_)))
      try clear hK19 K19
      refine c_seq fun K21 hK21 => c_region (sp F (p_assign rfl) rfl rfl fun a F => c_nil (hK21 _ _ (?_)))
      try clear hK21 K21
      refine c_seq fun K22 hK22 => c_region (sp F (p_move rfl) rfl rfl fun a F => sp F (p_move rfl) rfl rfl fun a F => so F rfl (o_call (vs := #[.slice P21 N21 C21, .int .i64 (1)]) F Try.en_28 rfl rfl ((heldOpS_ok P21 N21 C21 es128 1 w (O.arr 1 (es := es128) rfl encOp_len (by decide)) (by first | omega | (simp; done) | (simp; omega) | (simp at *; omega)) (by omega) (by assumption) (by omega) (by omega)).mono ?_)))
      rintro e w ⟨rfl, K⟩
      refine ⟨_, rfl, fun a F => ?_⟩
      have O : Own w0 [] [.row 43 3 (.slice P39 N39 C39) N39 ((makeD x y).flatMap encOp), .row 43 3 (.slice P21 N21 C21) N21 (es128.flatMap encOp), .row 43 3 (.slice P18 N18 C18) N18 ((makeD x y).flatMap encOp)] w := O.call0 K
      clear K
      have O : Own w0 [] [.row 43 3 (.slice P39 N39 C39) N39 ((makeD x y).flatMap encOp), .row 43 3 (.slice P21 N21 C21) N21 (es128.flatMap encOp), .row 43 3 (.slice P18 N18 C18) N18 ((makeD x y).flatMap encOp)] w := O
      refine sp F (p_assign rfl) rfl rfl fun a F => c_nil (hK22 _ _ (?_))
      try clear hK22 K22
      refine c_seq fun K23 hK23 => c_seq fun K24 hK24 => c_region (sp F (p_move rfl) rfl rfl fun a F => sp F (p_lss rfl rfl) rfl rfl fun a F => ?_)
      have F := F.setB (d := 48) rfl (decide_eq_false c33)
      refine c_nil (hK24 _ _ (?_))
      try clear hK24 K24
      refine c_iff F rfl (wp_skip (hK23 _ _ (?_)))
      try clear hK23 K23
      refine c_seq fun K25 hK25 => c_seq fun K26 hK26 => c_region (sp F (p_move rfl) rfl rfl fun a F => sp F (p_move rfl) rfl rfl fun a F => sp F (p_neq rfl rfl) rfl rfl fun a F => ?_)
      have F := F.setB (d := 51) rfl (decide_eq_false (fun h => h c36))
      refine c_nil (hK26 _ _ (?_))
      try clear hK26 K26
      refine c_iff F rfl (wp_skip (hK25 _ _ (?_)))
      try clear hK25 K25
      refine c_seq fun K27 hK27 => c_region (sp F (p_assign rfl) rfl rfl fun a F => c_nil (hK27 _ _ (?_)))
      try clear hK27 K27
      refine wp_ret (ret1 F rfl rfl (?_))
      have O : Own w0 [] [] w := (O.take 0)
      exact ⟨rfl, O⟩

set_option maxRecDepth 100000 in
theorem exDeltaMake_lifted (os : Os) (started : os.Started) (H : Type) (enc : TypeId × Value → H) :
    ReturnsInHanded {} Try.checked os 11 .any (Rows.fnExactDeltaMakeSpec.pre6 enc Try.prog Try.f11 Rows.fnExactDeltaMakeRow.domain false) (Rows.fnExactDeltaMakeSpec.post enc Try.prog Try.f11 false true false false) := by
  have e0 : Rows.fnExactDeltaMakeRow.domain = [] := rfl
  rw [e0]
  refine lifted_shaped started (by kernel_rfl) Try.func11 rfl ?_ (by kernel_rfl) (by kernel_rfl)
    (ChangeSpec.witness6 (enc := enc) (C := Try.checked) false ⟨#[], #[.string ByteArray.empty, .string ByteArray.empty], []⟩ 8 (by kernel_rfl) (by kernel_rfl) (by kernel_rfl) (by kernel_rfl)) ?_
  · intro ds hds
    match ds, hds with
    | [_, _], _ => rfl
  intro W base args ds p m0 hval0 hA0 hm hl
  have hval : ∀ (j : Nat) t v, Try.f11.params[j]? = some t → args[j]? = some v → Value.okWide Try.prog W .any base t v := hval0
  have hA : DataW.TrodAll enc Try.prog W 0 (fun _ => true) true Try.f11.params.toList args.toList ds p := hA0
  clear hA0 hval0
  show Calls Try.prog 11 args W _
  rw [Try.params11] at hA hval
  obtain ⟨v0, v1, d0, d1, p0, p1, hargs, rfl, rfl, h0, h1⟩ := trodAll_two hA
  obtain rfl : args = #[v0, v1] := by cases args; simp_all
  obtain ⟨s0, rfl, hs0⟩ := open_text (hval 0 9 v0 rfl rfl) h0
  obtain ⟨s1, rfl, hs1⟩ := open_text (hval 1 9 v1 rfl rfl) h1
  exact (exDeltaMake_ok s0 s1 m0 W hs0 hs1 hl hm).mono fun e w' h => ⟨h.1, h.2.below⟩

theorem exDeltaMake_pkg : ¬ Check.packageOf Try.f11.name = "main" := by
  intro h
  have h2 := congrArg String.toList h
  simp only [Check.packageOf, Try.f11] at h2
  simp at h2

theorem exDeltaMake_closed : lawFacts Try.prog 11 Try.f11 Rows.fnExactDeltaMakeSpec Rows.fnExactDeltaMakeRow = true := by kernel_rfl
theorem exDeltaMake_facts : joinedFacts Try.pinned.checked.prog 11 Try.f11 Rows.fnExactDeltaMakeSpec Rows.fnExactDeltaMakeRow = true := facts_of (P := Try.prog) Try.facts exDeltaMake_closed

theorem exDeltaMake_wrap : Func.isWrapper Try.pinned.checked.prog Try.f11 Rows.fnExactDeltaMakeRow.wrapper Rows.fnExactDeltaMakeRow.mainSum := by
  have e1 : Rows.fnExactDeltaMakeRow.wrapper = false := rfl
  have e2 : Rows.fnExactDeltaMakeRow.mainSum = "" := rfl
  rw [e1, e2]
  exact wrapper_of Try.pinned.checked.prog Try.f11 exDeltaMake_pkg

/-- The statement. -/
theorem exDeltaMake_over : Rows.fnExactDeltaMakeRow.holds Try.pinned (OpenSpec.ofChange Rows.fnExactDeltaMakeSpec) :=
  OpenClaim.holds_of_wide 11 Try.f11 rfl rfl rfl rfl rfl rfl rfl ⟨rfl, rfl, rfl, rfl, rfl⟩ rfl rfl rfl rfl rfl (by kernel_rfl) Try.func11 exDeltaMake_facts
    (of_decide_eq_true (by kernel_rfl)) exDeltaMake_wrap
    (fun os started H enc _ => exDeltaMake_lifted os started H enc)
theorem exDeltaMake_holds : Rows.FnExactDeltaMakeSaid := exDeltaMake_over
#print axioms exDeltaMake_holds

end Go.Proofs.Ytbhidkcljekobaa
