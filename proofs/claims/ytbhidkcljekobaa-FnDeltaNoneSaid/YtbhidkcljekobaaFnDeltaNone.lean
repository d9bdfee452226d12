/- Without a base everything is inserted: the law FnDeltaNone returns true. No conditions. -/
import Derived.Test.YtbhidkcljekobaaDelC
import Derived.Test.YtbhidkcljekobaaOpenC
import Derived.Test.YtbhidkcljekobaaDoorD
namespace Go.Proofs.Ytbhidkcljekobaa
open Go.ChangeShapes Go.WideShapes Go.ChangeAt Go.RowKit
set_option linter.unusedVariables false
set_option linter.unusedSimpArgs false


section
variable {b t x : List UInt8}
theorem cp_self : ∀ x : List UInt8, cp x x = x.length
  | [] => rfl
  | a :: l => by simp [cp, cp_self l]
theorem makeD_self (h2 : 2 ≤ (x.length : Int)) (h8 : (x.length : Int) ≤ 8) : makeD x x = [(0, (x.length : Int), [])] := by
  have e := long_uniq (longF_is x x x.length) (q := (0, (x.length : Int))) ⟨by simp, fun i _ => by have := cp_le (x.drop i) x; simp only; omega, .inr ⟨0, rfl, by omega, by simp [cp_self], by simp only; omega, fun i hi => by omega⟩⟩
  have ea : longA x x = 0 := by unfold longA; rw [e]
  have ez : longZ x x = x.length := by unfold longZ; rw [e]
  rw [makeD_ok ⟨h8, h8⟩]
  obtain ⟨f, hf⟩ : ∃ f, x.length = f + 1 := ⟨x.length - 1, by omega⟩
  rw [hf, mkD, if_neg (fun h => by rw [h] at h2; simp at h2)]
  unfold mkStep mkLen
  rw [ea, ez, if_pos h2, if_pos h2]
  have hd : x.drop ((x.length : Int)).toNat = [] := List.drop_eq_nil_of_le (by omega)
  rw [hd, List.nil_append]
  cases f with
  | zero => omega
  | succ f => rw [mkD, if_pos rfl, hf]
theorem mkD_none : ∀ (f : Nat) (t s : List UInt8), t.length ≤ f → mkD [] f t [(0, 0, s)] = [(0, 0, s ++ t)]
  | 0, t, s, h => by
    have : t = [] := List.length_eq_zero_iff.1 (by omega)
    subst this; simp [mkD]
  | f + 1, t, s, h => by
    rw [mkD]
    by_cases ht : t = []
    · subst ht; simp
    · rw [if_neg ht]
      have hz : longZ [] t = 0 := rfl
      unfold mkStep mkLen
      rw [hz, if_neg (by decide), if_neg (by decide)]
      have h0 := List.length_pos_iff.2 ht
      show mkD [] f (t.drop 1) [(0, 0, s ++ t.take 1)] = _
      rw [mkD_none f _ _ (by rw [List.length_drop]; omega), List.append_assoc, List.take_append_drop]
theorem makeD_none (h0 : ¬ t = []) (h8 : (t.length : Int) ≤ 8) : makeD [] t = [(0, 0, t)] := by
  rw [makeD_ok ⟨by simp, h8⟩]
  have hp := List.length_pos_iff.2 h0
  obtain ⟨f, hf⟩ : ∃ f, t.length = f + 1 := ⟨t.length - 1, by omega⟩
  rw [hf, mkD, if_neg h0]
  have hz : longZ [] t = 0 := rfl
  unfold mkStep mkLen
  rw [hz, if_neg (by decide), if_neg (by decide)]
  show mkD [] f (t.drop 1) [(0, 0, t.take 1)] = _
  rw [mkD_none f _ _ (by rw [List.length_drop]; omega), List.take_append_drop]
end
set_option maxRecDepth 100000 in
/-- laws.FnDeltaNone -/
theorem deltaNone_ok (A : Option Addr) (cn : Nat) (cc : Nat) (m0 : Int) (w0 : World) (hC : CodeIn w0 A cn cc) (hl_0 : 0 < w0.heap.size) (hm_0_0 : w0.cell? ⟨0, 0, none⟩ = some (.int .i64 (m0))) :
    Calls Try.prog 7 #[.slice A cn cc] w0 fun e w => e = .returned (.bool true) ∧ Own w0 [] [] w := by
  have O := Own.start w0
  have hcc : (cn : Int) ≤ cc := by have := hC.1; omega
  have hcm : (cc : Int) ≤ 9223372036854775807 := by have := hC.2.1; unfold maxLen at this; omega
  refine enterO (n := 43) Try.func7 rfl rfl rfl O fun a w F O => ?_
  refine c_seq fun K1 hK1 => c_region (sp F (p_assign rfl) rfl rfl fun a F => c_nil (hK1 _ _ (?_)))
  try clear hK1 K1
  refine c_seq fun K2 hK2 => c_seq fun K3 hK3 => c_region (sp F (p_move rfl) rfl rfl fun a F => sp F (p_len_l rfl Try.underlying22) rfl rfl fun a F => sp F (p_gtr rfl rfl) rfl rfl fun a F => c_nil (hK3 _ _ (?_)))
  try clear hK3 K3
  by_cases c9 : 1048576 < (cn : Int)
  · have F := F.setB (d := 9) rfl (decide_eq_true c9)
    refine c_ift F rfl (c_seq fun K4 hK4 => c_region (sp F (p_assign rfl) rfl rfl fun a F => c_nil (hK4 _ _ (?_))))
    try clear hK4 K4
    refine wp_ret (r_then (ret1 F rfl rfl (?_)))
    exact ⟨rfl, O⟩
  · have F := F.setB (d := 9) rfl (decide_eq_false c9)
    refine c_iff F rfl (wp_skip (hK2 _ _ (?_)))
    try clear hK2 K2
    refine c_seq fun K4 hK4 => c_region (sp F (p_move rfl) rfl rfl fun a F => so F rfl (o_call (vs := #[.slice A cn cc]) F Try.en_23 rfl rfl ((dDeltaMake_ok A cn cc w (hC.keep O)).mono ?_)))
    rintro e w ⟨L12, M12, rfl, h12a, h12b, K⟩
    refine ⟨_, rfl, fun a F => ?_⟩
    have O : Own w0 [] [] w := O.call0 K
    clear K
    have O : Own w0 [] [] w := O
    refine sp F (p_move rfl) rfl rfl fun a F => sp F (p_extract rfl rfl) rfl rfl fun a F => sp F (p_extract rfl rfl) rfl rfl fun a F => sp F (p_assign rfl) rfl rfl fun a F => sp F (p_assign rfl) rfl rfl fun a F => c_nil (hK4 _ _ (?_))
    try clear hK4 K4
    refine c_seq fun K5 hK5 => c_region (sp F (p_move rfl) rfl rfl fun a F => sp F (p_move rfl) rfl rfl fun a F => so F rfl (o_call (vs := #[.string (bs (L12)), .string (bs (M12))]) F Try.en_24 rfl rfl ((iDeltaMake_ok L12 M12 m0 w (by first | omega | (simp; done) | (simp; omega)) (by first | omega | (simp; done) | (simp; omega)) (Nat.lt_of_lt_of_le hl_0 O.size) (((O.old hl_0 (by simp)).trans hm_0_0))).mono ?_)))
    rintro e w ⟨P17, N17, C17, rfl, h17a, h17b, K⟩
    refine ⟨_, rfl, fun a F => ?_⟩
    have O : Own w0 [] [.row 43 3 (.slice P17 N17 C17) N17 ((makeD L12 M12).flatMap encOp)] w := O.call0 K
    clear K
    have O : Own w0 [] [.row 43 3 (.slice P17 N17 C17) N17 ((makeD L12 M12).flatMap encOp)] w := O
    refine sp F (p_assign rfl) rfl rfl fun a F => c_nil (hK5 _ _ (?_))
    try clear hK5 K5
    refine c_seq fun K6 hK6 => c_region (sp F (p_move rfl) rfl rfl fun a F => sp F (p_move rfl) rfl rfl fun a F => so F rfl (o_call (vs := #[.string (bs (L12)), .string (bs (M12))]) F Try.en_25 rfl rfl ((sDeltaMake_ok L12 M12 w (by first | omega | (simp; done) | (simp; omega)) (by first | omega | (simp; done) | (simp; omega))).mono ?_)))
    rintro e w ⟨P20, N20, C20, rfl, h20a, h20b, K⟩
    refine ⟨_, rfl, fun a F => ?_⟩
    have O : Own w0 [] [.row 43 3 (.slice P20 N20 C20) N20 ((makeD L12 M12).flatMap encOp), .row 43 3 (.slice P17 N17 C17) N17 ((makeD L12 M12).flatMap encOp)] w := O.call0 K
    clear K
    have O : Own w0 [] [.row 43 3 (.slice P20 N20 C20) N20 ((makeD L12 M12).flatMap encOp), .row 43 3 (.slice P17 N17 C17) N17 ((makeD L12 M12).flatMap encOp)] w := O
    refine sp F (p_assign rfl) rfl rfl fun a F => c_nil (hK6 _ _ (?_))
    try clear hK6 K6
    refine c_seq fun K7 hK7 => c_seq fun K8 hK8 => c_region (sp F (p_move rfl) rfl rfl fun a F => sp F (p_move rfl) rfl rfl fun a F => so F rfl (o_call (vs := #[.slice P17 N17 C17, .slice P20 N20 C20]) F Try.en_26 rfl rfl ((sameOps_ok P17 N17 C17 (makeD L12 M12) P20 N20 C20 (makeD L12 M12) w (O.arr 1 (es := makeD L12 M12) rfl encOp_len (by decide)) (by first | omega | (simp; done) | (simp; omega) | (simp at *; omega)) (by omega) (O.arr 0 (es := makeD L12 M12) rfl encOp_len (by decide)) (by first | omega | (simp; done) | (simp; omega) | (simp at *; omega)) (by omega)).mono ?_)))
    rintro e w ⟨rfl, K⟩
    refine ⟨_, rfl, fun a F => ?_⟩
    have O : Own w0 [] [.row 43 3 (.slice P20 N20 C20) N20 ((makeD L12 M12).flatMap encOp), .row 43 3 (.slice P17 N17 C17) N17 ((makeD L12 M12).flatMap encOp)] w := O.call0 K
    clear K
    have c23 : (makeD L12 M12) = (makeD L12 M12) := by rfl
    have F := F.setB (d := 23) rfl (decide_eq_true c23)
    have O : Own w0 [] [.row 43 3 (.slice P20 N20 C20) N20 ((makeD L12 M12).flatMap encOp), .row 43 3 (.slice P17 N17 C17) N17 ((makeD L12 M12).flatMap encOp)] w := O
    refine sp F (p_not rfl) rfl rfl fun a F => sp F (p_move rfl) rfl rfl fun a F => sp F (p_move rfl) rfl rfl fun a F => sp F (p_seq rfl rfl) rfl rfl fun a F => sp F (p_pick (t := false) rfl rfl) rfl rfl fun a F => sp F (p_move rfl) rfl rfl fun a F => ?_
    by_cases c29 : M12 = ([])
    · have F := F.setB (d := 27) rfl (decide_eq_true c29)
      have F := F.setB (d := 28) rfl (decide_eq_true c29)
      have F := F.setB (d := 29) rfl (decide_eq_true c29)
      refine ss F rfl rfl fun a F => ss F rfl rfl fun a F => ss F rfl rfl fun a F => sp F (p_pick (t := true) rfl rfl) rfl rfl fun a F => c_nil (hK8 _ _ (?_))
      try clear hK8 K8
      refine c_ift F rfl (c_seq fun K9 hK9 => c_region (sp F (p_move rfl) rfl rfl fun a F => sp F (p_move rfl) rfl rfl fun a F => so F rfl (o_call (vs := #[.slice P17 N17 C17, .slice P20 N20 C20]) F Try.en_26 rfl rfl ((sameOps_ok P17 N17 C17 (makeD L12 M12) P20 N20 C20 (makeD L12 M12) w (O.arr 1 (es := makeD L12 M12) rfl encOp_len (by decide)) (by first | omega | (simp; done) | (simp; omega) | (simp at *; omega)) (by omega) (O.arr 0 (es := makeD L12 M12) rfl encOp_len (by decide)) (by first | omega | (simp; done) | (simp; omega) | (simp at *; omega)) (by omega)).mono ?_))))
      rintro e w ⟨rfl, K⟩
      refine ⟨_, rfl, fun a F => ?_⟩
      have O : Own w0 [] [.row 43 3 (.slice P20 N20 C20) N20 ((makeD L12 M12).flatMap encOp), .row 43 3 (.slice P17 N17 C17) N17 ((makeD L12 M12).flatMap encOp)] w := O.call0 K
      clear K
      have F := F.setB (d := 36) rfl (decide_eq_true c23)
      have O : Own w0 [] [.row 43 3 (.slice P20 N20 C20) N20 ((makeD L12 M12).flatMap encOp), .row 43 3 (.slice P17 N17 C17) N17 ((makeD L12 M12).flatMap encOp)] w := O
      refine sp F (p_assign rfl) rfl rfl fun a F => c_nil (hK9 _ _ (?_))
      try clear hK9 K9
      refine wp_ret (r_then (ret1 F rfl rfl (?_)))
      have O : Own w0 [] [] w := (O.take 0)
      exact ⟨rfl, O⟩
    · have F := F.setB (d := 27) rfl (decide_eq_false c29)
      have F := F.setB (d := 28) rfl (decide_eq_false c29)
      have F := F.setB (d := 29) rfl (decide_eq_false c29)
      refine sp F (p_move rfl) rfl rfl fun a F => sp F (p_len_b rfl Try.underlying9) rfl rfl fun a F => sp F (p_gtr rfl rfl) rfl rfl fun a F => sp F (p_pick (t := false) rfl rfl) rfl rfl fun a F => c_nil (hK8 _ _ (?_))
      try clear hK8 K8
      by_cases c33 : 8 < (M12.length : Int)
      · have F := F.setB (d := 32) rfl (decide_eq_true c33)
        have F := F.setB (d := 33) rfl (decide_eq_true c33)
        refine c_ift F rfl (c_seq fun K9 hK9 => c_region (sp F (p_move rfl) rfl rfl fun a F => sp F (p_move rfl) rfl rfl fun a F => so F rfl (o_call (vs := #[.slice P17 N17 C17, .slice P20 N20 C20]) F Try.en_26 rfl rfl ((sameOps_ok P17 N17 C17 (makeD L12 M12) P20 N20 C20 (makeD L12 M12) w (O.arr 1 (es := makeD L12 M12) rfl encOp_len (by decide)) (by first | omega | (simp; done) | (simp; omega) | (simp at *; omega)) (by omega) (O.arr 0 (es := makeD L12 M12) rfl encOp_len (by decide)) (by first | omega | (simp; done) | (simp; omega) | (simp at *; omega)) (by omega)).mono ?_))))
        rintro e w ⟨rfl, K⟩
        refine ⟨_, rfl, fun a F => ?_⟩
        have O : Own w0 [] [.row 43 3 (.slice P20 N20 C20) N20 ((makeD L12 M12).flatMap encOp), .row 43 3 (.slice P17 N17 C17) N17 ((makeD L12 M12).flatMap encOp)] w := O.call0 K
        clear K
        have F := F.setB (d := 36) rfl (decide_eq_true c23)
        have O : Own w0 [] [.row 43 3 (.slice P20 N20 C20) N20 ((makeD L12 M12).flatMap encOp), .row 43 3 (.slice P17 N17 C17) N17 ((makeD L12 M12).flatMap encOp)] w := O
        refine sp F (p_assign rfl) rfl rfl fun a F => c_nil (hK9 _ _ (?_))
        try clear hK9 K9
        refine wp_ret (r_then (ret1 F rfl rfl (?_)))
        have O : Own w0 [] [] w := (O.take 0)
        exact ⟨rfl, O⟩
      · have F := F.setB (d := 32) rfl (decide_eq_false c33)
        have F := F.setB (d := 33) rfl (decide_eq_false c33)
        refine c_iff F rfl (wp_skip (hK7 _ _ (?_)))
        try clear hK7 K7
        refine c_seq fun K9 hK9 => c_region (sp F (p_move rfl) rfl rfl fun a F => so F rfl (o_call (vs := #[.string (bs ([])), .string (bs (M12))]) F Try.en_24 rfl rfl ((iDeltaMake_ok ([]) M12 m0 w (by first | omega | (simp; done) | (simp; omega)) (by first | omega | (simp; done) | (simp; omega)) (Nat.lt_of_lt_of_le hl_0 O.size) (((O.old hl_0 (by simp)).trans hm_0_0))).mono ?_)))
        rintro e w ⟨P38, N38, C38, rfl, h38a, h38b, K⟩
        refine ⟨_, rfl, fun a F => ?_⟩
        have O : Own w0 [] [.row 43 3 (.slice P38 N38 C38) N38 ((makeD ([]) M12).flatMap encOp), .row 43 3 (.slice P20 N20 C20) N20 ((makeD L12 M12).flatMap encOp), .row 43 3 (.slice P17 N17 C17) N17 ((makeD L12 M12).flatMap encOp)] w := O.call0 K
        clear K
        have O : Own w0 [] [.row 43 3 (.slice P38 N38 C38) N38 ((makeD ([]) M12).flatMap encOp), .row 43 3 (.slice P20 N20 C20) N20 ((makeD L12 M12).flatMap encOp), .row 43 3 (.slice P17 N17 C17) N17 ((makeD L12 M12).flatMap encOp)] w := O
        refine sp F (p_move rfl) rfl rfl fun a F => sp F (p_build (cs := [.int .i64 (0), .int .i64 (0), .string (bs (M12))]) rfl Try.places_43 rfl) rfl rfl fun a F => so F rfl (o_bslice (cs := [.int .i64 (0), .int .i64 (0), .string (bs (M12))]) F O rfl Try.underlying23 Try.sz_43 Try.zero_43 rfl rfl rfl fun b41 w O a F => ?_)
        have O : Own w0 [] [.cells b41 [.int .i64 (0), .int .i64 (0), .string (bs (M12))] 43, .row 43 3 (.slice P38 N38 C38) N38 ((makeD ([]) M12).flatMap encOp), .row 43 3 (.slice P20 N20 C20) N20 ((makeD L12 M12).flatMap encOp), .row 43 3 (.slice P17 N17 C17) N17 ((makeD L12 M12).flatMap encOp)] w := O
        refine so F rfl (o_call (vs := #[.slice P38 N38 C38, .slice (some ⟨b41, 0, none⟩) 1 1]) F Try.en_26 rfl rfl ((sameOps_ok P38 N38 C38 (makeD ([]) M12) (some ⟨b41, 0, none⟩) 1 1 ([(0, 0, M12)]) w (O.arr 1 (es := makeD ([]) M12) rfl encOp_len (by decide)) (by first | omega | (simp; done) | (simp; omega) | (simp at *; omega)) (by omega) (O.arrC 0 (es := [(0, 0, M12)]) rfl encOp_len (by decide)) (by first | omega | (simp; done) | (simp; omega) | (simp at *; omega)) (by omega)).mono ?_))
        rintro e w ⟨rfl, K⟩
        refine ⟨_, rfl, fun a F => ?_⟩
        have O : Own w0 [] [.cells b41 [.int .i64 (0), .int .i64 (0), .string (bs (M12))] 43, .row 43 3 (.slice P38 N38 C38) N38 ((makeD ([]) M12).flatMap encOp), .row 43 3 (.slice P20 N20 C20) N20 ((makeD L12 M12).flatMap encOp), .row 43 3 (.slice P17 N17 C17) N17 ((makeD L12 M12).flatMap encOp)] w := O.call0 K
        clear K
        have c42 : (makeD ([]) M12) = ([(0, 0, M12)]) := by exact makeD_none (by assumption) (by omega)
        have F := F.setB (d := 42) rfl (decide_eq_true c42)
        have O : Own w0 [] [.cells b41 [.int .i64 (0), .int .i64 (0), .string (bs (M12))] 43, .row 43 3 (.slice P38 N38 C38) N38 ((makeD ([]) M12).flatMap encOp), .row 43 3 (.slice P20 N20 C20) N20 ((makeD L12 M12).flatMap encOp), .row 43 3 (.slice P17 N17 C17) N17 ((makeD L12 M12).flatMap encOp)] w := O
        refine sp F (p_assign rfl) rfl rfl fun a F => c_nil (hK9 _ _ (?_))
        try clear hK9 K9
        refine wp_ret (ret1 F rfl rfl (?_))
        have O : Own w0 [] [] w := (O.take 0)
        exact ⟨rfl, O⟩

set_option maxRecDepth 100000 in
theorem deltaNone_lifted (os : Os) (started : os.Started) (H : Type) (enc : TypeId × Value → H) :
    ReturnsInHanded {} Try.checked os 7 .any (Rows.fnDeltaNoneSpec.pre6 enc Try.prog Try.f7 Rows.fnDeltaNoneRow.domain false) (Rows.fnDeltaNoneSpec.post enc Try.prog Try.f7 false true false false) := by
  have e0 : Rows.fnDeltaNoneRow.domain = [] := rfl
  rw [e0]
  refine lifted_shaped started (by kernel_rfl) Try.func7 rfl ?_ (by kernel_rfl) (by kernel_rfl)
    (ChangeSpec.witness6 (enc := enc) (C := Try.checked) false ⟨#[], #[.slice none 0 0], []⟩ 8 (by kernel_rfl) (by kernel_rfl) (by kernel_rfl) (by kernel_rfl)) ?_
  · intro ds hds
    match ds, hds with
    | [_], _ => rfl
  intro W base args ds p m0 hval0 hA0 hm hl
  have hval : ∀ (j : Nat) t v, Try.f7.params[j]? = some t → args[j]? = some v → Value.okWide Try.prog W .any base t v := hval0
  have hA : DataW.TrodAll enc Try.prog W 0 (fun _ => true) true Try.f7.params.toList args.toList ds p := hA0
  clear hA0 hval0
  show Calls Try.prog 7 args W _
  rw [Try.params7] at hA hval
  obtain ⟨v0, d0, hargs, rfl, h0⟩ := trodAll_one hA
  obtain rfl : args = #[v0] := by cases args; simp_all
  obtain ⟨a, n, c, rfl, hC⟩ := open_codeIn (hval 0 22 v0 rfl rfl) h0
  exact (deltaNone_ok a n c m0 W hC hl hm).mono fun e w' h => ⟨h.1, h.2.below⟩

theorem deltaNone_pkg : ¬ Check.packageOf Try.f7.name = "main" := by
  intro h
  have h2 := congrArg String.toList h
  simp only [Check.packageOf, Try.f7] at h2
  simp at h2

theorem deltaNone_closed : lawFacts Try.prog 7 Try.f7 Rows.fnDeltaNoneSpec Rows.fnDeltaNoneRow = true := by kernel_rfl
theorem deltaNone_facts : joinedFacts Try.pinned.checked.prog 7 Try.f7 Rows.fnDeltaNoneSpec Rows.fnDeltaNoneRow = true := facts_of (P := Try.prog) Try.facts deltaNone_closed

theorem deltaNone_wrap : Func.isWrapper Try.pinned.checked.prog Try.f7 Rows.fnDeltaNoneRow.wrapper Rows.fnDeltaNoneRow.mainSum := by
  have e1 : Rows.fnDeltaNoneRow.wrapper = false := rfl
  have e2 : Rows.fnDeltaNoneRow.mainSum = "" := rfl
  rw [e1, e2]
  exact wrapper_of Try.pinned.checked.prog Try.f7 deltaNone_pkg

/-- The statement. -/
theorem deltaNone_over : Rows.fnDeltaNoneRow.holds Try.pinned (OpenSpec.ofChange Rows.fnDeltaNoneSpec) :=
  OpenClaim.holds_of_wide 7 Try.f7 rfl rfl rfl rfl rfl rfl rfl ⟨rfl, rfl, rfl, rfl, rfl⟩ rfl rfl rfl rfl rfl (by kernel_rfl) Try.func7 deltaNone_facts
    (of_decide_eq_true (by kernel_rfl)) deltaNone_wrap
    (fun os started H enc _ => deltaNone_lifted os started H enc)
theorem deltaNone_holds : Rows.FnDeltaNoneSaid := deltaNone_over
#print axioms deltaNone_holds

end Go.Proofs.Ytbhidkcljekobaa
