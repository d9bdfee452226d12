/- A text of itself is one copy: the law FnDeltaSelf returns true. No conditions. -/
import Derived.Test.YtbhidkcljekobaaDelC
import Derived.Test.YtbhidkcljekobaaOpenC
import Derived.Test.YtbhidkcljekobaaDoorD
namespace Go.Proofs.Ytbhidkcljekobaa
open Go.ChangeShapes Go.WideShapes Go.ChangeAt Go.RowKit
set_option linter.unusedVariables false
set_option linter.unusedSimpArgs false


section
variable {b t x : List UInt8}
theorem cp_self : ∀ x : List UInt8, cp x x = x.length
  | [] => rfl
  | a :: l => by simp [cp, cp_self l]
theorem makeD_self (h2 : 2 ≤ (x.length : Int)) (h8 : (x.length : Int) ≤ 8) : makeD x x = [(0, (x.length : Int), [])] := by
  have e := long_uniq (longF_is x x x.length) (q := (0, (x.length : Int))) ⟨by simp, fun i _ => by have := cp_le (x.drop i) x; simp only; omega, .inr ⟨0, rfl, by omega, by simp [cp_self], by simp only; omega, fun i hi => by omega⟩⟩
  have ea : longA x x = 0 := by unfold longA; rw [e]
  have ez : longZ x x = x.length := by unfold longZ; rw [e]
  rw [makeD_ok ⟨h8, h8⟩]
  obtain ⟨f, hf⟩ : ∃ f, x.length = f + 1 := ⟨x.length - 1, by omega⟩
  rw [hf, mkD, if_neg (fun h => by rw [h] at h2; simp at h2)]
  unfold mkStep mkLen
  rw [ea, ez, if_pos h2, if_pos h2]
  have hd : x.drop ((x.length : Int)).toNat = [] := List.drop_eq_nil_of_le (by omega)
  rw [hd, List.nil_append]
  cases f with
  | zero => omega
  | succ f => rw [mkD, if_pos rfl, hf]
theorem mkD_none : ∀ (f : Nat) (t s : List UInt8), t.length ≤ f → mkD [] f t [(0, 0, s)] = [(0, 0, s ++ t)]
  | 0, t, s, h => by
    have : t = [] := List.length_eq_zero_iff.1 (by omega)
    subst this; simp [mkD]
  | f + 1, t, s, h => by
    rw [mkD]
    by_cases ht : t = []
    · subst ht; simp
    · rw [if_neg ht]
      have hz : longZ [] t = 0 := rfl
      unfold mkStep mkLen
      rw [hz, if_neg (by decide), if_neg (by decide)]
      have h0 := List.length_pos_iff.2 ht
      show mkD [] f (t.drop 1) [(0, 0, s ++ t.take 1)] = _
      rw [mkD_none f _ _ (by rw [List.length_drop]; omega), List.append_assoc, List.take_append_drop]
theorem makeD_none (h0 : ¬ t = []) (h8 : (t.length : Int) ≤ 8) : makeD [] t = [(0, 0, t)] := by
  rw [makeD_ok ⟨by simp, h8⟩]
  have hp := List.length_pos_iff.2 h0
  obtain ⟨f, hf⟩ : ∃ f, t.length = f + 1 := ⟨t.length - 1, by omega⟩
  rw [hf, mkD, if_neg h0]
  have hz : longZ [] t = 0 := rfl
  unfold mkStep mkLen
  rw [hz, if_neg (by decide), if_neg (by decide)]
  show mkD [] f (t.drop 1) [(0, 0, t.take 1)] = _
  rw [mkD_none f _ _ (by rw [List.length_drop]; omega), List.take_append_drop]
end
set_option maxRecDepth 100000 in
/-- laws.FnDeltaSelf -/
theorem deltaSelf_ok (A : Option Addr) (cn : Nat) (cc : Nat) (m0 : Int) (w0 : World) (hC : CodeIn w0 A cn cc) (hl_0 : 0 < w0.heap.size) (hm_0_0 : w0.cell? ⟨0, 0, none⟩ = some (.int .i64 (m0))) :
    Calls Try.prog 9 #[.slice A cn cc] w0 fun e w => e = .returned (.bool true) ∧ Own w0 [] [] w := by
  have O := Own.start w0
  have hcc : (cn : Int) ≤ cc := by have := hC.1; omega
  have hcm : (cc : Int) ≤ 9223372036854775807 := by have := hC.2.1; unfold maxLen at this; omega
  refine enterO (n := 46) Try.func9 rfl rfl rfl O fun a w F O => ?_
  refine c_seq fun K1 hK1 => c_region (sp F (p_assign rfl) rfl rfl fun a F => c_nil (hK1 _ _ (?_)))
  try clear hK1 K1
  refine c_seq fun K2 hK2 => c_seq fun K3 hK3 => c_region (sp F (p_move rfl) rfl rfl fun a F => sp F (p_len_l rfl Try.underlying22) rfl rfl fun a F => sp F (p_gtr rfl rfl) rfl rfl fun a F => c_nil (hK3 _ _ (?_)))
  try clear hK3 K3
  by_cases c9 : 1048576 < (cn : Int)
  · have F := F.setB (d := 9) rfl (decide_eq_true c9)
    refine c_ift F rfl (c_seq fun K4 hK4 => c_region (sp F (p_assign rfl) rfl rfl fun a F => c_nil (hK4 _ _ (?_))))
    try clear hK4 K4
    refine wp_ret (r_then (ret1 F rfl rfl (?_)))
    exact ⟨rfl, O⟩
  · have F := F.setB (d := 9) rfl (decide_eq_false c9)
    refine c_iff F rfl (wp_skip (hK2 _ _ (?_)))
    try clear hK2 K2
    refine c_seq fun K4 hK4 => c_region (sp F (p_move rfl) rfl rfl fun a F => so F rfl (o_call (vs := #[.slice A cn cc]) F Try.en_23 rfl rfl ((dDeltaMake_ok A cn cc w (hC.keep O)).mono ?_)))
    rintro e w ⟨L12, M12, rfl, h12a, h12b, K⟩
    refine ⟨_, rfl, fun a F => ?_⟩
    have O : Own w0 [] [] w := O.call0 K
    clear K
    have O : Own w0 [] [] w := O
    refine sp F (p_move rfl) rfl rfl fun a F => sp F (p_extract rfl rfl) rfl rfl fun a F => sp F (p_extract rfl rfl) rfl rfl fun a F => sp F (p_assign rfl) rfl rfl fun a F => sp F (p_assign rfl) rfl rfl fun a F => c_nil (hK4 _ _ (?_))
    try clear hK4 K4
    refine c_seq fun K5 hK5 => c_region (sp F (p_move rfl) rfl rfl fun a F => sp F (p_move rfl) rfl rfl fun a F => so F rfl (o_call (vs := #[.string (bs (L12)), .string (bs (M12))]) F Try.en_24 rfl rfl ((iDeltaMake_ok L12 M12 m0 w (by first | omega | (simp; done) | (simp; omega)) (by first | omega | (simp; done) | (simp; omega)) (Nat.lt_of_lt_of_le hl_0 O.size) (((O.old hl_0 (by simp)).trans hm_0_0))).mono ?_)))
    rintro e w ⟨P17, N17, C17, rfl, h17a, h17b, K⟩
    refine ⟨_, rfl, fun a F => ?_⟩
    have O : Own w0 [] [.row 43 3 (.slice P17 N17 C17) N17 ((makeD L12 M12).flatMap encOp)] w := O.call0 K
    clear K
    have O : Own w0 [] [.row 43 3 (.slice P17 N17 C17) N17 ((makeD L12 M12).flatMap encOp)] w := O
    refine sp F (p_assign rfl) rfl rfl fun a F => c_nil (hK5 _ _ (?_))
    try clear hK5 K5
    refine c_seq fun K6 hK6 => c_region (sp F (p_move rfl) rfl rfl fun a F => sp F (p_move rfl) rfl rfl fun a F => so F rfl (o_call (vs := #[.string (bs (L12)), .string (bs (M12))]) F Try.en_25 rfl rfl ((sDeltaMake_ok L12 M12 w (by first | omega | (simp; done) | (simp; omega)) (by first | omega | (simp; done) | (simp; omega))).mono ?_)))
    rintro e w ⟨P20, N20, C20, rfl, h20a, h20b, K⟩
    refine ⟨_, rfl, fun a F => ?_⟩
    have O : Own w0 [] [.row 43 3 (.slice P20 N20 C20) N20 ((makeD L12 M12).flatMap encOp), .row 43 3 (.slice P17 N17 C17) N17 ((makeD L12 M12).flatMap encOp)] w := O.call0 K
    clear K
    have O : Own w0 [] [.row 43 3 (.slice P20 N20 C20) N20 ((makeD L12 M12).flatMap encOp), .row 43 3 (.slice P17 N17 C17) N17 ((makeD L12 M12).flatMap encOp)] w := O
    refine sp F (p_assign rfl) rfl rfl fun a F => c_nil (hK6 _ _ (?_))
    try clear hK6 K6
    refine c_seq fun K7 hK7 => c_seq fun K8 hK8 => c_region (sp F (p_move rfl) rfl rfl fun a F => sp F (p_move rfl) rfl rfl fun a F => so F rfl (o_call (vs := #[.slice P17 N17 C17, .slice P20 N20 C20]) F Try.en_26 rfl rfl ((sameOps_ok P17 N17 C17 (makeD L12 M12) P20 N20 C20 (makeD L12 M12) w (O.arr 1 (es := makeD L12 M12) rfl encOp_len (by decide)) (by first | omega | (simp; done) | (simp; omega) | (simp at *; omega)) (by omega) (O.arr 0 (es := makeD L12 M12) rfl encOp_len (by decide)) (by first | omega | (simp; done) | (simp; omega) | (simp at *; omega)) (by omega)).mono ?_)))
    rintro e w ⟨rfl, K⟩
    refine ⟨_, rfl, fun a F => ?_⟩
    have O : Own w0 [] [.row 43 3 (.slice P20 N20 C20) N20 ((makeD L12 M12).flatMap encOp), .row 43 3 (.slice P17 N17 C17) N17 ((makeD L12 M12).flatMap encOp)] w := O.call0 K
    clear K
    have c23 : (makeD L12 M12) = (makeD L12 M12) := by rfl
    have F := F.setB (d := 23) rfl (decide_eq_true c23)
    have O : Own w0 [] [.row 43 3 (.slice P20 N20 C20) N20 ((makeD L12 M12).flatMap encOp), .row 43 3 (.slice P17 N17 C17) N17 ((makeD L12 M12).flatMap encOp)] w := O
    refine sp F (p_not rfl) rfl rfl fun a F => sp F (p_move rfl) rfl rfl fun a F => sp F (p_move rfl) rfl rfl fun a F => sp F (p_len_b rfl Try.underlying9) rfl rfl fun a F => sp F (p_lss rfl rfl) rfl rfl fun a F => sp F (p_pick (t := false) rfl rfl) rfl rfl fun a F => sp F (p_move rfl) rfl rfl fun a F => ?_
    by_cases c30 : (L12.length : Int) < 2
    · have F := F.setB (d := 28) rfl (decide_eq_true c30)
      have F := F.setB (d := 29) rfl (decide_eq_true c30)
      have F := F.setB (d := 30) rfl (decide_eq_true c30)
      refine ss F rfl rfl fun a F => ss F rfl rfl fun a F => ss F rfl rfl fun a F => sp F (p_pick (t := true) rfl rfl) rfl rfl fun a F => c_nil (hK8 _ _ (?_))
      try clear hK8 K8
      refine c_ift F rfl (c_seq fun K9 hK9 => c_region (sp F (p_move rfl) rfl rfl fun a F => sp F (p_move rfl) rfl rfl fun a F => so F rfl (o_call (vs := #[.slice P17 N17 C17, .slice P20 N20 C20]) F Try.en_26 rfl rfl ((sameOps_ok P17 N17 C17 (makeD L12 M12) P20 N20 C20 (makeD L12 M12) w (O.arr 1 (es := makeD L12 M12) rfl encOp_len (by decide)) (by first | omega | (simp; done) | (simp; omega) | (simp at *; omega)) (by omega) (O.arr 0 (es := makeD L12 M12) rfl encOp_len (by decide)) (by first | omega | (simp; done) | (simp; omega) | (simp at *; omega)) (by omega)).mono ?_))))
      rintro e w ⟨rfl, K⟩
      refine ⟨_, rfl, fun a F => ?_⟩
      have O : Own w0 [] [.row 43 3 (.slice P20 N20 C20) N20 ((makeD L12 M12).flatMap encOp), .row 43 3 (.slice P17 N17 C17) N17 ((makeD L12 M12).flatMap encOp)] w := O.call0 K
      clear K
      have F := F.setB (d := 37) rfl (decide_eq_true c23)
      have O : Own w0 [] [.row 43 3 (.slice P20 N20 C20) N20 ((makeD L12 M12).flatMap encOp), .row 43 3 (.slice P17 N17 C17) N17 ((makeD L12 M12).flatMap encOp)] w := O
      refine sp F (p_assign rfl) rfl rfl fun a F => c_nil (hK9 _ _ (?_))
      try clear hK9 K9
      refine wp_ret (r_then (ret1 F rfl rfl (?_)))
      have O : Own w0 [] [] w := (O.take 0)
      exact ⟨rfl, O⟩
    · have F := F.setB (d := 28) rfl (decide_eq_false c30)
      have F := F.setB (d := 29) rfl (decide_eq_false c30)
      have F := F.setB (d := 30) rfl (decide_eq_false c30)
      refine sp F (p_move rfl) rfl rfl fun a F => sp F (p_len_b rfl Try.underlying9) rfl rfl fun a F => sp F (p_gtr rfl rfl) rfl rfl fun a F => sp F (p_pick (t := false) rfl rfl) rfl rfl fun a F => c_nil (hK8 _ _ (?_))
      try clear hK8 K8
      by_cases c34 : 8 < (L12.length : Int)
      · have F := F.setB (d := 33) rfl (decide_eq_true c34)
        have F := F.setB (d := 34) rfl (decide_eq_true c34)
        refine c_ift F rfl (c_seq fun K9 hK9 => c_region (sp F (p_move rfl) rfl rfl fun a F => sp F (p_move rfl) rfl rfl fun a F => so F rfl (o_call (vs := #[.slice P17 N17 C17, .slice P20 N20 C20]) F Try.en_26 rfl rfl ((sameOps_ok P17 N17 C17 (makeD L12 M12) P20 N20 C20 (makeD L12 M12) w (O.arr 1 (es := makeD L12 M12) rfl encOp_len (by decide)) (by first | omega | (simp; done) | (simp; omega) | (simp at *; omega)) (by omega) (O.arr 0 (es := makeD L12 M12) rfl encOp_len (by decide)) (by first | omega | (simp; done) | (simp; omega) | (simp at *; omega)) (by omega)).mono ?_))))
        rintro e w ⟨rfl, K⟩
        refine ⟨_, rfl, fun a F => ?_⟩
        have O : Own w0 [] [.row 43 3 (.slice P20 N20 C20) N20 ((makeD L12 M12).flatMap encOp), .row 43 3 (.slice P17 N17 C17) N17 ((makeD L12 M12).flatMap encOp)] w := O.call0 K
        clear K
        have F := F.setB (d := 37) rfl (decide_eq_true c23)
        have O : Own w0 [] [.row 43 3 (.slice P20 N20 C20) N20 ((makeD L12 M12).flatMap encOp), .row 43 3 (.slice P17 N17 C17) N17 ((makeD L12 M12).flatMap encOp)] w := O
        refine sp F (p_assign rfl) rfl rfl fun a F => c_nil (hK9 _ _ (?_))
        try clear hK9 K9
        refine wp_ret (r_then (ret1 F rfl rfl (?_)))
        have O : Own w0 [] [] w := (O.take 0)
        exact ⟨rfl, O⟩
      · have F := F.setB (d := 33) rfl (decide_eq_false c34)
        have F := F.setB (d := 34) rfl (decide_eq_false c34)
        refine c_iff F rfl (wp_skip (hK7 _ _ (?_)))
        try clear hK7 K7
        refine c_seq fun K9 hK9 => c_region (sp F (p_move rfl) rfl rfl fun a F => sp F (p_move rfl) rfl rfl fun a F => so F rfl (o_call (vs := #[.string (bs (L12)), .string (bs (L12))]) F Try.en_24 rfl rfl ((iDeltaMake_ok L12 L12 m0 w (by first | omega | (simp; done) | (simp; omega)) (by first | omega | (simp; done) | (simp; omega)) (Nat.lt_of_lt_of_le hl_0 O.size) (((O.old hl_0 (by simp)).trans hm_0_0))).mono ?_)))
        rintro e w ⟨P40, N40, C40, rfl, h40a, h40b, K⟩
        refine ⟨_, rfl, fun a F => ?_⟩
        have O : Own w0 [] [.row 43 3 (.slice P40 N40 C40) N40 ((makeD L12 L12).flatMap encOp), .row 43 3 (.slice P20 N20 C20) N20 ((makeD L12 M12).flatMap encOp), .row 43 3 (.slice P17 N17 C17) N17 ((makeD L12 M12).flatMap encOp)] w := O.call0 K
        clear K
        have O : Own w0 [] [.row 43 3 (.slice P40 N40 C40) N40 ((makeD L12 L12).flatMap encOp), .row 43 3 (.slice P20 N20 C20) N20 ((makeD L12 M12).flatMap encOp), .row 43 3 (.slice P17 N17 C17) N17 ((makeD L12 M12).flatMap encOp)] w := O
        refine sp F (p_move rfl) rfl rfl fun a F => sp F (p_len_b rfl Try.underlying9) rfl rfl fun a F => sp F (p_build (cs := [.int .i64 (0), .int .i64 ((L12.length : Int)), .string (bs ([]))]) rfl Try.places_43 rfl) rfl rfl fun a F => so F rfl (o_bslice (cs := [.int .i64 (0), .int .i64 ((L12.length : Int)), .string (bs ([]))]) F O rfl Try.underlying23 Try.sz_43 Try.zero_43 rfl rfl rfl fun b44 w O a F => ?_)
        have O : Own w0 [] [.cells b44 [.int .i64 (0), .int .i64 ((L12.length : Int)), .string (bs ([]))] 43, .row 43 3 (.slice P40 N40 C40) N40 ((makeD L12 L12).flatMap encOp), .row 43 3 (.slice P20 N20 C20) N20 ((makeD L12 M12).flatMap encOp), .row 43 3 (.slice P17 N17 C17) N17 ((makeD L12 M12).flatMap encOp)] w := O
        refine so F rfl (o_call (vs := #[.slice P40 N40 C40, .slice (some ⟨b44, 0, none⟩) 1 1]) F Try.en_26 rfl rfl ((sameOps_ok P40 N40 C40 (makeD L12 L12) (some ⟨b44, 0, none⟩) 1 1 ([(0, (L12.length : Int), [])]) w (O.arr 1 (es := makeD L12 L12) rfl encOp_len (by decide)) (by first | omega | (simp; done) | (simp; omega) | (simp at *; omega)) (by omega) (O.arrC 0 (es := [(0, (L12.length : Int), [])]) rfl encOp_len (by decide)) (by first | omega | (simp; done) | (simp; omega) | (simp at *; omega)) (by omega)).mono ?_))
        rintro e w ⟨rfl, K⟩
        refine ⟨_, rfl, fun a F => ?_⟩
        have O : Own w0 [] [.cells b44 [.int .i64 (0), .int .i64 ((L12.length : Int)), .string (bs ([]))] 43, .row 43 3 (.slice P40 N40 C40) N40 ((makeD L12 L12).flatMap encOp), .row 43 3 (.slice P20 N20 C20) N20 ((makeD L12 M12).flatMap encOp), .row 43 3 (.slice P17 N17 C17) N17 ((makeD L12 M12).flatMap encOp)] w := O.call0 K
        clear K
        have c45 : (makeD L12 L12) = ([(0, (L12.length : Int), [])]) := by exact makeD_self (by omega) (by omega)
        have F := F.setB (d := 45) rfl (decide_eq_true c45)
        have O : Own w0 [] [.cells b44 [.int .i64 (0), .int .i64 ((L12.length : Int)), .string (bs ([]))] 43, .row 43 3 (.slice P40 N40 C40) N40 ((makeD L12 L12).flatMap encOp), .row 43 3 (.slice P20 N20 C20) N20 ((makeD L12 M12).flatMap encOp), .row 43 3 (.slice P17 N17 C17) N17 ((makeD L12 M12).flatMap encOp)] w := O
        refine sp F (p_assign rfl) rfl rfl fun a F => c_nil (hK9 _ _ (?_))
        try clear hK9 K9
        refine wp_ret (ret1 F rfl rfl (?_))
        have O : Own w0 [] [] w := (O.take 0)
        exact ⟨rfl, O⟩

set_option maxRecDepth 100000 in
theorem deltaSelf_lifted (os : Os) (started : os.Started) (H : Type) (enc : TypeId × Value → H) :
    ReturnsInHanded {} Try.checked os 9 .any (Rows.fnDeltaSelfSpec.pre6 enc Try.prog Try.f9 Rows.fnDeltaSelfRow.domain false) (Rows.fnDeltaSelfSpec.post enc Try.prog Try.f9 false true false false) := by
  have e0 : Rows.fnDeltaSelfRow.domain = [] := rfl
  rw [e0]
  refine lifted_shaped started (by kernel_rfl) Try.func9 rfl ?_ (by kernel_rfl) (by kernel_rfl)
    (ChangeSpec.witness6 (enc := enc) (C := Try.checked) false ⟨#[], #[.slice none 0 0], []⟩ 8 (by kernel_rfl) (by kernel_rfl) (by kernel_rfl) (by kernel_rfl)) ?_
  · intro ds hds
    match ds, hds with
    | [_], _ => rfl
  intro W base args ds p m0 hval0 hA0 hm hl
  have hval : ∀ (j : Nat) t v, Try.f9.params[j]? = some t → args[j]? = some v → Value.okWide Try.prog W .any base t v := hval0
  have hA : DataW.TrodAll enc Try.prog W 0 (fun _ => true) true Try.f9.params.toList args.toList ds p := hA0
  clear hA0 hval0
  show Calls Try.prog 9 args W _
  rw [Try.params9] at hA hval
  obtain ⟨v0, d0, hargs, rfl, h0⟩ := trodAll_one hA
  obtain rfl : args = #[v0] := by cases args; simp_all
  obtain ⟨a, n, c, rfl, hC⟩ := open_codeIn (hval 0 22 v0 rfl rfl) h0
  exact (deltaSelf_ok a n c m0 W hC hl hm).mono fun e w' h => ⟨h.1, h.2.below⟩

theorem deltaSelf_pkg : ¬ Check.packageOf Try.f9.name = "main" := by
  intro h
  have h2 := congrArg String.toList h
  simp only [Check.packageOf, Try.f9] at h2
  simp at h2

theorem deltaSelf_closed : lawFacts Try.prog 9 Try.f9 Rows.fnDeltaSelfSpec Rows.fnDeltaSelfRow = true := by kernel_rfl
theorem deltaSelf_facts : joinedFacts Try.pinned.checked.prog 9 Try.f9 Rows.fnDeltaSelfSpec Rows.fnDeltaSelfRow = true := facts_of (P := Try.prog) Try.facts deltaSelf_closed

theorem deltaSelf_wrap : Func.isWrapper Try.pinned.checked.prog Try.f9 Rows.fnDeltaSelfRow.wrapper Rows.fnDeltaSelfRow.mainSum := by
  have e1 : Rows.fnDeltaSelfRow.wrapper = false := rfl
  have e2 : Rows.fnDeltaSelfRow.mainSum = "" := rfl
  rw [e1, e2]
  exact wrapper_of Try.pinned.checked.prog Try.f9 deltaSelf_pkg

/-- The statement. -/
theorem deltaSelf_over : Rows.fnDeltaSelfRow.holds Try.pinned (OpenSpec.ofChange Rows.fnDeltaSelfSpec) :=
  OpenClaim.holds_of_wide 9 Try.f9 rfl rfl rfl rfl rfl rfl rfl ⟨rfl, rfl, rfl, rfl, rfl⟩ rfl rfl rfl rfl rfl (by kernel_rfl) Try.func9 deltaSelf_facts
    (of_decide_eq_true (by kernel_rfl)) deltaSelf_wrap
    (fun os started H enc _ => deltaSelf_lifted os started H enc)
theorem deltaSelf_holds : Rows.FnDeltaSelfSaid := deltaSelf_over
#print axioms deltaSelf_holds

end Go.Proofs.Ytbhidkcljekobaa
