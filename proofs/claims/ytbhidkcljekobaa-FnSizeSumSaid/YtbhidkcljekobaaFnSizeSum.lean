/- Sizes add up: the law FnSizeSum returns true. No conditions. -/
import Derived.Test.YtbhidkcljekobaaDelD
import Derived.Test.YtbhidkcljekobaaOpenC
namespace Go.Proofs.Ytbhidkcljekobaa
open Go.ChangeShapes Go.WideShapes Go.ChangeAt Go.RowKit
set_option linter.unusedVariables false
set_option linter.unusedSimpArgs false

set_option maxRecDepth 100000 in
/-- laws.FnSizeSum -/
theorem sizeSum_ok (A : Option Addr) (cn : Nat) (cc : Nat) (A2 : Option Addr) (cn2 : Nat) (cc2 : Nat) (w0 : World) (hC : CodeIn w0 A cn cc) (hC2 : CodeIn w0 A2 cn2 cc2) :
    Calls Try.prog 3 #[.slice A cn cc, .slice A2 cn2 cc2] w0 fun e w => e = .returned (.bool true) ∧ Own w0 [] [] w := by
  have O := Own.start w0
  have hcc : (cn : Int) ≤ cc := by have := hC.1; omega
  have hcm : (cc : Int) ≤ 9223372036854775807 := by have := hC.2.1; unfold maxLen at this; omega
  have hcc2 : (cn2 : Int) ≤ cc2 := by have := hC2.1; omega
  have hcm2 : (cc2 : Int) ≤ 9223372036854775807 := by have := hC2.2.1; unfold maxLen at this; omega
  refine enterO (n := 46) Try.func3 rfl rfl rfl O fun a w F O => ?_
  refine c_seq fun K1 hK1 => c_region (sp F (p_assign rfl) rfl rfl fun a F => c_nil (hK1 _ _ (?_)))
  try clear hK1 K1
  refine c_seq fun K2 hK2 => c_seq fun K3 hK3 => c_region (sp F (p_move rfl) rfl rfl fun a F => sp F (p_len_l rfl Try.underlying22) rfl rfl fun a F => sp F (p_gtr rfl rfl) rfl rfl fun a F => sp F (p_move rfl) rfl rfl fun a F => ?_)
  by_cases c12 : 1048576 < (cn : Int)
  · have F := F.setB (d := 11) rfl (decide_eq_true c12)
    have F := F.setB (d := 12) rfl (decide_eq_true c12)
    refine ss F rfl rfl fun a F => ss F rfl rfl fun a F => ss F rfl rfl fun a F => sp F (p_pick (t := true) rfl rfl) rfl rfl fun a F => c_nil (hK3 _ _ (?_))
    try clear hK3 K3
    refine c_ift F rfl (c_seq fun K4 hK4 => c_region (sp F (p_assign rfl) rfl rfl fun a F => c_nil (hK4 _ _ (?_))))
    try clear hK4 K4
    refine wp_ret (r_then (ret1 F rfl rfl (?_)))
    exact ⟨rfl, O⟩
  · have F := F.setB (d := 11) rfl (decide_eq_false c12)
    have F := F.setB (d := 12) rfl (decide_eq_false c12)
    refine sp F (p_move rfl) rfl rfl fun a F => sp F (p_len_l rfl Try.underlying22) rfl rfl fun a F => sp F (p_gtr rfl rfl) rfl rfl fun a F => sp F (p_pick (t := false) rfl rfl) rfl rfl fun a F => c_nil (hK3 _ _ (?_))
    try clear hK3 K3
    by_cases c16 : 1048576 < (cn2 : Int)
    · have F := F.setB (d := 15) rfl (decide_eq_true c16)
      have F := F.setB (d := 16) rfl (decide_eq_true c16)
      refine c_ift F rfl (c_seq fun K4 hK4 => c_region (sp F (p_assign rfl) rfl rfl fun a F => c_nil (hK4 _ _ (?_))))
      try clear hK4 K4
      refine wp_ret (r_then (ret1 F rfl rfl (?_)))
      exact ⟨rfl, O⟩
    · have F := F.setB (d := 15) rfl (decide_eq_false c16)
      have F := F.setB (d := 16) rfl (decide_eq_false c16)
      refine c_iff F rfl (wp_skip (hK2 _ _ (?_)))
      try clear hK2 K2
      refine c_seq fun K4 hK4 => c_region (sp F (p_move rfl) rfl rfl fun a F => so F rfl (o_call (vs := #[.slice A cn cc]) F Try.en_12 rfl rfl ((dDeltaSize_ok A cn cc w (hC.keep O)).mono ?_)))
      rintro e w ⟨b18, N18, C18, es18, rfl, h18a, h18b, h18c, K⟩
      refine ⟨_, rfl, fun a F => ?_⟩
      have O : Own w0 [] [.row 43 3 (.slice (some ⟨b18, 0, none⟩) N18 C18) N18 (es18.flatMap encOp)] w := O.call0 K
      clear K
      have O : Own w0 [] [.row 43 3 (.slice (some ⟨b18, 0, none⟩) N18 C18) N18 (es18.flatMap encOp)] w := O
      refine sp F (p_assign rfl) rfl rfl fun a F => c_nil (hK4 _ _ (?_))
      try clear hK4 K4
      refine c_seq fun K5 hK5 => c_region (sp F (p_move rfl) rfl rfl fun a F => so F rfl (o_call (vs := #[.slice (some ⟨b18, 0, none⟩) N18 C18]) F Try.en_13 rfl rfl ((iDeltaSize_ok (some ⟨b18, 0, none⟩) N18 C18 es18 w (O.arr 0 (es := es18) rfl encOp_len (by decide)) (by first | omega | (simp; done) | (simp; omega) | (simp at *; omega)) (by omega) (by omega)).mono ?_)))
      rintro e w ⟨rfl, K⟩
      refine ⟨_, rfl, fun a F => ?_⟩
      have O : Own w0 [] [.row 43 3 (.slice (some ⟨b18, 0, none⟩) N18 C18) N18 (es18.flatMap encOp)] w := O.call0 K
      clear K
      have O : Own w0 [] [.row 43 3 (.slice (some ⟨b18, 0, none⟩) N18 C18) N18 (es18.flatMap encOp)] w := O
      refine sp F (p_assign rfl) rfl rfl fun a F => c_nil (hK5 _ _ (?_))
      try clear hK5 K5
      refine c_seq fun K6 hK6 => c_region (sp F (p_move rfl) rfl rfl fun a F => so F rfl (o_call (vs := #[.slice (some ⟨b18, 0, none⟩) N18 C18]) F Try.en_14 rfl rfl ((sDeltaSize_ok (some ⟨b18, 0, none⟩) N18 C18 es18 w (O.arr 0 (es := es18) rfl encOp_len (by decide)) (by first | omega | (simp; done) | (simp; omega) | (simp at *; omega)) (by omega) (by omega)).mono ?_)))
      rintro e w ⟨rfl, K⟩
      refine ⟨_, rfl, fun a F => ?_⟩
      have O : Own w0 [] [.row 43 3 (.slice (some ⟨b18, 0, none⟩) N18 C18) N18 (es18.flatMap encOp)] w := O.call0 K
      clear K
      have O : Own w0 [] [.row 43 3 (.slice (some ⟨b18, 0, none⟩) N18 C18) N18 (es18.flatMap encOp)] w := O
      refine sp F (p_assign rfl) rfl rfl fun a F => c_nil (hK6 _ _ (?_))
      try clear hK6 K6
      refine c_seq fun K7 hK7 => c_seq fun K8 hK8 => c_region (sp F (p_move rfl) rfl rfl fun a F => sp F (p_move rfl) rfl rfl fun a F => sp F (p_neq rfl rfl) rfl rfl fun a F => ?_)
      have c25 : ((es18.length : Int) + tsz es18) = ((es18.length : Int) + tsz es18) := by rfl
      have F := F.setB (d := 25) rfl (decide_eq_false (fun h => h c25))
      refine c_nil (hK8 _ _ (?_))
      try clear hK8 K8
      refine c_iff F rfl (wp_skip (hK7 _ _ (?_)))
      try clear hK7 K7
      refine c_seq fun K9 hK9 => c_region (sp F (p_move rfl) rfl rfl fun a F => sp F (p_len_l rfl Try.underlying22) rfl rfl fun a F => sp F (p_move rfl) rfl rfl fun a F => sp F (p_len_l rfl Try.underlying23) rfl rfl fun a F => sp F (p_add rfl rfl (by omega) (by omega)) rfl rfl fun a F => sp F (p_rem rfl rfl (by omega) (by omega) (by omega)) rfl rfl fun a F => sp F (p_assign rfl) rfl rfl fun a F => c_nil (hK9 _ _ (?_)))
      try clear hK9 K9
      refine c_seq fun K10 hK10 => ?_
      have hk0 := Int.emod_nonneg (cn2 : Int) (show (N18 : Int) + 1 ≠ 0 by omega)
      have hk1 := Int.emod_lt_of_pos (cn2 : Int) (show (0 : Int) < (N18 : Int) + 1 by omega)
      have hcap := O.rowCap 0 rfl
      have ht1 := tsz_le es18 ((cn2 : Int) % ((N18 : Int) + 1) : Int).toNat
      have ht2 := tsz_split es18 ((cn2 : Int) % ((N18 : Int) + 1) : Int).toNat
      have ht3 := tsz_nonneg (es18.take ((cn2 : Int) % ((N18 : Int) + 1) : Int).toNat)
      have hl1 := List.length_take (l := es18) (i := ((cn2 : Int) % ((N18 : Int) + 1) : Int).toNat)
      have hl2 := List.length_drop (l := es18) (i := ((cn2 : Int) % ((N18 : Int) + 1) : Int).toNat)
      have ht4 := tsz_nonneg (es18.drop ((cn2 : Int) % ((N18 : Int) + 1) : Int).toNat)
      refine c_draw Try.mixed (SC []) [] (fun a w => Has 46 [(0, .slice A cn cc), (1, .slice A2 cn2 cc2), (4, .bool true), (16, .bool false), (5, .slice (some ⟨b18, 0, none⟩) N18 C18), (6, .int .i64 ((es18.length : Int) + tsz es18)), (7, .int .i64 ((es18.length : Int) + tsz es18)), (25, .bool false), (8, .int .i64 ((cn2 : Int) % ((N18 : Int) + 1)))] a ∧ Own w0 [] [.row 43 3 (.slice (some ⟨b18, 0, none⟩) N18 C18) N18 (es18.flatMap encOp)] w) ?_ ?_
      · rintro a w ⟨F, O⟩
        refine hK10 _ _ (?_)
        try clear hK10 K10
        refine wp_ret (ret1 F rfl rfl (?_))
        have O : Own w0 [] [] w := (O.take 0)
        exact ⟨rfl, O⟩
      · have O := O.drawn (w.drawn + 1)
        generalize { w with drawn := w.drawn + 1 } = w at O ⊢
        have hS : SC [] w := SC.nil
        refine d_take 0 rfl (by kernel_rfl) F (p_move rfl) rfl rfl hS fun a F => d_take 1 rfl (by kernel_rfl) F (p_move rfl) rfl rfl hS fun a F => d_take 2 rfl (by kernel_rfl) F (p_slto rfl rfl Try.underlying23 Try.sz_43 (by omega) (by omega)) rfl rfl hS fun a F => d_take 4 rfl (by kernel_rfl) F (p_move rfl) rfl rfl hS fun a F => d_take 5 rfl (by kernel_rfl) F (p_move rfl) rfl rfl hS fun a F => d_take 9 rfl (by kernel_rfl) F (p_move rfl) rfl rfl hS fun a F => ?_
        refine d_two 3 6 (by kernel_rfl) ?_ ?_
        · refine d_op rfl F rfl (o_call (vs := #[.slice (some ⟨b18, 0, none⟩) (((cn2 : Int) % ((N18 : Int) + 1) : Int).toNat) C18]) F Try.en_13 rfl rfl ((iDeltaSize_ok (some ⟨b18, 0, none⟩) (((cn2 : Int) % ((N18 : Int) + 1) : Int).toNat) C18 (es18.take (((cn2 : Int) % ((N18 : Int) + 1) : Int).toNat)) w ((O.arr 0 (es := es18) rfl encOp_len (by decide)).take (((cn2 : Int) % ((N18 : Int) + 1) : Int).toNat)) (by first | omega | (simp; done) | (simp; omega) | (simp at *; omega)) (by omega) (by omega)).mono ?_))
          rintro e w ⟨rfl, K⟩
          refine ⟨_, rfl, fun a F => ?_⟩
          have O : Own w0 [] [.row 43 3 (.slice (some ⟨b18, 0, none⟩) N18 C18) N18 (es18.flatMap encOp)] w := O.call0 K
          clear K
          have O : Own w0 [] [.row 43 3 (.slice (some ⟨b18, 0, none⟩) N18 C18) N18 (es18.flatMap encOp)] w := O
          refine ⟨fun _ => SC.nil, ?_⟩
          have hS : SC [] w := SC.nil
          refine d_one 6 (by kernel_rfl) (d_op rfl F rfl (o_slfrom F rfl rfl Try.underlying23 Try.sz_43 (by omega) (by omega) rfl fun o41 ho41 a F => ?_))
          have O : Own w0 [] [.row 43 3 (.slice (some ⟨b18, 0, none⟩) N18 C18) N18 (es18.flatMap encOp)] w := O
          refine ⟨fun _ => SC.nil, ?_⟩
          have hS : SC [] w := SC.nil
          refine d_one 7 (by kernel_rfl) (d_op rfl F rfl (o_call (vs := #[.slice (some ⟨b18, o41, none⟩) (N18 - ((cn2 : Int) % ((N18 : Int) + 1) : Int).toNat) (C18 - ((cn2 : Int) % ((N18 : Int) + 1) : Int).toNat)]) F Try.en_13 rfl rfl ((iDeltaSize_ok (some ⟨b18, o41, none⟩) (N18 - ((cn2 : Int) % ((N18 : Int) + 1) : Int).toNat) (C18 - ((cn2 : Int) % ((N18 : Int) + 1) : Int).toNat) (es18.drop (((cn2 : Int) % ((N18 : Int) + 1) : Int).toNat)) w (O.arrSub 0 rfl encOp_len (by decide) ho41) (by first | omega | (simp; done) | (simp; omega) | (simp at *; omega)) (by omega) (by omega)).mono ?_)))
          rintro e w ⟨rfl, K⟩
          refine ⟨_, rfl, fun a F => ?_⟩
          have O : Own w0 [] [.row 43 3 (.slice (some ⟨b18, 0, none⟩) N18 C18) N18 (es18.flatMap encOp)] w := O.call0 K
          clear K
          have O : Own w0 [] [.row 43 3 (.slice (some ⟨b18, 0, none⟩) N18 C18) N18 (es18.flatMap encOp)] w := O
          refine ⟨fun _ => SC.nil, ?_⟩
          have hS : SC [] w := SC.nil
          refine d_take 8 rfl (by kernel_rfl) F (p_add rfl rfl (by omega) (by omega)) rfl rfl hS fun a F => d_take 10 rfl (by kernel_rfl) F (p_eql rfl rfl) rfl rfl hS fun a F => ?_
          have c45 : ((((es18.take (((cn2 : Int) % ((N18 : Int) + 1) : Int).toNat)).length : Int) + tsz (es18.take (((cn2 : Int) % ((N18 : Int) + 1) : Int).toNat))) + (((es18.drop (((cn2 : Int) % ((N18 : Int) + 1) : Int).toNat)).length : Int) + tsz (es18.drop (((cn2 : Int) % ((N18 : Int) + 1) : Int).toNat)))) = ((es18.length : Int) + tsz es18) := by omega
          have F := F.setB (d := 45) rfl (decide_eq_true c45)
          refine d_take 11 rfl (by kernel_rfl) F (p_assign rfl) rfl rfl hS fun a F => d_done (by kernel_rfl) (?_)
          have F : Has 46 [(0, .slice A cn cc), (1, .slice A2 cn2 cc2), (4, .bool true), (16, .bool false), (5, .slice (some ⟨b18, 0, none⟩) N18 C18), (6, .int .i64 ((es18.length : Int) + tsz es18)), (7, .int .i64 ((es18.length : Int) + tsz es18)), (25, .bool false), (8, .int .i64 ((cn2 : Int) % ((N18 : Int) + 1)))] a := F.pick ⟨rfl, rfl, rfl, rfl, rfl, rfl, rfl, rfl, rfl, trivial⟩
          exact ⟨F, O⟩
        · refine d_op rfl F rfl (o_slfrom F rfl rfl Try.underlying23 Try.sz_43 (by omega) (by omega) rfl fun o41 ho41 a F => ?_)
          have O : Own w0 [] [.row 43 3 (.slice (some ⟨b18, 0, none⟩) N18 C18) N18 (es18.flatMap encOp)] w := O
          refine ⟨fun _ => SC.nil, ?_⟩
          have hS : SC [] w := SC.nil
          refine d_one 3 (by kernel_rfl) (d_op rfl F rfl (o_call (vs := #[.slice (some ⟨b18, 0, none⟩) (((cn2 : Int) % ((N18 : Int) + 1) : Int).toNat) C18]) F Try.en_13 rfl rfl ((iDeltaSize_ok (some ⟨b18, 0, none⟩) (((cn2 : Int) % ((N18 : Int) + 1) : Int).toNat) C18 (es18.take (((cn2 : Int) % ((N18 : Int) + 1) : Int).toNat)) w ((O.arr 0 (es := es18) rfl encOp_len (by decide)).take (((cn2 : Int) % ((N18 : Int) + 1) : Int).toNat)) (by first | omega | (simp; done) | (simp; omega) | (simp at *; omega)) (by omega) (by omega)).mono ?_)))
          rintro e w ⟨rfl, K⟩
          refine ⟨_, rfl, fun a F => ?_⟩
          have O : Own w0 [] [.row 43 3 (.slice (some ⟨b18, 0, none⟩) N18 C18) N18 (es18.flatMap encOp)] w := O.call0 K
          clear K
          have O : Own w0 [] [.row 43 3 (.slice (some ⟨b18, 0, none⟩) N18 C18) N18 (es18.flatMap encOp)] w := O
          refine ⟨fun _ => SC.nil, ?_⟩
          have hS : SC [] w := SC.nil
          refine d_one 7 (by kernel_rfl) (d_op rfl F rfl (o_call (vs := #[.slice (some ⟨b18, o41, none⟩) (N18 - ((cn2 : Int) % ((N18 : Int) + 1) : Int).toNat) (C18 - ((cn2 : Int) % ((N18 : Int) + 1) : Int).toNat)]) F Try.en_13 rfl rfl ((iDeltaSize_ok (some ⟨b18, o41, none⟩) (N18 - ((cn2 : Int) % ((N18 : Int) + 1) : Int).toNat) (C18 - ((cn2 : Int) % ((N18 : Int) + 1) : Int).toNat) (es18.drop (((cn2 : Int) % ((N18 : Int) + 1) : Int).toNat)) w (O.arrSub 0 rfl encOp_len (by decide) ho41) (by first | omega | (simp; done) | (simp; omega) | (simp at *; omega)) (by omega) (by omega)).mono ?_)))
          rintro e w ⟨rfl, K⟩
          refine ⟨_, rfl, fun a F => ?_⟩
          have O : Own w0 [] [.row 43 3 (.slice (some ⟨b18, 0, none⟩) N18 C18) N18 (es18.flatMap encOp)] w := O.call0 K
          clear K
          have O : Own w0 [] [.row 43 3 (.slice (some ⟨b18, 0, none⟩) N18 C18) N18 (es18.flatMap encOp)] w := O
          refine ⟨fun _ => SC.nil, ?_⟩
          have hS : SC [] w := SC.nil
          refine d_take 8 rfl (by kernel_rfl) F (p_add rfl rfl (by omega) (by omega)) rfl rfl hS fun a F => d_take 10 rfl (by kernel_rfl) F (p_eql rfl rfl) rfl rfl hS fun a F => ?_
          have c45 : ((((es18.take (((cn2 : Int) % ((N18 : Int) + 1) : Int).toNat)).length : Int) + tsz (es18.take (((cn2 : Int) % ((N18 : Int) + 1) : Int).toNat))) + (((es18.drop (((cn2 : Int) % ((N18 : Int) + 1) : Int).toNat)).length : Int) + tsz (es18.drop (((cn2 : Int) % ((N18 : Int) + 1) : Int).toNat)))) = ((es18.length : Int) + tsz es18) := by omega
          have F := F.setB (d := 45) rfl (decide_eq_true c45)
          refine d_take 11 rfl (by kernel_rfl) F (p_assign rfl) rfl rfl hS fun a F => d_done (by kernel_rfl) (?_)
          have F : Has 46 [(0, .slice A cn cc), (1, .slice A2 cn2 cc2), (4, .bool true), (16, .bool false), (5, .slice (some ⟨b18, 0, none⟩) N18 C18), (6, .int .i64 ((es18.length : Int) + tsz es18)), (7, .int .i64 ((es18.length : Int) + tsz es18)), (25, .bool false), (8, .int .i64 ((cn2 : Int) % ((N18 : Int) + 1)))] a := F.pick ⟨rfl, rfl, rfl, rfl, rfl, rfl, rfl, rfl, rfl, trivial⟩
          exact ⟨F, O⟩

set_option maxRecDepth 100000 in
theorem sizeSum_lifted (os : Os) (started : os.Started) (H : Type) (enc : TypeId × Value → H) :
    ReturnsInHanded {} Try.checked os 3 .any (Rows.fnSizeSumSpec.pre6 enc Try.prog Try.f3 Rows.fnSizeSumRow.domain false) (Rows.fnSizeSumSpec.post enc Try.prog Try.f3 false true false false) := by
  have e0 : Rows.fnSizeSumRow.domain = [] := rfl
  rw [e0]
  refine lifted_of (C := Try.checked) Try.facts started (by kernel_rfl) Try.func3 rfl ?_ (tb := 4) (by kernel_rfl) Try.underlying4 (by kernel_rfl)
    (ChangeSpec.witness6 (enc := enc) (C := Try.checked) false ⟨#[], #[.slice none 0 0, .slice none 0 0], []⟩ 8 (by kernel_rfl) (by kernel_rfl) (by kernel_rfl) (by kernel_rfl)) ?_
  · intro ds hds
    match ds, hds with
    | [_, _], _ => rfl
  intro W base args ds p hval0 hA0
  have hval : ∀ (j : Nat) t v, Try.f3.params[j]? = some t → args[j]? = some v → Value.okWide Try.prog W .any base t v := hval0
  have hA : DataW.TrodAll enc Try.prog W 0 (fun _ => true) true Try.f3.params.toList args.toList ds p := hA0
  clear hA0 hval0
  show Calls Try.prog 3 args W _
  rw [Try.params3] at hA hval
  obtain ⟨v0, v1, d0, d1, p0, p1, hargs, rfl, rfl, h0, h1⟩ := trodAll_two hA
  obtain rfl : args = #[v0, v1] := by cases args; simp_all
  obtain ⟨a, n, c, rfl, hC⟩ := open_codeIn (hval 0 22 v0 rfl rfl) h0
  obtain ⟨a2, n2, c2, rfl, hC2⟩ := open_codeIn (hval 1 22 v1 rfl rfl) h1
  exact (sizeSum_ok a n c a2 n2 c2 W hC hC2).mono fun e w' h => ⟨h.1, h.2.below⟩

theorem sizeSum_pkg : ¬ Check.packageOf Try.f3.name = "main" := by
  intro h
  have h2 := congrArg String.toList h
  simp only [Check.packageOf, Try.f3] at h2
  simp at h2

theorem sizeSum_closed : lawFacts Try.prog 3 Try.f3 Rows.fnSizeSumSpec Rows.fnSizeSumRow = true := by kernel_rfl
theorem sizeSum_facts : joinedFacts Try.pinned.checked.prog 3 Try.f3 Rows.fnSizeSumSpec Rows.fnSizeSumRow = true := facts_of (P := Try.prog) Try.facts sizeSum_closed

theorem sizeSum_wrap : Func.isWrapper Try.pinned.checked.prog Try.f3 Rows.fnSizeSumRow.wrapper Rows.fnSizeSumRow.mainSum := by
  have e1 : Rows.fnSizeSumRow.wrapper = false := rfl
  have e2 : Rows.fnSizeSumRow.mainSum = "" := rfl
  rw [e1, e2]
  exact wrapper_of Try.pinned.checked.prog Try.f3 sizeSum_pkg

/-- The statement. -/
theorem sizeSum_over : Rows.fnSizeSumRow.holds Try.pinned (OpenSpec.ofChange Rows.fnSizeSumSpec) :=
  OpenClaim.holds_of_wide 3 Try.f3 rfl rfl rfl rfl rfl rfl rfl ⟨rfl, rfl, rfl, rfl, rfl⟩ rfl rfl rfl rfl rfl (by kernel_rfl) Try.func3 sizeSum_facts
    (of_decide_eq_true (by kernel_rfl)) sizeSum_wrap
    (fun os started H enc _ => sizeSum_lifted os started H enc)
theorem sizeSum_holds : Rows.FnSizeSumSaid := sizeSum_over
#print axioms sizeSum_holds

end Go.Proofs.Ytbhidkcljekobaa
