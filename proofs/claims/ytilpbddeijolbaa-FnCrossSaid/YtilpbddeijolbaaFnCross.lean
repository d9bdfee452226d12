/- Crossing updates have a common ref: the law FnCross returns true. No conditions. -/
import Derived.Test.YtilpbddeijolbaaRefE
import Derived.Test.YtilpbddeijolbaaRefL
import Derived.Test.YtilpbddeijolbaaOpenC
namespace Go.Proofs.Ytilpbddeijolbaa
open Go.ChangeShapes Go.WideShapes Go.ChangeAt Go.RowKit
set_option linter.unusedVariables false
set_option linter.unusedSimpArgs false

set_option maxRecDepth 100000 in
/-- laws.FnCross -/
theorem cross_ok (A : Option Addr) (cn : Nat) (cc : Nat) (w0 : World) (hC : CodeIn w0 A cn cc) :
    Calls Try.prog 14 #[.slice A cn cc] w0 fun e w => e = .returned (.bool true) ∧ Own w0 [] [] w := by
  have O := Own.start w0
  have hcc : (cn : Int) ≤ cc := by have := hC.1; omega
  have hcm : (cc : Int) ≤ 9223372036854775807 := by have := hC.2.1; unfold maxLen at this; omega
  refine enterO (n := 81) Try.func14 rfl rfl rfl O fun a w F O => ?_
  refine c_seq fun K1 hK1 => c_region (sp F (p_assign rfl) rfl rfl fun a F => c_nil (hK1 _ _ (?_)))
  try clear hK1 K1
  refine c_seq fun K2 hK2 => c_seq fun K3 hK3 => c_region (sp F (p_move rfl) rfl rfl fun a F => sp F (p_len_l rfl Try.underlying26) rfl rfl fun a F => sp F (p_gtr rfl rfl) rfl rfl fun a F => c_nil (hK3 _ _ (?_)))
  try clear hK3 K3
  by_cases c12 : 1048576 < (cn : Int)
  · have F := F.setB (d := 12) rfl (decide_eq_true c12)
    refine c_ift F rfl (c_seq fun K4 hK4 => c_region (sp F (p_assign rfl) rfl rfl fun a F => c_nil (hK4 _ _ (?_))))
    try clear hK4 K4
    refine wp_ret (r_then (ret1 F rfl rfl (?_)))
    exact ⟨rfl, O⟩
  · have F := F.setB (d := 12) rfl (decide_eq_false c12)
    refine c_iff F rfl (wp_skip (hK2 _ _ (?_)))
    try clear hK2 K2
    refine c_seq fun K4 hK4 => c_region (sp F (p_move rfl) rfl rfl fun a F => so F rfl (o_call (vs := #[.slice A cn cc]) F Try.en_46 rfl rfl ((dUpdatesCross_ok A cn cc w (hC.keep O)).mono ?_)))
    rintro e w ⟨b15, N15, C15, es15, b215, N215, C215, es215, rfl, h15a, h15b, h15c, h15d, K⟩
    refine ⟨_, rfl, fun a F => ?_⟩
    have O : Own w0 [] [.row 51 3 (.slice (some ⟨b15, 0, none⟩) N15 C15) N15 (es15.flatMap encUp), .row 51 3 (.slice (some ⟨b215, 0, none⟩) N215 C215) N215 (es215.flatMap encUp)] w := O.call0 K
    clear K
    have O : Own w0 [] [.row 51 3 (.slice (some ⟨b15, 0, none⟩) N15 C15) N15 (es15.flatMap encUp), .row 51 3 (.slice (some ⟨b215, 0, none⟩) N215 C215) N215 (es215.flatMap encUp)] w := O
    refine sp F (p_move rfl) rfl rfl fun a F => sp F (p_extract rfl rfl) rfl rfl fun a F => sp F (p_extract rfl rfl) rfl rfl fun a F => sp F (p_assign rfl) rfl rfl fun a F => sp F (p_assign rfl) rfl rfl fun a F => c_nil (hK4 _ _ (?_))
    try clear hK4 K4
    refine c_seq fun K5 hK5 => c_region (sp F (p_move rfl) rfl rfl fun a F => sp F (p_move rfl) rfl rfl fun a F => so F rfl (o_call (vs := #[.slice (some ⟨b15, 0, none⟩) N15 C15, .slice (some ⟨b215, 0, none⟩) N215 C215]) F Try.en_37 rfl rfl ((iUpdatesCross_ok (some ⟨b15, 0, none⟩) N15 C15 es15 (some ⟨b215, 0, none⟩) N215 C215 es215 w (O.arr 0 (es := es15) rfl encUp_len (by decide)) (by first | omega | (simp; done) | (simp; omega) | (simp at *; omega)) (by omega) (O.arr 1 (es := es215) rfl encUp_len (by decide)) (by first | omega | (simp; done) | (simp; omega) | (simp at *; omega)) (by omega)).mono ?_)))
    rintro e w ⟨rfl, K⟩
    refine ⟨_, rfl, fun a F => ?_⟩
    have O : Own w0 [] [.row 51 3 (.slice (some ⟨b15, 0, none⟩) N15 C15) N15 (es15.flatMap encUp), .row 51 3 (.slice (some ⟨b215, 0, none⟩) N215 C215) N215 (es215.flatMap encUp)] w := O.call0 K
    clear K
    have O : Own w0 [] [.row 51 3 (.slice (some ⟨b15, 0, none⟩) N15 C15) N15 (es15.flatMap encUp), .row 51 3 (.slice (some ⟨b215, 0, none⟩) N215 C215) N215 (es215.flatMap encUp)] w := O
    refine sp F (p_assign rfl) rfl rfl fun a F => c_nil (hK5 _ _ (?_))
    try clear hK5 K5
    refine c_seq fun K6 hK6 => c_region (sp F (p_move rfl) rfl rfl fun a F => sp F (p_move rfl) rfl rfl fun a F => so F rfl (o_call (vs := #[.slice (some ⟨b15, 0, none⟩) N15 C15, .slice (some ⟨b215, 0, none⟩) N215 C215]) F Try.en_36 rfl rfl ((sUpdatesCross_ok (some ⟨b15, 0, none⟩) N15 C15 es15 (some ⟨b215, 0, none⟩) N215 C215 es215 w (O.arr 0 (es := es15) rfl encUp_len (by decide)) (by first | omega | (simp; done) | (simp; omega) | (simp at *; omega)) (by omega) (O.arr 1 (es := es215) rfl encUp_len (by decide)) (by first | omega | (simp; done) | (simp; omega) | (simp at *; omega)) (by omega)).mono ?_)))
    rintro e w ⟨rfl, K⟩
    refine ⟨_, rfl, fun a F => ?_⟩
    have O : Own w0 [] [.row 51 3 (.slice (some ⟨b15, 0, none⟩) N15 C15) N15 (es15.flatMap encUp), .row 51 3 (.slice (some ⟨b215, 0, none⟩) N215 C215) N215 (es215.flatMap encUp)] w := O.call0 K
    clear K
    have O : Own w0 [] [.row 51 3 (.slice (some ⟨b15, 0, none⟩) N15 C15) N15 (es15.flatMap encUp), .row 51 3 (.slice (some ⟨b215, 0, none⟩) N215 C215) N215 (es215.flatMap encUp)] w := O
    refine sp F (p_assign rfl) rfl rfl fun a F => c_nil (hK6 _ _ (?_))
    try clear hK6 K6
    refine c_seq fun K7 hK7 => c_seq fun K8 hK8 => c_region (sp F (p_move rfl) rfl rfl fun a F => sp F (p_move rfl) rfl rfl fun a F => sp F (p_bneL rfl rfl Try.underlying4 false (by simp)) rfl rfl fun a F => sp F (p_move rfl) rfl rfl fun a F => sp F (p_move rfl) rfl rfl fun a F => so F rfl (o_call (vs := #[.slice (some ⟨b15, 0, none⟩) N15 C15]) F Try.en_25 rfl rfl ((sUpdatesValid_ok (some ⟨b15, 0, none⟩) N15 C15 es15 w (O.arr 0 (es := es15) rfl encUp_len (by decide)) (by first | omega | (simp; done) | (simp; omega) | (simp at *; omega)) (by omega)).mono ?_)))
    rintro e w ⟨rfl, K⟩
    refine ⟨_, rfl, fun a F => ?_⟩
    have O : Own w0 [] [.row 51 3 (.slice (some ⟨b15, 0, none⟩) N15 C15) N15 (es15.flatMap encUp), .row 51 3 (.slice (some ⟨b215, 0, none⟩) N215 C215) N215 (es215.flatMap encUp)] w := O.call0 K
    clear K
    have O : Own w0 [] [.row 51 3 (.slice (some ⟨b15, 0, none⟩) N15 C15) N15 (es15.flatMap encUp), .row 51 3 (.slice (some ⟨b215, 0, none⟩) N215 C215) N215 (es215.flatMap encUp)] w := O
    by_cases c29 : 0 < es15.length ∧ upsB es15 = true
    · have F := F.setB (d := 29) rfl (decide_eq_true c29)
      refine sp F (p_not rfl) rfl rfl fun a F => sp F (p_pick (t := false) rfl rfl) rfl rfl fun a F => sp F (p_move rfl) rfl rfl fun a F => sp F (p_move rfl) rfl rfl fun a F => so F rfl (o_call (vs := #[.slice (some ⟨b215, 0, none⟩) N215 C215]) F Try.en_25 rfl rfl ((sUpdatesValid_ok (some ⟨b215, 0, none⟩) N215 C215 es215 w (O.arr 1 (es := es215) rfl encUp_len (by decide)) (by first | omega | (simp; done) | (simp; omega) | (simp at *; omega)) (by omega)).mono ?_))
      rintro e w ⟨rfl, K⟩
      refine ⟨_, rfl, fun a F => ?_⟩
      have O : Own w0 [] [.row 51 3 (.slice (some ⟨b15, 0, none⟩) N15 C15) N15 (es15.flatMap encUp), .row 51 3 (.slice (some ⟨b215, 0, none⟩) N215 C215) N215 (es215.flatMap encUp)] w := O.call0 K
      clear K
      have O : Own w0 [] [.row 51 3 (.slice (some ⟨b15, 0, none⟩) N15 C15) N15 (es15.flatMap encUp), .row 51 3 (.slice (some ⟨b215, 0, none⟩) N215 C215) N215 (es215.flatMap encUp)] w := O
      by_cases c34 : 0 < es215.length ∧ upsB es215 = true
      · have F := F.setB (d := 34) rfl (decide_eq_true c34)
        refine sp F (p_not rfl) rfl rfl fun a F => sp F (p_pick (t := false) rfl rfl) rfl rfl fun a F => c_nil (hK8 _ _ (?_))
        try clear hK8 K8
        refine c_iff F rfl (wp_skip (hK7 _ _ (?_)))
        try clear hK7 K7
        refine c_seq fun K9 hK9 => c_region (sp F (p_assign rfl) rfl rfl fun a F => c_nil (hK9 _ _ (?_)))
        try clear hK9 K9
        refine c_seq fun K10 hK10 => c_seq fun K11 hK11 => c_region (sp F (p_assign rfl) rfl rfl fun a F => c_nil (hK11 _ _ (?_)))
        try clear hK11 K11
        refine wp_block (?_)
        refine c_loop (fun mm a w => ∃ (i : Int), ∃ (bv : Bool), mm = ((N15 : Int) - i).toNat ∧ Has 81 [(0, .slice A cn cc), (2, .bool false), (12, .bool false), (3, .slice (some ⟨b15, 0, none⟩) N15 C15), (4, .slice (some ⟨b215, 0, none⟩) N215 C215), (5, .bool (decide ((0 < es15.length ∧ upsB es15 = true) ∧ (0 < es215.length ∧ upsB es215 = true) ∧ crossB es15 es215 = true))), (6, .bool (decide ((0 < es15.length ∧ upsB es15 = true) ∧ (0 < es215.length ∧ upsB es215 = true) ∧ crossB es15 es215 = true))), (36, .bool false), (8, .int .i64 (i)), (7, .bool (bv))] a ∧ Own w0 [] [.row 51 3 (.slice (some ⟨b15, 0, none⟩) N15 C15) N15 (es15.flatMap encUp), .row 51 3 (.slice (some ⟨b215, 0, none⟩) N215 C215) N215 (es215.flatMap encUp)] w ∧ (0 ≤ i) ∧ (i ≤ N15) ∧ (bv = crossB (es15.take (i : Int).toNat) es215)) ?_ ?_
        · have F := F.setV (d := 7) rfl (show Value.bool false = .bool (false) from by rfl)
          have F : Has 81 [(0, .slice A cn cc), (2, .bool false), (12, .bool false), (3, .slice (some ⟨b15, 0, none⟩) N15 C15), (4, .slice (some ⟨b215, 0, none⟩) N215 C215), (5, .bool (decide ((0 < es15.length ∧ upsB es15 = true) ∧ (0 < es215.length ∧ upsB es215 = true) ∧ crossB es15 es215 = true))), (6, .bool (decide ((0 < es15.length ∧ upsB es15 = true) ∧ (0 < es215.length ∧ upsB es215 = true) ∧ crossB es15 es215 = true))), (36, .bool false), (8, .int .i64 (0)), (7, .bool (false))] a := F.pick ⟨rfl, rfl, rfl, rfl, rfl, rfl, rfl, rfl, rfl, rfl, trivial⟩
          exact ⟨((N15 : Int) - 0).toNat, 0, false, rfl, F, O, by first | assumption | omega, by first | assumption | omega, by rfl⟩
        · rintro mm a w ⟨i, bv, rfl, F, O, hi0a, hi0b, hi0c⟩
          refine c_seq fun K12 hK12 => c_seq fun K13 hK13 => c_region (sp F (p_move rfl) rfl rfl fun a F => sp F (p_move rfl) rfl rfl fun a F => sp F (p_len_l rfl Try.underlying32) rfl rfl fun a F => sp F (p_lss rfl rfl) rfl rfl fun a F => c_nil (hK13 _ _ (?_)))
          try clear hK13 K13
          by_cases c43 : i < (N15 : Int)
          · have F := F.setB (d := 43) rfl (decide_eq_true c43)
            refine c_ift F rfl (wp_skip (hK12 _ _ (?_)))
            try clear hK12 K12
            refine c_seq fun K14 hK14 => wp_block (c_seq fun K15 hK15 => c_region (sp F (p_assign rfl) rfl rfl fun a F => c_nil (hK15 _ _ (?_))))
            try clear hK15 K15
            refine wp_block (?_)
            refine c_loop (fun mm a w => ∃ (k : Int), ∃ (bw : Bool), mm = ((N215 : Int) - k).toNat ∧ Has 81 [(0, .slice A cn cc), (2, .bool false), (12, .bool false), (3, .slice (some ⟨b15, 0, none⟩) N15 C15), (4, .slice (some ⟨b215, 0, none⟩) N215 C215), (5, .bool (decide ((0 < es15.length ∧ upsB es15 = true) ∧ (0 < es215.length ∧ upsB es215 = true) ∧ crossB es15 es215 = true))), (6, .bool (decide ((0 < es15.length ∧ upsB es15 = true) ∧ (0 < es215.length ∧ upsB es215 = true) ∧ crossB es15 es215 = true))), (36, .bool false), (8, .int .i64 (i)), (43, .bool true), (9, .int .i64 (k)), (7, .bool (bw))] a ∧ Own w0 [] [.row 51 3 (.slice (some ⟨b15, 0, none⟩) N15 C15) N15 (es15.flatMap encUp), .row 51 3 (.slice (some ⟨b215, 0, none⟩) N215 C215) N215 (es215.flatMap encUp)] w ∧ (0 ≤ k) ∧ (k ≤ N215) ∧ (∀ e0, es15[(i : Int).toNat]? = some e0 → bw = (crossB (es15.take (i : Int).toNat) es215 || hasRef e0.1 (es215.take (k : Int).toNat)))) ?_ ?_
            · have F : Has 81 [(0, .slice A cn cc), (2, .bool false), (12, .bool false), (3, .slice (some ⟨b15, 0, none⟩) N15 C15), (4, .slice (some ⟨b215, 0, none⟩) N215 C215), (5, .bool (decide ((0 < es15.length ∧ upsB es15 = true) ∧ (0 < es215.length ∧ upsB es215 = true) ∧ crossB es15 es215 = true))), (6, .bool (decide ((0 < es15.length ∧ upsB es15 = true) ∧ (0 < es215.length ∧ upsB es215 = true) ∧ crossB es15 es215 = true))), (36, .bool false), (8, .int .i64 (i)), (43, .bool true), (9, .int .i64 (0)), (7, .bool (bv))] a := F.pick ⟨rfl, rfl, rfl, rfl, rfl, rfl, rfl, rfl, rfl, rfl, rfl, rfl, trivial⟩
              exact ⟨((N215 : Int) - 0).toNat, 0, bv, rfl, F, O, by first | assumption | omega, by first | assumption | omega, by intro e0 _; rw [hi0c]; simp [hasRef]⟩
            · rintro mm a w ⟨k, bw, rfl, F, O, hi2a, hi2b, hi2c⟩
              refine c_seq fun K16 hK16 => c_seq fun K17 hK17 => c_region (sp F (p_move rfl) rfl rfl fun a F => sp F (p_move rfl) rfl rfl fun a F => sp F (p_len_l rfl Try.underlying32) rfl rfl fun a F => sp F (p_lss rfl rfl) rfl rfl fun a F => c_nil (hK17 _ _ (?_)))
              try clear hK17 K17
              by_cases c49 : k < (N215 : Int)
              · have F := F.setB (d := 49) rfl (decide_eq_true c49)
                refine c_ift F rfl (wp_skip (hK16 _ _ (?_)))
                try clear hK16 K16
                refine c_seq fun K18 hK18 => wp_block (?_)
                by_cases cc1 : bw = true
                · refine c_draw Try.mixed (SC []) [] _ (fun a w h => h) ?_
                  have O := O.drawn (w.drawn + 1)
                  generalize { w with drawn := w.drawn + 1 } = w at O ⊢
                  have hS : SC [] w := SC.nil
                  refine d_take 0 rfl (by kernel_rfl) F (p_move rfl) rfl rfl hS fun a F => ?_
                  have F := F.setB (d := 7) rfl cc1
                  have F := F.setB (d := 52) rfl cc1
                  refine d_take 1 rfl (by kernel_rfl) F (p_move rfl) rfl rfl hS fun a F => d_skip 2 rfl (by kernel_rfl) F rfl rfl hS fun a F => d_skip 3 rfl (by kernel_rfl) F rfl rfl hS fun a F => d_skip 4 rfl (by kernel_rfl) F rfl rfl hS fun a F => d_skip 5 rfl (by kernel_rfl) F rfl rfl hS fun a F => d_skip 6 rfl (by kernel_rfl) F rfl rfl hS fun a F => d_skip 7 rfl (by kernel_rfl) F rfl rfl hS fun a F => d_skip 8 rfl (by kernel_rfl) F rfl rfl hS fun a F => d_skip 9 rfl (by kernel_rfl) F rfl rfl hS fun a F => d_skip 10 rfl (by kernel_rfl) F rfl rfl hS fun a F => d_skip 11 rfl (by kernel_rfl) F rfl rfl hS fun a F => d_skip 12 rfl (by kernel_rfl) F rfl rfl hS fun a F => d_take 13 rfl (by kernel_rfl) F (p_pick (t := true) rfl rfl) rfl rfl hS fun a F => ?_
                  refine d_take 14 rfl (by kernel_rfl) F (p_assign rfl) rfl rfl hS fun a F => d_done (by kernel_rfl) (hK18 _ _ (?_))
                  try clear hK18 K18
                  refine c_region (sp F (p_move rfl) rfl rfl fun a F => sp F (p_add rfl rfl (by omega) (by omega)) rfl rfl fun a F => sp F (p_assign rfl) rfl rfl fun a F => c_nil (?_))
                  obtain ⟨u0, hu0⟩ := get_some (l := es15) (i := i) (by omega) (by omega)
                  obtain ⟨v0, hv0⟩ := get_some (l := es215) (i := k) (by omega) (by omega)
                  have hbw := hi2c u0 hu0
                  have F := F.setV (d := 7) rfl (show Value.bool true = .bool (true) from by rfl)
                  have F : Has 81 [(0, .slice A cn cc), (2, .bool false), (12, .bool false), (3, .slice (some ⟨b15, 0, none⟩) N15 C15), (4, .slice (some ⟨b215, 0, none⟩) N215 C215), (5, .bool (decide ((0 < es15.length ∧ upsB es15 = true) ∧ (0 < es215.length ∧ upsB es215 = true) ∧ crossB es15 es215 = true))), (6, .bool (decide ((0 < es15.length ∧ upsB es15 = true) ∧ (0 < es215.length ∧ upsB es215 = true) ∧ crossB es15 es215 = true))), (36, .bool false), (8, .int .i64 (i)), (43, .bool true), (9, .int .i64 (k + 1)), (7, .bool (true))] a := F.pick ⟨rfl, rfl, rfl, rfl, rfl, rfl, rfl, rfl, rfl, rfl, rfl, rfl, trivial⟩
                  exact ⟨((N215 : Int) - (k + 1)).toNat, by omega, (k + 1), true, rfl, F, O, by first | assumption | omega, by first | assumption | omega, by intro e1 he1; rw [hu0] at he1; injection he1 with he1; subst he1; rw [hasRef_step hi2a hv0, ← Bool.or_assoc, ← hbw]; first | (simp_all; done) | (rw [hu0] at he56; rw [hv0] at he61; injection he56 with h5; injection he61 with h6; subst h5; subst h6; simp_all)⟩
                · obtain ⟨e56, he56⟩ := get_some (l := es15) (i := i) (by omega) (by first | omega | (simp; omega))
                  obtain ⟨e61, he61⟩ := get_some (l := es215) (i := k) (by omega) (by first | omega | (simp; omega))
                  refine c_draw Try.mixed (SC [(b15, 0 + (i : Int).toNat * 3, .int .i64 (e56.1)), (b215, 0 + (k : Int).toNat * 3, .int .i64 (e61.1))]) [] _ (fun a w h => h) ?_
                  have O := O.drawn (w.drawn + 1)
                  generalize { w with drawn := w.drawn + 1 } = w at O ⊢
                  have hS : SC [(b15, 0 + (i : Int).toNat * 3, .int .i64 (e56.1)), (b215, 0 + (k : Int).toNat * 3, .int .i64 (e61.1))] w := (SC.cons ((O.loadRow 0 rfl (flat_get0 encUp_len he56 rfl))) (SC.cons ((O.loadRow 1 rfl (flat_get0 encUp_len he61 rfl))) SC.nil))
                  refine d_take 0 rfl (by kernel_rfl) F (p_move rfl) rfl rfl hS fun a F => ?_
                  have F := F.setB (d := 7) rfl (Bool.eq_false_iff.2 cc1)
                  have F := F.setB (d := 52) rfl (Bool.eq_false_iff.2 cc1)
                  refine d_take 1 rfl (by kernel_rfl) F (p_move rfl) rfl rfl hS fun a F => d_take 2 rfl (by kernel_rfl) F (p_move rfl) rfl rfl hS fun a F => d_take 3 rfl (by kernel_rfl) F (p_move rfl) rfl rfl hS fun a F => d_take 4 rfl (by kernel_rfl) F (p_iaddr rfl rfl Try.underlying32 Try.sz_51 (by omega) (by omega)) rfl rfl hS fun a F => d_take 5 rfl (by kernel_rfl) F (p_faddr rfl Try.foff_51_0) rfl rfl hS fun a F => d_take 6 rfl (by kernel_rfl) F (p_load rfl Try.agg_3 (fun _ h => (SC.get h 0 rfl))) rfl rfl hS fun a F => d_take 7 rfl (by kernel_rfl) F (p_move rfl) rfl rfl hS fun a F => d_take 8 rfl (by kernel_rfl) F (p_move rfl) rfl rfl hS fun a F => d_take 9 rfl (by kernel_rfl) F (p_iaddr rfl rfl Try.underlying32 Try.sz_51 (by omega) (by omega)) rfl rfl hS fun a F => d_take 10 rfl (by kernel_rfl) F (p_faddr rfl Try.foff_51_0) rfl rfl hS fun a F => d_take 11 rfl (by kernel_rfl) F (p_load rfl Try.agg_3 (fun _ h => (SC.get h 1 rfl))) rfl rfl hS fun a F => d_take 12 rfl (by kernel_rfl) F (p_eql rfl rfl) rfl rfl hS fun a F => d_take 13 rfl (by kernel_rfl) F (p_pick (t := false) rfl rfl) rfl rfl hS fun a F => ?_
                  refine d_take 14 rfl (by kernel_rfl) F (p_assign rfl) rfl rfl hS fun a F => d_done (by kernel_rfl) (hK18 _ _ (?_))
                  try clear hK18 K18
                  refine c_region (sp F (p_move rfl) rfl rfl fun a F => sp F (p_add rfl rfl (by omega) (by omega)) rfl rfl fun a F => sp F (p_assign rfl) rfl rfl fun a F => c_nil (?_))
                  obtain ⟨u0, hu0⟩ := get_some (l := es15) (i := i) (by omega) (by omega)
                  obtain ⟨v0, hv0⟩ := get_some (l := es215) (i := k) (by omega) (by omega)
                  have hbw := hi2c u0 hu0
                  have F : Has 81 [(0, .slice A cn cc), (2, .bool false), (12, .bool false), (3, .slice (some ⟨b15, 0, none⟩) N15 C15), (4, .slice (some ⟨b215, 0, none⟩) N215 C215), (5, .bool (decide ((0 < es15.length ∧ upsB es15 = true) ∧ (0 < es215.length ∧ upsB es215 = true) ∧ crossB es15 es215 = true))), (6, .bool (decide ((0 < es15.length ∧ upsB es15 = true) ∧ (0 < es215.length ∧ upsB es215 = true) ∧ crossB es15 es215 = true))), (36, .bool false), (8, .int .i64 (i)), (43, .bool true), (9, .int .i64 (k + 1)), (7, .bool (decide (e56.1 = e61.1)))] a := F.pick ⟨rfl, rfl, rfl, rfl, rfl, rfl, rfl, rfl, rfl, rfl, rfl, rfl, trivial⟩
                  exact ⟨((N215 : Int) - (k + 1)).toNat, by omega, (k + 1), (decide (e56.1 = e61.1)), rfl, F, O, by first | assumption | omega, by first | assumption | omega, by intro e1 he1; rw [hu0] at he1; injection he1 with he1; subst he1; rw [hasRef_step hi2a hv0, ← Bool.or_assoc, ← hbw]; first | (simp_all; done) | (rw [hu0] at he56; rw [hv0] at he61; injection he56 with h5; injection he61 with h6; subst h5; subst h6; simp_all)⟩
              · have F := F.setB (d := 49) rfl (decide_eq_false c49)
                refine c_iff F rfl (wp_exit (e_then (e_then (e_here (hK14 _ _ (?_))))))
                try clear hK14 K14
                refine c_region (sp F (p_move rfl) rfl rfl fun a F => sp F (p_add rfl rfl (by omega) (by omega)) rfl rfl fun a F => sp F (p_assign rfl) rfl rfl fun a F => c_nil (?_))
                obtain ⟨e0, he0⟩ := get_some (l := es15) (i := i) (by omega) (by omega)
                have F : Has 81 [(0, .slice A cn cc), (2, .bool false), (12, .bool false), (3, .slice (some ⟨b15, 0, none⟩) N15 C15), (4, .slice (some ⟨b215, 0, none⟩) N215 C215), (5, .bool (decide ((0 < es15.length ∧ upsB es15 = true) ∧ (0 < es215.length ∧ upsB es215 = true) ∧ crossB es15 es215 = true))), (6, .bool (decide ((0 < es15.length ∧ upsB es15 = true) ∧ (0 < es215.length ∧ upsB es215 = true) ∧ crossB es15 es215 = true))), (36, .bool false), (8, .int .i64 (i + 1)), (7, .bool (bw))] a := F.pick ⟨rfl, rfl, rfl, rfl, rfl, rfl, rfl, rfl, rfl, rfl, trivial⟩
                exact ⟨((N15 : Int) - (i + 1)).toNat, by omega, (i + 1), bw, rfl, F, O, by first | assumption | omega, by first | assumption | omega, by rw [crossB_step hi0a he0, hi2c e0 he0, take_all (l := es215) (k := k) (by omega)]⟩
          · have F := F.setB (d := 43) rfl (decide_eq_false c43)
            refine c_iff F rfl (wp_exit (e_then (e_then (e_here (hK10 _ _ (?_))))))
            try clear hK10 K10
            refine c_seq fun K14 hK14 => ?_
            have hcr : bv = crossB es15 es215 := by rw [hi0c, take_all (by omega)]
            refine c_region (sp F (p_move rfl) rfl rfl fun a F => sp F (p_move rfl) rfl rfl fun a F => ?_)
            by_cases c66 : (0 < es15.length ∧ upsB es15 = true) ∧ (0 < es215.length ∧ upsB es215 = true) ∧ crossB es15 es215 = true
            · have F := F.setB (d := 5) rfl (decide_eq_true c66)
              have F := F.setB (d := 6) rfl (decide_eq_true c66)
              have F := F.setB (d := 66) rfl (decide_eq_true c66)
              have c67 : bv = true := by rw [hcr]; exact c66.2.2
              have F := F.setB (d := 7) rfl c67
              have F := F.setB (d := 67) rfl c67
              refine sp F (p_beqL rfl rfl Try.underlying4 true (by rfl)) rfl rfl fun a F => sp F (p_move rfl) rfl rfl fun a F => sp F (p_move rfl) rfl rfl fun a F => sp F (p_move rfl) rfl rfl fun a F => so F rfl (o_call (vs := #[.slice (some ⟨b215, 0, none⟩) N215 C215, .slice (some ⟨b15, 0, none⟩) N15 C15]) F Try.en_37 rfl rfl ((iUpdatesCross_ok (some ⟨b215, 0, none⟩) N215 C215 es215 (some ⟨b15, 0, none⟩) N15 C15 es15 w (O.arr 1 (es := es215) rfl encUp_len (by decide)) (by first | omega | (simp; done) | (simp; omega) | (simp at *; omega)) (by omega) (O.arr 0 (es := es15) rfl encUp_len (by decide)) (by first | omega | (simp; done) | (simp; omega) | (simp at *; omega)) (by omega)).mono ?_))
              rintro e w ⟨rfl, K⟩
              refine ⟨_, rfl, fun a F => ?_⟩
              have O : Own w0 [] [.row 51 3 (.slice (some ⟨b15, 0, none⟩) N15 C15) N15 (es15.flatMap encUp), .row 51 3 (.slice (some ⟨b215, 0, none⟩) N215 C215) N215 (es215.flatMap encUp)] w := O.call0 K
              clear K
              have c72 : (0 < es215.length ∧ upsB es215 = true) ∧ (0 < es15.length ∧ upsB es15 = true) ∧ crossB es215 es15 = true := by exact ⟨c34, c29, by rw [crossB_symm]; exact c66.2.2⟩
              have F := F.setB (d := 72) rfl (decide_eq_true c72)
              have O : Own w0 [] [.row 51 3 (.slice (some ⟨b15, 0, none⟩) N15 C15) N15 (es15.flatMap encUp), .row 51 3 (.slice (some ⟨b215, 0, none⟩) N215 C215) N215 (es215.flatMap encUp)] w := O
              refine sp F (p_move rfl) rfl rfl fun a F => sp F (p_beqL rfl rfl Try.underlying4 true (by rfl)) rfl rfl fun a F => sp F (p_pick (t := true) rfl rfl) rfl rfl fun a F => sp F (p_move rfl) rfl rfl fun a F => sp F (p_move rfl) rfl rfl fun a F => sp F (p_move rfl) rfl rfl fun a F => so F rfl (o_call (vs := #[.slice (some ⟨b15, 0, none⟩) N15 C15, .slice (some ⟨b15, 0, none⟩) N15 C15]) F Try.en_37 rfl rfl ((iUpdatesCross_ok (some ⟨b15, 0, none⟩) N15 C15 es15 (some ⟨b15, 0, none⟩) N15 C15 es15 w (O.arr 0 (es := es15) rfl encUp_len (by decide)) (by first | omega | (simp; done) | (simp; omega) | (simp at *; omega)) (by omega) (O.arr 0 (es := es15) rfl encUp_len (by decide)) (by first | omega | (simp; done) | (simp; omega) | (simp at *; omega)) (by omega)).mono ?_))
              rintro e w ⟨rfl, K⟩
              refine ⟨_, rfl, fun a F => ?_⟩
              have O : Own w0 [] [.row 51 3 (.slice (some ⟨b15, 0, none⟩) N15 C15) N15 (es15.flatMap encUp), .row 51 3 (.slice (some ⟨b215, 0, none⟩) N215 C215) N215 (es215.flatMap encUp)] w := O.call0 K
              clear K
              have c79 : (0 < es15.length ∧ upsB es15 = true) ∧ (0 < es15.length ∧ upsB es15 = true) ∧ crossB es15 es15 = true := by exact ⟨c29, c29, crossB_self c29.1⟩
              have F := F.setB (d := 79) rfl (decide_eq_true c79)
              have O : Own w0 [] [.row 51 3 (.slice (some ⟨b15, 0, none⟩) N15 C15) N15 (es15.flatMap encUp), .row 51 3 (.slice (some ⟨b215, 0, none⟩) N215 C215) N215 (es215.flatMap encUp)] w := O
              refine sp F (p_pick (t := true) rfl rfl) rfl rfl fun a F => sp F (p_assign rfl) rfl rfl fun a F => c_nil (hK14 _ _ (?_))
              try clear hK14 K14
              refine wp_ret (ret1 F rfl rfl (?_))
              have O : Own w0 [] [] w := (O.take 0)
              exact ⟨rfl, O⟩
            · have F := F.setB (d := 5) rfl (decide_eq_false c66)
              have F := F.setB (d := 6) rfl (decide_eq_false c66)
              have F := F.setB (d := 66) rfl (decide_eq_false c66)
              have c67 : ¬ (bv = true) := by intro h; rw [hcr] at h; exact c66 ⟨c29, c34, h⟩
              have F := F.setB (d := 7) rfl (Bool.eq_false_iff.2 c67)
              have F := F.setB (d := 67) rfl (Bool.eq_false_iff.2 c67)
              refine sp F (p_beqL rfl rfl Try.underlying4 true (by rfl)) rfl rfl fun a F => sp F (p_move rfl) rfl rfl fun a F => sp F (p_move rfl) rfl rfl fun a F => sp F (p_move rfl) rfl rfl fun a F => so F rfl (o_call (vs := #[.slice (some ⟨b215, 0, none⟩) N215 C215, .slice (some ⟨b15, 0, none⟩) N15 C15]) F Try.en_37 rfl rfl ((iUpdatesCross_ok (some ⟨b215, 0, none⟩) N215 C215 es215 (some ⟨b15, 0, none⟩) N15 C15 es15 w (O.arr 1 (es := es215) rfl encUp_len (by decide)) (by first | omega | (simp; done) | (simp; omega) | (simp at *; omega)) (by omega) (O.arr 0 (es := es15) rfl encUp_len (by decide)) (by first | omega | (simp; done) | (simp; omega) | (simp at *; omega)) (by omega)).mono ?_))
              rintro e w ⟨rfl, K⟩
              refine ⟨_, rfl, fun a F => ?_⟩
              have O : Own w0 [] [.row 51 3 (.slice (some ⟨b15, 0, none⟩) N15 C15) N15 (es15.flatMap encUp), .row 51 3 (.slice (some ⟨b215, 0, none⟩) N215 C215) N215 (es215.flatMap encUp)] w := O.call0 K
              clear K
              have c72 : ¬ ((0 < es215.length ∧ upsB es215 = true) ∧ (0 < es15.length ∧ upsB es15 = true) ∧ crossB es215 es15 = true) := by intro h; exact c66 ⟨c29, c34, by rw [crossB_symm]; exact h.2.2⟩
              have F := F.setB (d := 72) rfl (decide_eq_false c72)
              have O : Own w0 [] [.row 51 3 (.slice (some ⟨b15, 0, none⟩) N15 C15) N15 (es15.flatMap encUp), .row 51 3 (.slice (some ⟨b215, 0, none⟩) N215 C215) N215 (es215.flatMap encUp)] w := O
              refine sp F (p_move rfl) rfl rfl fun a F => sp F (p_beqL rfl rfl Try.underlying4 true (by rfl)) rfl rfl fun a F => sp F (p_pick (t := true) rfl rfl) rfl rfl fun a F => sp F (p_move rfl) rfl rfl fun a F => sp F (p_move rfl) rfl rfl fun a F => sp F (p_move rfl) rfl rfl fun a F => so F rfl (o_call (vs := #[.slice (some ⟨b15, 0, none⟩) N15 C15, .slice (some ⟨b15, 0, none⟩) N15 C15]) F Try.en_37 rfl rfl ((iUpdatesCross_ok (some ⟨b15, 0, none⟩) N15 C15 es15 (some ⟨b15, 0, none⟩) N15 C15 es15 w (O.arr 0 (es := es15) rfl encUp_len (by decide)) (by first | omega | (simp; done) | (simp; omega) | (simp at *; omega)) (by omega) (O.arr 0 (es := es15) rfl encUp_len (by decide)) (by first | omega | (simp; done) | (simp; omega) | (simp at *; omega)) (by omega)).mono ?_))
              rintro e w ⟨rfl, K⟩
              refine ⟨_, rfl, fun a F => ?_⟩
              have O : Own w0 [] [.row 51 3 (.slice (some ⟨b15, 0, none⟩) N15 C15) N15 (es15.flatMap encUp), .row 51 3 (.slice (some ⟨b215, 0, none⟩) N215 C215) N215 (es215.flatMap encUp)] w := O.call0 K
              clear K
              have c79 : (0 < es15.length ∧ upsB es15 = true) ∧ (0 < es15.length ∧ upsB es15 = true) ∧ crossB es15 es15 = true := by exact ⟨c29, c29, crossB_self c29.1⟩
              have F := F.setB (d := 79) rfl (decide_eq_true c79)
              have O : Own w0 [] [.row 51 3 (.slice (some ⟨b15, 0, none⟩) N15 C15) N15 (es15.flatMap encUp), .row 51 3 (.slice (some ⟨b215, 0, none⟩) N215 C215) N215 (es215.flatMap encUp)] w := O
              refine sp F (p_pick (t := true) rfl rfl) rfl rfl fun a F => sp F (p_assign rfl) rfl rfl fun a F => c_nil (hK14 _ _ (?_))
              try clear hK14 K14
              refine wp_ret (ret1 F rfl rfl (?_))
              have O : Own w0 [] [] w := (O.take 0)
              exact ⟨rfl, O⟩
      · have F := F.setB (d := 34) rfl (decide_eq_false c34)
        refine sp F (p_not rfl) rfl rfl fun a F => sp F (p_pick (t := false) rfl rfl) rfl rfl fun a F => c_nil (hK8 _ _ (?_))
        try clear hK8 K8
        refine c_ift F rfl (c_seq fun K9 hK9 => c_region (sp F (p_move rfl) rfl rfl fun a F => sp F (p_move rfl) rfl rfl fun a F => sp F (p_beqL rfl rfl Try.underlying4 true (by simp)) rfl rfl fun a F => sp F (p_assign rfl) rfl rfl fun a F => c_nil (hK9 _ _ (?_))))
        try clear hK9 K9
        refine wp_ret (r_then (ret1 F rfl rfl (?_)))
        have O : Own w0 [] [] w := (O.take 0)
        exact ⟨rfl, O⟩
    · have F := F.setB (d := 29) rfl (decide_eq_false c29)
      refine sp F (p_not rfl) rfl rfl fun a F => sp F (p_pick (t := false) rfl rfl) rfl rfl fun a F => sp F (p_move rfl) rfl rfl fun a F => ss F rfl rfl fun a F => ss F rfl rfl fun a F => ss F rfl rfl fun a F => sp F (p_pick (t := true) rfl rfl) rfl rfl fun a F => c_nil (hK8 _ _ (?_))
      try clear hK8 K8
      refine c_ift F rfl (c_seq fun K9 hK9 => c_region (sp F (p_move rfl) rfl rfl fun a F => sp F (p_move rfl) rfl rfl fun a F => sp F (p_beqL rfl rfl Try.underlying4 true (by simp)) rfl rfl fun a F => sp F (p_assign rfl) rfl rfl fun a F => c_nil (hK9 _ _ (?_))))
      try clear hK9 K9
      refine wp_ret (r_then (ret1 F rfl rfl (?_)))
      have O : Own w0 [] [] w := (O.take 0)
      exact ⟨rfl, O⟩

set_option maxRecDepth 100000 in
theorem cross_lifted (os : Os) (started : os.Started) (H : Type) (enc : TypeId × Value → H) :
    ReturnsInHanded {} Try.checked os 14 .any (Rows.fnCrossSpec.pre6 enc Try.prog Try.f14 Rows.fnCrossRow.domain false) (Rows.fnCrossSpec.post enc Try.prog Try.f14 false true false false) := by
  have e0 : Rows.fnCrossRow.domain = [] := rfl
  rw [e0]
  refine lifted_of (C := Try.checked) Try.facts started (by kernel_rfl) Try.func14 rfl ?_ (tb := 4) (by kernel_rfl) Try.underlying4 (by kernel_rfl)
    (ChangeSpec.witness6 (enc := enc) (C := Try.checked) false ⟨#[], #[.slice none 0 0], []⟩ 8 (by kernel_rfl) (by kernel_rfl) (by kernel_rfl) (by kernel_rfl)) ?_
  · intro ds hds
    match ds, hds with
    | [_], _ => rfl
  intro W base args ds p hval0 hA0
  have hval : ∀ (j : Nat) t v, Try.f14.params[j]? = some t → args[j]? = some v → Value.okWide Try.prog W .any base t v := hval0
  have hA : DataW.TrodAll enc Try.prog W 0 (fun _ => true) true Try.f14.params.toList args.toList ds p := hA0
  clear hA0 hval0
  show Calls Try.prog 14 args W _
  rw [Try.params14] at hA hval
  obtain ⟨v0, d0, hargs, rfl, h0⟩ := trodAll_one hA
  obtain rfl : args = #[v0] := by cases args; simp_all
  obtain ⟨a, n, c, rfl, hC⟩ := open_codeIn (hval 0 26 v0 rfl rfl) h0
  exact (cross_ok a n c W hC).mono fun e w' h => ⟨h.1, h.2.below⟩

theorem cross_pkg : ¬ Check.packageOf Try.f14.name = "main" := by
  intro h
  have h2 := congrArg String.toList h
  simp only [Check.packageOf, Try.f14] at h2
  simp at h2

theorem cross_closed : lawFacts Try.prog 14 Try.f14 Rows.fnCrossSpec Rows.fnCrossRow = true := by kernel_rfl
theorem cross_facts : joinedFacts Try.pinned.checked.prog 14 Try.f14 Rows.fnCrossSpec Rows.fnCrossRow = true := facts_of (P := Try.prog) Try.facts cross_closed

theorem cross_wrap : Func.isWrapper Try.pinned.checked.prog Try.f14 Rows.fnCrossRow.wrapper Rows.fnCrossRow.mainSum := by
  have e1 : Rows.fnCrossRow.wrapper = false := rfl
  have e2 : Rows.fnCrossRow.mainSum = "" := rfl
  rw [e1, e2]
  exact wrapper_of Try.pinned.checked.prog Try.f14 cross_pkg

/-- The statement. -/
theorem cross_over : Rows.fnCrossRow.holds Try.pinned (OpenSpec.ofChange Rows.fnCrossSpec) :=
  OpenClaim.holds_of_wide 14 Try.f14 rfl rfl rfl rfl rfl rfl rfl ⟨rfl, rfl, rfl, rfl, rfl⟩ rfl rfl rfl rfl rfl (by kernel_rfl) Try.func14 cross_facts
    (of_decide_eq_true (by kernel_rfl)) cross_wrap
    (fun os started H enc _ => cross_lifted os started H enc)
theorem cross_holds : Rows.FnCrossSaid := cross_over
#print axioms cross_holds

end Go.Proofs.Ytilpbddeijolbaa
