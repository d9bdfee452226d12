/- Fewer updates are valid: the law FnUpdatesPart returns true. No conditions. -/
import Derived.Test.YtilpbddeijolbaaRefE
import Derived.Test.YtilpbddeijolbaaRefL
import Derived.Test.YtilpbddeijolbaaOpenC
namespace Go.Proofs.Ytilpbddeijolbaa
open Go.ChangeShapes Go.WideShapes Go.ChangeAt Go.RowKit
set_option linter.unusedVariables false
set_option linter.unusedSimpArgs false

set_option maxRecDepth 100000 in
/-- laws.FnUpdatesPart -/
theorem updatesPart_ok (A : Option Addr) (cn : Nat) (cc : Nat) (A2 : Option Addr) (cn2 : Nat) (cc2 : Nat) (w0 : World) (hC : CodeIn w0 A cn cc) (hC2 : CodeIn w0 A2 cn2 cc2) :
    Calls Try.prog 9 #[.slice A cn cc, .slice A2 cn2 cc2] w0 fun e w => e = .returned (.bool true) ∧ Own w0 [] [] w := by
  have O := Own.start w0
  have hcc : (cn : Int) ≤ cc := by have := hC.1; omega
  have hcm : (cc : Int) ≤ 9223372036854775807 := by have := hC.2.1; unfold maxLen at this; omega
  have hcc2 : (cn2 : Int) ≤ cc2 := by have := hC2.1; omega
  have hcm2 : (cc2 : Int) ≤ 9223372036854775807 := by have := hC2.2.1; unfold maxLen at this; omega
  refine enterO (n := 71) Try.func9 rfl rfl rfl O fun a w F O => ?_
  refine c_seq fun K1 hK1 => c_region (sp F (p_assign rfl) rfl rfl fun a F => c_nil (hK1 _ _ (?_)))
  try clear hK1 K1
  refine c_seq fun K2 hK2 => c_seq fun K3 hK3 => c_region (sp F (p_move rfl) rfl rfl fun a F => sp F (p_len_l rfl Try.underlying26) rfl rfl fun a F => sp F (p_gtr rfl rfl) rfl rfl fun a F => sp F (p_move rfl) rfl rfl fun a F => ?_)
  by_cases c14 : 1048576 < (cn : Int)
  · have F := F.setB (d := 13) rfl (decide_eq_true c14)
    have F := F.setB (d := 14) rfl (decide_eq_true c14)
    refine ss F rfl rfl fun a F => ss F rfl rfl fun a F => ss F rfl rfl fun a F => sp F (p_pick (t := true) rfl rfl) rfl rfl fun a F => c_nil (hK3 _ _ (?_))
    try clear hK3 K3
    refine c_ift F rfl (c_seq fun K4 hK4 => c_region (sp F (p_assign rfl) rfl rfl fun a F => c_nil (hK4 _ _ (?_))))
    try clear hK4 K4
    refine wp_ret (r_then (ret1 F rfl rfl (?_)))
    exact ⟨rfl, O⟩
  · have F := F.setB (d := 13) rfl (decide_eq_false c14)
    have F := F.setB (d := 14) rfl (decide_eq_false c14)
    refine sp F (p_move rfl) rfl rfl fun a F => sp F (p_len_l rfl Try.underlying26) rfl rfl fun a F => sp F (p_gtr rfl rfl) rfl rfl fun a F => sp F (p_pick (t := false) rfl rfl) rfl rfl fun a F => c_nil (hK3 _ _ (?_))
    try clear hK3 K3
    by_cases c18 : 1048576 < (cn2 : Int)
    · have F := F.setB (d := 17) rfl (decide_eq_true c18)
      have F := F.setB (d := 18) rfl (decide_eq_true c18)
      refine c_ift F rfl (c_seq fun K4 hK4 => c_region (sp F (p_assign rfl) rfl rfl fun a F => c_nil (hK4 _ _ (?_))))
      try clear hK4 K4
      refine wp_ret (r_then (ret1 F rfl rfl (?_)))
      exact ⟨rfl, O⟩
    · have F := F.setB (d := 17) rfl (decide_eq_false c18)
      have F := F.setB (d := 18) rfl (decide_eq_false c18)
      refine c_iff F rfl (wp_skip (hK2 _ _ (?_)))
      try clear hK2 K2
      refine c_seq fun K4 hK4 => c_region (sp F (p_move rfl) rfl rfl fun a F => so F rfl (o_call (vs := #[.slice A cn cc]) F Try.en_35 rfl rfl ((dUpdatesValid_ok A cn cc w (hC.keep O)).mono ?_)))
      rintro e w ⟨b20, N20, C20, es20, rfl, h20a, h20b, K⟩
      refine ⟨_, rfl, fun a F => ?_⟩
      have O : Own w0 [] [.row 51 3 (.slice (some ⟨b20, 0, none⟩) N20 C20) N20 (es20.flatMap encUp)] w := O.call0 K
      clear K
      have O : Own w0 [] [.row 51 3 (.slice (some ⟨b20, 0, none⟩) N20 C20) N20 (es20.flatMap encUp)] w := O
      refine sp F (p_assign rfl) rfl rfl fun a F => c_nil (hK4 _ _ (?_))
      try clear hK4 K4
      refine c_seq fun K5 hK5 => c_region (sp F (p_move rfl) rfl rfl fun a F => so F rfl (o_call (vs := #[.slice (some ⟨b20, 0, none⟩) N20 C20]) F Try.en_27 rfl rfl ((iUpdatesValid_ok (some ⟨b20, 0, none⟩) N20 C20 es20 w (O.arr 0 (es := es20) rfl encUp_len (by decide)) (by first | omega | (simp; done) | (simp; omega) | (simp at *; omega)) (by omega)).mono ?_)))
      rintro e w ⟨rfl, K⟩
      refine ⟨_, rfl, fun a F => ?_⟩
      have O : Own w0 [] [.row 51 3 (.slice (some ⟨b20, 0, none⟩) N20 C20) N20 (es20.flatMap encUp)] w := O.call0 K
      clear K
      have O : Own w0 [] [.row 51 3 (.slice (some ⟨b20, 0, none⟩) N20 C20) N20 (es20.flatMap encUp)] w := O
      refine sp F (p_assign rfl) rfl rfl fun a F => c_nil (hK5 _ _ (?_))
      try clear hK5 K5
      refine c_seq fun K6 hK6 => c_region (sp F (p_move rfl) rfl rfl fun a F => so F rfl (o_call (vs := #[.slice (some ⟨b20, 0, none⟩) N20 C20]) F Try.en_25 rfl rfl ((sUpdatesValid_ok (some ⟨b20, 0, none⟩) N20 C20 es20 w (O.arr 0 (es := es20) rfl encUp_len (by decide)) (by first | omega | (simp; done) | (simp; omega) | (simp at *; omega)) (by omega)).mono ?_)))
      rintro e w ⟨rfl, K⟩
      refine ⟨_, rfl, fun a F => ?_⟩
      have O : Own w0 [] [.row 51 3 (.slice (some ⟨b20, 0, none⟩) N20 C20) N20 (es20.flatMap encUp)] w := O.call0 K
      clear K
      have O : Own w0 [] [.row 51 3 (.slice (some ⟨b20, 0, none⟩) N20 C20) N20 (es20.flatMap encUp)] w := O
      refine sp F (p_assign rfl) rfl rfl fun a F => c_nil (hK6 _ _ (?_))
      try clear hK6 K6
      refine c_seq fun K7 hK7 => c_seq fun K8 hK8 => c_region (sp F (p_move rfl) rfl rfl fun a F => sp F (p_move rfl) rfl rfl fun a F => sp F (p_bneL rfl rfl Try.underlying4 false (by simp)) rfl rfl fun a F => sp F (p_move rfl) rfl rfl fun a F => sp F (p_move rfl) rfl rfl fun a F => ?_)
      by_cases c29 : 0 < es20.length ∧ upsB es20 = true
      · have F := F.setB (d := 22) rfl (decide_eq_true c29)
        have F := F.setB (d := 6) rfl (decide_eq_true c29)
        have F := F.setB (d := 24) rfl (decide_eq_true c29)
        have F := F.setB (d := 7) rfl (decide_eq_true c29)
        have F := F.setB (d := 25) rfl (decide_eq_true c29)
        have F := F.setB (d := 26) rfl (decide_eq_true c29)
        have F := F.setB (d := 29) rfl (decide_eq_true c29)
        refine sp F (p_not rfl) rfl rfl fun a F => sp F (p_pick (t := false) rfl rfl) rfl rfl fun a F => c_nil (hK8 _ _ (?_))
        try clear hK8 K8
        refine c_iff F rfl (wp_skip (hK7 _ _ (?_)))
        try clear hK7 K7
        refine c_seq fun K9 hK9 => c_region (sp F (p_move rfl) rfl rfl fun a F => sp F (p_len_l rfl Try.underlying26) rfl rfl fun a F => sp F (p_move rfl) rfl rfl fun a F => sp F (p_len_l rfl Try.underlying32) rfl rfl fun a F => sp F (p_rem rfl rfl (by omega) (by omega) (by omega)) rfl rfl fun a F => sp F (p_assign rfl) rfl rfl fun a F => c_nil (hK9 _ _ (?_)))
        try clear hK9 K9
        refine c_seq fun K10 hK10 => ?_
        have hk0 := Int.emod_nonneg (cn2 : Int) (show (N20 : Int) ≠ 0 by omega)
        have hk1 := Int.emod_lt_of_pos (cn2 : Int) (show (0 : Int) < N20 by omega)
        obtain ⟨k, hk⟩ : ∃ k, k = (cn2 : Int) % (N20 : Int) := ⟨_, rfl⟩
        rw [← hk] at hk0 hk1 F
        have hcap := O.rowCap 0 rfl
        refine c_draw Try.mixed (SC []) [] (fun a w => ∃ (b40 : Nat), ∃ (p44 : Option Addr), ∃ (k44 : Nat), ∃ (p49 : Option Addr), ∃ (k49 : Nat), Has 71 [(0, .slice A cn cc), (1, .slice A2 cn2 cc2), (4, .bool false), (18, .bool false), (5, .slice (some ⟨b20, 0, none⟩) N20 C20), (6, .bool true), (7, .bool true), (31, .bool false), (8, .int .i64 (k)), (9, .slice p49 ((0 + ((k : Int).toNat)) + (N20 - (k + 1 : Int).toNat)) k49)] a ∧ Own w0 [] [.row 51 3 (.slice p49 ((0 + ((k : Int).toNat)) + (N20 - (k + 1 : Int).toNat)) k49) ((0 + ((k : Int).toNat)) + (N20 - (k + 1 : Int).toNat)) (((es20.take ((k : Int).toNat)) ++ (es20.drop ((k + 1 : Int).toNat))).flatMap encUp), .row 51 3 (.slice (some ⟨b20, 0, none⟩) N20 C20) N20 (es20.flatMap encUp)] w) ?_ ?_
        · rintro a w ⟨b40, p44, k44, p49, k49, F, O⟩
          refine hK10 _ _ (?_)
          try clear hK10 K10
          refine c_seq fun K11 hK11 => ?_
          refine c_draw Try.mixed (SC []) [] (fun a w => ∃ (b50 : Nat), ∃ (p55 : Option Addr), ∃ (k55 : Nat), ∃ (p59 : Option Addr), ∃ (k59 : Nat), Has 71 [(0, .slice A cn cc), (1, .slice A2 cn2 cc2), (4, .bool false), (18, .bool false), (5, .slice (some ⟨b20, 0, none⟩) N20 C20), (6, .bool true), (7, .bool true), (31, .bool false), (8, .int .i64 (k)), (9, .slice p49 ((0 + ((k : Int).toNat)) + (N20 - (k + 1 : Int).toNat)) k49), (10, .slice p59 ((0 + ((k + 1 : Int).toNat)) + (N20 - (k : Int).toNat)) k59)] a ∧ Own w0 [] [.row 51 3 (.slice p59 ((0 + ((k + 1 : Int).toNat)) + (N20 - (k : Int).toNat)) k59) ((0 + ((k + 1 : Int).toNat)) + (N20 - (k : Int).toNat)) (((es20.take ((k + 1 : Int).toNat)) ++ (es20.drop ((k : Int).toNat))).flatMap encUp), .row 51 3 (.slice p49 ((0 + ((k : Int).toNat)) + (N20 - (k + 1 : Int).toNat)) k49) ((0 + ((k : Int).toNat)) + (N20 - (k + 1 : Int).toNat)) (((es20.take ((k : Int).toNat)) ++ (es20.drop ((k + 1 : Int).toNat))).flatMap encUp), .row 51 3 (.slice (some ⟨b20, 0, none⟩) N20 C20) N20 (es20.flatMap encUp)] w) ?_ ?_
          · rintro a w ⟨b50, p55, k55, p59, k59, F, O⟩
            refine hK11 _ _ (?_)
            try clear hK11 K11
            refine c_seq fun K12 hK12 => c_region (sp F (p_move rfl) rfl rfl fun a F => so F rfl (o_call (vs := #[.slice p49 ((0 + ((k : Int).toNat)) + (N20 - (k + 1 : Int).toNat)) k49]) F Try.en_27 rfl rfl ((iUpdatesValid_ok p49 ((0 + ((k : Int).toNat)) + (N20 - (k + 1 : Int).toNat)) k49 ((es20.take ((k : Int).toNat)) ++ (es20.drop ((k + 1 : Int).toNat))) w (O.arr 1 (es := (es20.take ((k : Int).toNat)) ++ (es20.drop ((k + 1 : Int).toNat))) rfl encUp_len (by decide)) (by first | omega | (simp; done) | (simp; omega) | (simp at *; omega)) (by omega)).mono ?_)))
            rintro e w ⟨rfl, K⟩
            refine ⟨_, rfl, fun a F => ?_⟩
            have O : Own w0 [] [.row 51 3 (.slice p59 ((0 + ((k + 1 : Int).toNat)) + (N20 - (k : Int).toNat)) k59) ((0 + ((k + 1 : Int).toNat)) + (N20 - (k : Int).toNat)) (((es20.take ((k + 1 : Int).toNat)) ++ (es20.drop ((k : Int).toNat))).flatMap encUp), .row 51 3 (.slice p49 ((0 + ((k : Int).toNat)) + (N20 - (k + 1 : Int).toNat)) k49) ((0 + ((k : Int).toNat)) + (N20 - (k + 1 : Int).toNat)) (((es20.take ((k : Int).toNat)) ++ (es20.drop ((k + 1 : Int).toNat))).flatMap encUp), .row 51 3 (.slice (some ⟨b20, 0, none⟩) N20 C20) N20 (es20.flatMap encUp)] w := O.call0 K
            clear K
            have O : Own w0 [] [.row 51 3 (.slice p59 ((0 + ((k + 1 : Int).toNat)) + (N20 - (k : Int).toNat)) k59) ((0 + ((k + 1 : Int).toNat)) + (N20 - (k : Int).toNat)) (((es20.take ((k + 1 : Int).toNat)) ++ (es20.drop ((k : Int).toNat))).flatMap encUp), .row 51 3 (.slice p49 ((0 + ((k : Int).toNat)) + (N20 - (k + 1 : Int).toNat)) k49) ((0 + ((k : Int).toNat)) + (N20 - (k + 1 : Int).toNat)) (((es20.take ((k : Int).toNat)) ++ (es20.drop ((k + 1 : Int).toNat))).flatMap encUp), .row 51 3 (.slice (some ⟨b20, 0, none⟩) N20 C20) N20 (es20.flatMap encUp)] w := O
            refine sp F (p_move rfl) rfl rfl fun a F => sp F (p_len_l rfl Try.underlying32) rfl rfl fun a F => sp F (p_gtr rfl rfl) rfl rfl fun a F => ?_
            by_cases c64 : 1 < (N20 : Int)
            · have F := F.setB (d := 64) rfl (decide_eq_true c64)
              have c61 : 0 < ((es20.take ((k : Int).toNat)) ++ (es20.drop ((k + 1 : Int).toNat))).length ∧ upsB ((es20.take ((k : Int).toNat)) ++ (es20.drop ((k + 1 : Int).toNat))) = true := by refine ⟨by simp; omega, ?_⟩; rw [show (k + 1).toNat = k.toNat + 1 by omega]; exact upsB_less c29.2 (by omega)
              have F := F.setB (d := 61) rfl (decide_eq_true c61)
              refine sp F (p_beqL rfl rfl Try.underlying4 true (by rfl)) rfl rfl fun a F => sp F (p_move rfl) rfl rfl fun a F => sp F (p_move rfl) rfl rfl fun a F => so F rfl (o_call (vs := #[.slice p59 ((0 + ((k + 1 : Int).toNat)) + (N20 - (k : Int).toNat)) k59]) F Try.en_27 rfl rfl ((iUpdatesValid_ok p59 ((0 + ((k + 1 : Int).toNat)) + (N20 - (k : Int).toNat)) k59 ((es20.take ((k + 1 : Int).toNat)) ++ (es20.drop ((k : Int).toNat))) w (O.arr 0 (es := (es20.take ((k + 1 : Int).toNat)) ++ (es20.drop ((k : Int).toNat))) rfl encUp_len (by decide)) (by first | omega | (simp; done) | (simp; omega) | (simp at *; omega)) (by omega)).mono ?_))
              rintro e w ⟨rfl, K⟩
              refine ⟨_, rfl, fun a F => ?_⟩
              have O : Own w0 [] [.row 51 3 (.slice p59 ((0 + ((k + 1 : Int).toNat)) + (N20 - (k : Int).toNat)) k59) ((0 + ((k + 1 : Int).toNat)) + (N20 - (k : Int).toNat)) (((es20.take ((k + 1 : Int).toNat)) ++ (es20.drop ((k : Int).toNat))).flatMap encUp), .row 51 3 (.slice p49 ((0 + ((k : Int).toNat)) + (N20 - (k + 1 : Int).toNat)) k49) ((0 + ((k : Int).toNat)) + (N20 - (k + 1 : Int).toNat)) (((es20.take ((k : Int).toNat)) ++ (es20.drop ((k + 1 : Int).toNat))).flatMap encUp), .row 51 3 (.slice (some ⟨b20, 0, none⟩) N20 C20) N20 (es20.flatMap encUp)] w := O.call0 K
              clear K
              have c68 : ¬ (0 < ((es20.take ((k + 1 : Int).toNat)) ++ (es20.drop ((k : Int).toNat))).length ∧ upsB ((es20.take ((k + 1 : Int).toNat)) ++ (es20.drop ((k : Int).toNat))) = true) := by intro h; have h2 := h.2; rw [show (k + 1).toNat = k.toNat + 1 by omega, upsB_twice (by omega)] at h2; cases h2
              have F := F.setB (d := 68) rfl (decide_eq_false c68)
              have O : Own w0 [] [.row 51 3 (.slice p59 ((0 + ((k + 1 : Int).toNat)) + (N20 - (k : Int).toNat)) k59) ((0 + ((k + 1 : Int).toNat)) + (N20 - (k : Int).toNat)) (((es20.take ((k + 1 : Int).toNat)) ++ (es20.drop ((k : Int).toNat))).flatMap encUp), .row 51 3 (.slice p49 ((0 + ((k : Int).toNat)) + (N20 - (k + 1 : Int).toNat)) k49) ((0 + ((k : Int).toNat)) + (N20 - (k + 1 : Int).toNat)) (((es20.take ((k : Int).toNat)) ++ (es20.drop ((k + 1 : Int).toNat))).flatMap encUp), .row 51 3 (.slice (some ⟨b20, 0, none⟩) N20 C20) N20 (es20.flatMap encUp)] w := O
              refine sp F (p_not rfl) rfl rfl fun a F => sp F (p_pick (t := true) rfl rfl) rfl rfl fun a F => sp F (p_assign rfl) rfl rfl fun a F => c_nil (hK12 _ _ (?_))
              try clear hK12 K12
              refine wp_ret (ret1 F rfl rfl (?_))
              have O : Own w0 [] [] w := (O.take 0)
              exact ⟨rfl, O⟩
            · have F := F.setB (d := 64) rfl (decide_eq_false c64)
              have c61 : ¬ (0 < ((es20.take ((k : Int).toNat)) ++ (es20.drop ((k + 1 : Int).toNat))).length ∧ upsB ((es20.take ((k : Int).toNat)) ++ (es20.drop ((k + 1 : Int).toNat))) = true) := by intro h; have := h.1; simp at this; omega
              have F := F.setB (d := 61) rfl (decide_eq_false c61)
              refine sp F (p_beqL rfl rfl Try.underlying4 true (by rfl)) rfl rfl fun a F => sp F (p_move rfl) rfl rfl fun a F => sp F (p_move rfl) rfl rfl fun a F => so F rfl (o_call (vs := #[.slice p59 ((0 + ((k + 1 : Int).toNat)) + (N20 - (k : Int).toNat)) k59]) F Try.en_27 rfl rfl ((iUpdatesValid_ok p59 ((0 + ((k + 1 : Int).toNat)) + (N20 - (k : Int).toNat)) k59 ((es20.take ((k + 1 : Int).toNat)) ++ (es20.drop ((k : Int).toNat))) w (O.arr 0 (es := (es20.take ((k + 1 : Int).toNat)) ++ (es20.drop ((k : Int).toNat))) rfl encUp_len (by decide)) (by first | omega | (simp; done) | (simp; omega) | (simp at *; omega)) (by omega)).mono ?_))
              rintro e w ⟨rfl, K⟩
              refine ⟨_, rfl, fun a F => ?_⟩
              have O : Own w0 [] [.row 51 3 (.slice p59 ((0 + ((k + 1 : Int).toNat)) + (N20 - (k : Int).toNat)) k59) ((0 + ((k + 1 : Int).toNat)) + (N20 - (k : Int).toNat)) (((es20.take ((k + 1 : Int).toNat)) ++ (es20.drop ((k : Int).toNat))).flatMap encUp), .row 51 3 (.slice p49 ((0 + ((k : Int).toNat)) + (N20 - (k + 1 : Int).toNat)) k49) ((0 + ((k : Int).toNat)) + (N20 - (k + 1 : Int).toNat)) (((es20.take ((k : Int).toNat)) ++ (es20.drop ((k + 1 : Int).toNat))).flatMap encUp), .row 51 3 (.slice (some ⟨b20, 0, none⟩) N20 C20) N20 (es20.flatMap encUp)] w := O.call0 K
              clear K
              have c68 : ¬ (0 < ((es20.take ((k + 1 : Int).toNat)) ++ (es20.drop ((k : Int).toNat))).length ∧ upsB ((es20.take ((k + 1 : Int).toNat)) ++ (es20.drop ((k : Int).toNat))) = true) := by intro h; have h2 := h.2; rw [show (k + 1).toNat = k.toNat + 1 by omega, upsB_twice (by omega)] at h2; cases h2
              have F := F.setB (d := 68) rfl (decide_eq_false c68)
              have O : Own w0 [] [.row 51 3 (.slice p59 ((0 + ((k + 1 : Int).toNat)) + (N20 - (k : Int).toNat)) k59) ((0 + ((k + 1 : Int).toNat)) + (N20 - (k : Int).toNat)) (((es20.take ((k + 1 : Int).toNat)) ++ (es20.drop ((k : Int).toNat))).flatMap encUp), .row 51 3 (.slice p49 ((0 + ((k : Int).toNat)) + (N20 - (k + 1 : Int).toNat)) k49) ((0 + ((k : Int).toNat)) + (N20 - (k + 1 : Int).toNat)) (((es20.take ((k : Int).toNat)) ++ (es20.drop ((k + 1 : Int).toNat))).flatMap encUp), .row 51 3 (.slice (some ⟨b20, 0, none⟩) N20 C20) N20 (es20.flatMap encUp)] w := O
              refine sp F (p_not rfl) rfl rfl fun a F => sp F (p_pick (t := true) rfl rfl) rfl rfl fun a F => sp F (p_assign rfl) rfl rfl fun a F => c_nil (hK12 _ _ (?_))
              try clear hK12 K12
              refine wp_ret (ret1 F rfl rfl (?_))
              have O : Own w0 [] [] w := (O.take 0)
              exact ⟨rfl, O⟩
          · have O := O.drawn (w.drawn + 1)
            generalize { w with drawn := w.drawn + 1 } = w at O ⊢
            have hS : SC [] w := SC.nil
            refine d_take 1 rfl (by kernel_rfl) F (p_move rfl) rfl rfl hS fun a F => d_take 2 rfl (by kernel_rfl) F (p_move rfl) rfl rfl hS fun a F => d_take 3 rfl (by kernel_rfl) F (p_add rfl rfl (by omega) (by omega)) rfl rfl hS fun a F => d_take 4 rfl (by kernel_rfl) F (p_slto rfl rfl Try.underlying32 Try.sz_51 (by omega) (by omega)) rfl rfl hS fun a F => d_take 6 rfl (by kernel_rfl) F (p_move rfl) rfl rfl hS fun a F => d_take 7 rfl (by kernel_rfl) F (p_move rfl) rfl rfl hS fun a F => ?_
            refine d_two 0 8 (by kernel_rfl) ?_ ?_
            · refine d_op rfl F rfl (o_bslice (cs := []) F O rfl Try.underlying32 Try.sz_51 Try.zero_51 rfl rfl rfl fun b50 w O a F => ?_)
              have O : Own w0 [] [.cells b50 [] 51, .row 51 3 (.slice p49 ((0 + ((k : Int).toNat)) + (N20 - (k + 1 : Int).toNat)) k49) ((0 + ((k : Int).toNat)) + (N20 - (k + 1 : Int).toNat)) (((es20.take ((k : Int).toNat)) ++ (es20.drop ((k + 1 : Int).toNat))).flatMap encUp), .row 51 3 (.slice (some ⟨b20, 0, none⟩) N20 C20) N20 (es20.flatMap encUp)] w := O
              refine ⟨fun _ => SC.nil, ?_⟩
              have hS : SC [] w := SC.nil
              refine d_two 5 8 (by kernel_rfl) ?_ ?_
              · have O := O.asRow 0 (q := 0) (sz := 3) rfl rfl (by unfold maxLen; omega)
                have O : Own w0 [] [.row 51 3 (.slice (some ⟨b50, 0, none⟩) 0 0) 0 ([]), .row 51 3 (.slice p49 ((0 + ((k : Int).toNat)) + (N20 - (k + 1 : Int).toNat)) k49) ((0 + ((k : Int).toNat)) + (N20 - (k + 1 : Int).toNat)) (((es20.take ((k : Int).toNat)) ++ (es20.drop ((k + 1 : Int).toNat))).flatMap encUp), .row 51 3 (.slice (some ⟨b20, 0, none⟩) N20 C20) N20 (es20.flatMap encUp)] w := O
                refine d_op rfl F rfl (o_appendX F O rfl rfl Try.underlying32 Try.elem_51 (by decide) 0 rfl ((O.arr 2 (es := es20) rfl encUp_len (by decide)).take ((k + 1 : Int).toNat)) ⟨_, _, rfl⟩ encUp_len (by first | omega | (simp; omega)) (fun _ => rfl) (by unfold maxLen; omega) (by omega) rfl fun p55 k55 w O a F => ?_)
                have hst : ([]) ++ (es20.take ((k + 1 : Int).toNat)).flatMap encUp = (es20.take ((k + 1 : Int).toNat)).flatMap encUp := by simp
                have O := O.setR 0 rfl (congrArg (Res.row 51 3 (.slice p55 (0 + ((k + 1 : Int).toNat)) k55) (0 + ((k + 1 : Int).toNat))) hst)
                have O : Own w0 [] [.row 51 3 (.slice p55 (0 + ((k + 1 : Int).toNat)) k55) (0 + ((k + 1 : Int).toNat)) ((es20.take ((k + 1 : Int).toNat)).flatMap encUp), .row 51 3 (.slice p49 ((0 + ((k : Int).toNat)) + (N20 - (k + 1 : Int).toNat)) k49) ((0 + ((k : Int).toNat)) + (N20 - (k + 1 : Int).toNat)) (((es20.take ((k : Int).toNat)) ++ (es20.drop ((k + 1 : Int).toNat))).flatMap encUp), .row 51 3 (.slice (some ⟨b20, 0, none⟩) N20 C20) N20 (es20.flatMap encUp)] w := O
                refine ⟨fun _ => SC.nil, ?_⟩
                have hS : SC [] w := SC.nil
                refine d_one 8 (by kernel_rfl) (d_op rfl F rfl (o_slfrom F rfl rfl Try.underlying32 Try.sz_51 (by omega) (by omega) rfl fun o58 ho58 a F => ?_))
                have O : Own w0 [] [.row 51 3 (.slice p55 (0 + ((k + 1 : Int).toNat)) k55) (0 + ((k + 1 : Int).toNat)) ((es20.take ((k + 1 : Int).toNat)).flatMap encUp), .row 51 3 (.slice p49 ((0 + ((k : Int).toNat)) + (N20 - (k + 1 : Int).toNat)) k49) ((0 + ((k : Int).toNat)) + (N20 - (k + 1 : Int).toNat)) (((es20.take ((k : Int).toNat)) ++ (es20.drop ((k + 1 : Int).toNat))).flatMap encUp), .row 51 3 (.slice (some ⟨b20, 0, none⟩) N20 C20) N20 (es20.flatMap encUp)] w := O
                refine ⟨fun _ => SC.nil, ?_⟩
                have hS : SC [] w := SC.nil
                refine d_one 9 (by kernel_rfl) (d_op rfl F rfl (o_appendX F O rfl rfl Try.underlying32 Try.elem_51 (by decide) 0 rfl (O.arrSub 2 rfl encUp_len (by decide) ho58) ⟨_, _, rfl⟩ encUp_len (by first | omega | (simp; omega)) (fun _ => rfl) (by unfold maxLen; omega) (by omega) rfl fun p59 k59 w O a F => ?_))
                have hst : ((es20.take ((k + 1 : Int).toNat)).flatMap encUp) ++ (es20.drop ((k : Int).toNat)).flatMap encUp = ((es20.take ((k + 1 : Int).toNat)) ++ (es20.drop ((k : Int).toNat))).flatMap encUp := by simp
                have O := O.setR 0 rfl (congrArg (Res.row 51 3 (.slice p59 ((0 + ((k + 1 : Int).toNat)) + (N20 - (k : Int).toNat)) k59) ((0 + ((k + 1 : Int).toNat)) + (N20 - (k : Int).toNat))) hst)
                have O : Own w0 [] [.row 51 3 (.slice p59 ((0 + ((k + 1 : Int).toNat)) + (N20 - (k : Int).toNat)) k59) ((0 + ((k + 1 : Int).toNat)) + (N20 - (k : Int).toNat)) (((es20.take ((k + 1 : Int).toNat)) ++ (es20.drop ((k : Int).toNat))).flatMap encUp), .row 51 3 (.slice p49 ((0 + ((k : Int).toNat)) + (N20 - (k + 1 : Int).toNat)) k49) ((0 + ((k : Int).toNat)) + (N20 - (k + 1 : Int).toNat)) (((es20.take ((k : Int).toNat)) ++ (es20.drop ((k + 1 : Int).toNat))).flatMap encUp), .row 51 3 (.slice (some ⟨b20, 0, none⟩) N20 C20) N20 (es20.flatMap encUp)] w := O
                refine ⟨fun _ => SC.nil, ?_⟩
                have hS : SC [] w := SC.nil
                refine d_take 10 rfl (by kernel_rfl) F (p_assign rfl) rfl rfl hS fun a F => d_done (by kernel_rfl) (?_)
                have F : Has 71 [(0, .slice A cn cc), (1, .slice A2 cn2 cc2), (4, .bool false), (18, .bool false), (5, .slice (some ⟨b20, 0, none⟩) N20 C20), (6, .bool true), (7, .bool true), (31, .bool false), (8, .int .i64 (k)), (9, .slice p49 ((0 + ((k : Int).toNat)) + (N20 - (k + 1 : Int).toNat)) k49), (10, .slice p59 ((0 + ((k + 1 : Int).toNat)) + (N20 - (k : Int).toNat)) k59)] a := F.pick ⟨rfl, rfl, rfl, rfl, rfl, rfl, rfl, rfl, rfl, rfl, rfl, trivial⟩
                exact ⟨b50, p55, k55, p59, k59, F, O⟩
              · refine d_op rfl F rfl (o_slfrom F rfl rfl Try.underlying32 Try.sz_51 (by omega) (by omega) rfl fun o58 ho58 a F => ?_)
                have O : Own w0 [] [.cells b50 [] 51, .row 51 3 (.slice p49 ((0 + ((k : Int).toNat)) + (N20 - (k + 1 : Int).toNat)) k49) ((0 + ((k : Int).toNat)) + (N20 - (k + 1 : Int).toNat)) (((es20.take ((k : Int).toNat)) ++ (es20.drop ((k + 1 : Int).toNat))).flatMap encUp), .row 51 3 (.slice (some ⟨b20, 0, none⟩) N20 C20) N20 (es20.flatMap encUp)] w := O
                refine ⟨fun _ => SC.nil, ?_⟩
                have hS : SC [] w := SC.nil
                refine d_one 5 (by kernel_rfl) (?_)
                have O := O.asRow 0 (q := 0) (sz := 3) rfl rfl (by unfold maxLen; omega)
                have O : Own w0 [] [.row 51 3 (.slice (some ⟨b50, 0, none⟩) 0 0) 0 ([]), .row 51 3 (.slice p49 ((0 + ((k : Int).toNat)) + (N20 - (k + 1 : Int).toNat)) k49) ((0 + ((k : Int).toNat)) + (N20 - (k + 1 : Int).toNat)) (((es20.take ((k : Int).toNat)) ++ (es20.drop ((k + 1 : Int).toNat))).flatMap encUp), .row 51 3 (.slice (some ⟨b20, 0, none⟩) N20 C20) N20 (es20.flatMap encUp)] w := O
                refine d_op rfl F rfl (o_appendX F O rfl rfl Try.underlying32 Try.elem_51 (by decide) 0 rfl ((O.arr 2 (es := es20) rfl encUp_len (by decide)).take ((k + 1 : Int).toNat)) ⟨_, _, rfl⟩ encUp_len (by first | omega | (simp; omega)) (fun _ => rfl) (by unfold maxLen; omega) (by omega) rfl fun p55 k55 w O a F => ?_)
                have hst : ([]) ++ (es20.take ((k + 1 : Int).toNat)).flatMap encUp = (es20.take ((k + 1 : Int).toNat)).flatMap encUp := by simp
                have O := O.setR 0 rfl (congrArg (Res.row 51 3 (.slice p55 (0 + ((k + 1 : Int).toNat)) k55) (0 + ((k + 1 : Int).toNat))) hst)
                have O : Own w0 [] [.row 51 3 (.slice p55 (0 + ((k + 1 : Int).toNat)) k55) (0 + ((k + 1 : Int).toNat)) ((es20.take ((k + 1 : Int).toNat)).flatMap encUp), .row 51 3 (.slice p49 ((0 + ((k : Int).toNat)) + (N20 - (k + 1 : Int).toNat)) k49) ((0 + ((k : Int).toNat)) + (N20 - (k + 1 : Int).toNat)) (((es20.take ((k : Int).toNat)) ++ (es20.drop ((k + 1 : Int).toNat))).flatMap encUp), .row 51 3 (.slice (some ⟨b20, 0, none⟩) N20 C20) N20 (es20.flatMap encUp)] w := O
                refine ⟨fun _ => SC.nil, ?_⟩
                have hS : SC [] w := SC.nil
                refine d_one 9 (by kernel_rfl) (d_op rfl F rfl (o_appendX F O rfl rfl Try.underlying32 Try.elem_51 (by decide) 0 rfl (O.arrSub 2 rfl encUp_len (by decide) ho58) ⟨_, _, rfl⟩ encUp_len (by first | omega | (simp; omega)) (fun _ => rfl) (by unfold maxLen; omega) (by omega) rfl fun p59 k59 w O a F => ?_))
                have hst : ((es20.take ((k + 1 : Int).toNat)).flatMap encUp) ++ (es20.drop ((k : Int).toNat)).flatMap encUp = ((es20.take ((k + 1 : Int).toNat)) ++ (es20.drop ((k : Int).toNat))).flatMap encUp := by simp
                have O := O.setR 0 rfl (congrArg (Res.row 51 3 (.slice p59 ((0 + ((k + 1 : Int).toNat)) + (N20 - (k : Int).toNat)) k59) ((0 + ((k + 1 : Int).toNat)) + (N20 - (k : Int).toNat))) hst)
                have O : Own w0 [] [.row 51 3 (.slice p59 ((0 + ((k + 1 : Int).toNat)) + (N20 - (k : Int).toNat)) k59) ((0 + ((k + 1 : Int).toNat)) + (N20 - (k : Int).toNat)) (((es20.take ((k + 1 : Int).toNat)) ++ (es20.drop ((k : Int).toNat))).flatMap encUp), .row 51 3 (.slice p49 ((0 + ((k : Int).toNat)) + (N20 - (k + 1 : Int).toNat)) k49) ((0 + ((k : Int).toNat)) + (N20 - (k + 1 : Int).toNat)) (((es20.take ((k : Int).toNat)) ++ (es20.drop ((k + 1 : Int).toNat))).flatMap encUp), .row 51 3 (.slice (some ⟨b20, 0, none⟩) N20 C20) N20 (es20.flatMap encUp)] w := O
                refine ⟨fun _ => SC.nil, ?_⟩
                have hS : SC [] w := SC.nil
                refine d_take 10 rfl (by kernel_rfl) F (p_assign rfl) rfl rfl hS fun a F => d_done (by kernel_rfl) (?_)
                have F : Has 71 [(0, .slice A cn cc), (1, .slice A2 cn2 cc2), (4, .bool false), (18, .bool false), (5, .slice (some ⟨b20, 0, none⟩) N20 C20), (6, .bool true), (7, .bool true), (31, .bool false), (8, .int .i64 (k)), (9, .slice p49 ((0 + ((k : Int).toNat)) + (N20 - (k + 1 : Int).toNat)) k49), (10, .slice p59 ((0 + ((k + 1 : Int).toNat)) + (N20 - (k : Int).toNat)) k59)] a := F.pick ⟨rfl, rfl, rfl, rfl, rfl, rfl, rfl, rfl, rfl, rfl, rfl, trivial⟩
                exact ⟨b50, p55, k55, p59, k59, F, O⟩
            · refine d_op rfl F rfl (o_slfrom F rfl rfl Try.underlying32 Try.sz_51 (by omega) (by omega) rfl fun o58 ho58 a F => ?_)
              have O : Own w0 [] [.row 51 3 (.slice p49 ((0 + ((k : Int).toNat)) + (N20 - (k + 1 : Int).toNat)) k49) ((0 + ((k : Int).toNat)) + (N20 - (k + 1 : Int).toNat)) (((es20.take ((k : Int).toNat)) ++ (es20.drop ((k + 1 : Int).toNat))).flatMap encUp), .row 51 3 (.slice (some ⟨b20, 0, none⟩) N20 C20) N20 (es20.flatMap encUp)] w := O
              refine ⟨fun _ => SC.nil, ?_⟩
              have hS : SC [] w := SC.nil
              refine d_one 0 (by kernel_rfl) (d_op rfl F rfl (o_bslice (cs := []) F O rfl Try.underlying32 Try.sz_51 Try.zero_51 rfl rfl rfl fun b50 w O a F => ?_))
              have O : Own w0 [] [.cells b50 [] 51, .row 51 3 (.slice p49 ((0 + ((k : Int).toNat)) + (N20 - (k + 1 : Int).toNat)) k49) ((0 + ((k : Int).toNat)) + (N20 - (k + 1 : Int).toNat)) (((es20.take ((k : Int).toNat)) ++ (es20.drop ((k + 1 : Int).toNat))).flatMap encUp), .row 51 3 (.slice (some ⟨b20, 0, none⟩) N20 C20) N20 (es20.flatMap encUp)] w := O
              refine ⟨fun _ => SC.nil, ?_⟩
              have hS : SC [] w := SC.nil
              refine d_one 5 (by kernel_rfl) (?_)
              have O := O.asRow 0 (q := 0) (sz := 3) rfl rfl (by unfold maxLen; omega)
              have O : Own w0 [] [.row 51 3 (.slice (some ⟨b50, 0, none⟩) 0 0) 0 ([]), .row 51 3 (.slice p49 ((0 + ((k : Int).toNat)) + (N20 - (k + 1 : Int).toNat)) k49) ((0 + ((k : Int).toNat)) + (N20 - (k + 1 : Int).toNat)) (((es20.take ((k : Int).toNat)) ++ (es20.drop ((k + 1 : Int).toNat))).flatMap encUp), .row 51 3 (.slice (some ⟨b20, 0, none⟩) N20 C20) N20 (es20.flatMap encUp)] w := O
              refine d_op rfl F rfl (o_appendX F O rfl rfl Try.underlying32 Try.elem_51 (by decide) 0 rfl ((O.arr 2 (es := es20) rfl encUp_len (by decide)).take ((k + 1 : Int).toNat)) ⟨_, _, rfl⟩ encUp_len (by first | omega | (simp; omega)) (fun _ => rfl) (by unfold maxLen; omega) (by omega) rfl fun p55 k55 w O a F => ?_)
              have hst : ([]) ++ (es20.take ((k + 1 : Int).toNat)).flatMap encUp = (es20.take ((k + 1 : Int).toNat)).flatMap encUp := by simp
              have O := O.setR 0 rfl (congrArg (Res.row 51 3 (.slice p55 (0 + ((k + 1 : Int).toNat)) k55) (0 + ((k + 1 : Int).toNat))) hst)
              have O : Own w0 [] [.row 51 3 (.slice p55 (0 + ((k + 1 : Int).toNat)) k55) (0 + ((k + 1 : Int).toNat)) ((es20.take ((k + 1 : Int).toNat)).flatMap encUp), .row 51 3 (.slice p49 ((0 + ((k : Int).toNat)) + (N20 - (k + 1 : Int).toNat)) k49) ((0 + ((k : Int).toNat)) + (N20 - (k + 1 : Int).toNat)) (((es20.take ((k : Int).toNat)) ++ (es20.drop ((k + 1 : Int).toNat))).flatMap encUp), .row 51 3 (.slice (some ⟨b20, 0, none⟩) N20 C20) N20 (es20.flatMap encUp)] w := O
              refine ⟨fun _ => SC.nil, ?_⟩
              have hS : SC [] w := SC.nil
              refine d_one 9 (by kernel_rfl) (d_op rfl F rfl (o_appendX F O rfl rfl Try.underlying32 Try.elem_51 (by decide) 0 rfl (O.arrSub 2 rfl encUp_len (by decide) ho58) ⟨_, _, rfl⟩ encUp_len (by first | omega | (simp; omega)) (fun _ => rfl) (by unfold maxLen; omega) (by omega) rfl fun p59 k59 w O a F => ?_))
              have hst : ((es20.take ((k + 1 : Int).toNat)).flatMap encUp) ++ (es20.drop ((k : Int).toNat)).flatMap encUp = ((es20.take ((k + 1 : Int).toNat)) ++ (es20.drop ((k : Int).toNat))).flatMap encUp := by simp
              have O := O.setR 0 rfl (congrArg (Res.row 51 3 (.slice p59 ((0 + ((k + 1 : Int).toNat)) + (N20 - (k : Int).toNat)) k59) ((0 + ((k + 1 : Int).toNat)) + (N20 - (k : Int).toNat))) hst)
              have O : Own w0 [] [.row 51 3 (.slice p59 ((0 + ((k + 1 : Int).toNat)) + (N20 - (k : Int).toNat)) k59) ((0 + ((k + 1 : Int).toNat)) + (N20 - (k : Int).toNat)) (((es20.take ((k + 1 : Int).toNat)) ++ (es20.drop ((k : Int).toNat))).flatMap encUp), .row 51 3 (.slice p49 ((0 + ((k : Int).toNat)) + (N20 - (k + 1 : Int).toNat)) k49) ((0 + ((k : Int).toNat)) + (N20 - (k + 1 : Int).toNat)) (((es20.take ((k : Int).toNat)) ++ (es20.drop ((k + 1 : Int).toNat))).flatMap encUp), .row 51 3 (.slice (some ⟨b20, 0, none⟩) N20 C20) N20 (es20.flatMap encUp)] w := O
              refine ⟨fun _ => SC.nil, ?_⟩
              have hS : SC [] w := SC.nil
              refine d_take 10 rfl (by kernel_rfl) F (p_assign rfl) rfl rfl hS fun a F => d_done (by kernel_rfl) (?_)
              have F : Has 71 [(0, .slice A cn cc), (1, .slice A2 cn2 cc2), (4, .bool false), (18, .bool false), (5, .slice (some ⟨b20, 0, none⟩) N20 C20), (6, .bool true), (7, .bool true), (31, .bool false), (8, .int .i64 (k)), (9, .slice p49 ((0 + ((k : Int).toNat)) + (N20 - (k + 1 : Int).toNat)) k49), (10, .slice p59 ((0 + ((k + 1 : Int).toNat)) + (N20 - (k : Int).toNat)) k59)] a := F.pick ⟨rfl, rfl, rfl, rfl, rfl, rfl, rfl, rfl, rfl, rfl, rfl, trivial⟩
              exact ⟨b50, p55, k55, p59, k59, F, O⟩
        · have O := O.drawn (w.drawn + 1)
          generalize { w with drawn := w.drawn + 1 } = w at O ⊢
          have hS : SC [] w := SC.nil
          refine d_take 1 rfl (by kernel_rfl) F (p_move rfl) rfl rfl hS fun a F => d_take 2 rfl (by kernel_rfl) F (p_move rfl) rfl rfl hS fun a F => d_take 3 rfl (by kernel_rfl) F (p_slto rfl rfl Try.underlying32 Try.sz_51 (by omega) (by omega)) rfl rfl hS fun a F => d_take 5 rfl (by kernel_rfl) F (p_move rfl) rfl rfl hS fun a F => d_take 6 rfl (by kernel_rfl) F (p_move rfl) rfl rfl hS fun a F => d_take 7 rfl (by kernel_rfl) F (p_add rfl rfl (by omega) (by omega)) rfl rfl hS fun a F => ?_
          refine d_two 0 8 (by kernel_rfl) ?_ ?_
          · refine d_op rfl F rfl (o_bslice (cs := []) F O rfl Try.underlying32 Try.sz_51 Try.zero_51 rfl rfl rfl fun b40 w O a F => ?_)
            have O : Own w0 [] [.cells b40 [] 51, .row 51 3 (.slice (some ⟨b20, 0, none⟩) N20 C20) N20 (es20.flatMap encUp)] w := O
            refine ⟨fun _ => SC.nil, ?_⟩
            have hS : SC [] w := SC.nil
            refine d_two 4 8 (by kernel_rfl) ?_ ?_
            · have O := O.asRow 0 (q := 0) (sz := 3) rfl rfl (by unfold maxLen; omega)
              have O : Own w0 [] [.row 51 3 (.slice (some ⟨b40, 0, none⟩) 0 0) 0 ([]), .row 51 3 (.slice (some ⟨b20, 0, none⟩) N20 C20) N20 (es20.flatMap encUp)] w := O
              refine d_op rfl F rfl (o_appendX F O rfl rfl Try.underlying32 Try.elem_51 (by decide) 0 rfl ((O.arr 1 (es := es20) rfl encUp_len (by decide)).take ((k : Int).toNat)) ⟨_, _, rfl⟩ encUp_len (by first | omega | (simp; omega)) (fun _ => rfl) (by unfold maxLen; omega) (by omega) rfl fun p44 k44 w O a F => ?_)
              have hst : ([]) ++ (es20.take ((k : Int).toNat)).flatMap encUp = (es20.take ((k : Int).toNat)).flatMap encUp := by simp
              have O := O.setR 0 rfl (congrArg (Res.row 51 3 (.slice p44 (0 + ((k : Int).toNat)) k44) (0 + ((k : Int).toNat))) hst)
              have O : Own w0 [] [.row 51 3 (.slice p44 (0 + ((k : Int).toNat)) k44) (0 + ((k : Int).toNat)) ((es20.take ((k : Int).toNat)).flatMap encUp), .row 51 3 (.slice (some ⟨b20, 0, none⟩) N20 C20) N20 (es20.flatMap encUp)] w := O
              refine ⟨fun _ => SC.nil, ?_⟩
              have hS : SC [] w := SC.nil
              refine d_one 8 (by kernel_rfl) (d_op rfl F rfl (o_slfrom F rfl rfl Try.underlying32 Try.sz_51 (by omega) (by omega) rfl fun o48 ho48 a F => ?_))
              have O : Own w0 [] [.row 51 3 (.slice p44 (0 + ((k : Int).toNat)) k44) (0 + ((k : Int).toNat)) ((es20.take ((k : Int).toNat)).flatMap encUp), .row 51 3 (.slice (some ⟨b20, 0, none⟩) N20 C20) N20 (es20.flatMap encUp)] w := O
              refine ⟨fun _ => SC.nil, ?_⟩
              have hS : SC [] w := SC.nil
              refine d_one 9 (by kernel_rfl) (d_op rfl F rfl (o_appendX F O rfl rfl Try.underlying32 Try.elem_51 (by decide) 0 rfl (O.arrSub 1 rfl encUp_len (by decide) ho48) ⟨_, _, rfl⟩ encUp_len (by first | omega | (simp; omega)) (fun _ => rfl) (by unfold maxLen; omega) (by omega) rfl fun p49 k49 w O a F => ?_))
              have hst : ((es20.take ((k : Int).toNat)).flatMap encUp) ++ (es20.drop ((k + 1 : Int).toNat)).flatMap encUp = ((es20.take ((k : Int).toNat)) ++ (es20.drop ((k + 1 : Int).toNat))).flatMap encUp := by simp
              have O := O.setR 0 rfl (congrArg (Res.row 51 3 (.slice p49 ((0 + ((k : Int).toNat)) + (N20 - (k + 1 : Int).toNat)) k49) ((0 + ((k : Int).toNat)) + (N20 - (k + 1 : Int).toNat))) hst)
              have O : Own w0 [] [.row 51 3 (.slice p49 ((0 + ((k : Int).toNat)) + (N20 - (k + 1 : Int).toNat)) k49) ((0 + ((k : Int).toNat)) + (N20 - (k + 1 : Int).toNat)) (((es20.take ((k : Int).toNat)) ++ (es20.drop ((k + 1 : Int).toNat))).flatMap encUp), .row 51 3 (.slice (some ⟨b20, 0, none⟩) N20 C20) N20 (es20.flatMap encUp)] w := O
              refine ⟨fun _ => SC.nil, ?_⟩
              have hS : SC [] w := SC.nil
              refine d_take 10 rfl (by kernel_rfl) F (p_assign rfl) rfl rfl hS fun a F => d_done (by kernel_rfl) (?_)
              have F : Has 71 [(0, .slice A cn cc), (1, .slice A2 cn2 cc2), (4, .bool false), (18, .bool false), (5, .slice (some ⟨b20, 0, none⟩) N20 C20), (6, .bool true), (7, .bool true), (31, .bool false), (8, .int .i64 (k)), (9, .slice p49 ((0 + ((k : Int).toNat)) + (N20 - (k + 1 : Int).toNat)) k49)] a := F.pick ⟨rfl, rfl, rfl, rfl, rfl, rfl, rfl, rfl, rfl, rfl, trivial⟩
              exact ⟨b40, p44, k44, p49, k49, F, O⟩
            · refine d_op rfl F rfl (o_slfrom F rfl rfl Try.underlying32 Try.sz_51 (by omega) (by omega) rfl fun o48 ho48 a F => ?_)
              have O : Own w0 [] [.cells b40 [] 51, .row 51 3 (.slice (some ⟨b20, 0, none⟩) N20 C20) N20 (es20.flatMap encUp)] w := O
              refine ⟨fun _ => SC.nil, ?_⟩
              have hS : SC [] w := SC.nil
              refine d_one 4 (by kernel_rfl) (?_)
              have O := O.asRow 0 (q := 0) (sz := 3) rfl rfl (by unfold maxLen; omega)
              have O : Own w0 [] [.row 51 3 (.slice (some ⟨b40, 0, none⟩) 0 0) 0 ([]), .row 51 3 (.slice (some ⟨b20, 0, none⟩) N20 C20) N20 (es20.flatMap encUp)] w := O
              refine d_op rfl F rfl (o_appendX F O rfl rfl Try.underlying32 Try.elem_51 (by decide) 0 rfl ((O.arr 1 (es := es20) rfl encUp_len (by decide)).take ((k : Int).toNat)) ⟨_, _, rfl⟩ encUp_len (by first | omega | (simp; omega)) (fun _ => rfl) (by unfold maxLen; omega) (by omega) rfl fun p44 k44 w O a F => ?_)
              have hst : ([]) ++ (es20.take ((k : Int).toNat)).flatMap encUp = (es20.take ((k : Int).toNat)).flatMap encUp := by simp
              have O := O.setR 0 rfl (congrArg (Res.row 51 3 (.slice p44 (0 + ((k : Int).toNat)) k44) (0 + ((k : Int).toNat))) hst)
              have O : Own w0 [] [.row 51 3 (.slice p44 (0 + ((k : Int).toNat)) k44) (0 + ((k : Int).toNat)) ((es20.take ((k : Int).toNat)).flatMap encUp), .row 51 3 (.slice (some ⟨b20, 0, none⟩) N20 C20) N20 (es20.flatMap encUp)] w := O
              refine ⟨fun _ => SC.nil, ?_⟩
              have hS : SC [] w := SC.nil
              refine d_one 9 (by kernel_rfl) (d_op rfl F rfl (o_appendX F O rfl rfl Try.underlying32 Try.elem_51 (by decide) 0 rfl (O.arrSub 1 rfl encUp_len (by decide) ho48) ⟨_, _, rfl⟩ encUp_len (by first | omega | (simp; omega)) (fun _ => rfl) (by unfold maxLen; omega) (by omega) rfl fun p49 k49 w O a F => ?_))
              have hst : ((es20.take ((k : Int).toNat)).flatMap encUp) ++ (es20.drop ((k + 1 : Int).toNat)).flatMap encUp = ((es20.take ((k : Int).toNat)) ++ (es20.drop ((k + 1 : Int).toNat))).flatMap encUp := by simp
              have O := O.setR 0 rfl (congrArg (Res.row 51 3 (.slice p49 ((0 + ((k : Int).toNat)) + (N20 - (k + 1 : Int).toNat)) k49) ((0 + ((k : Int).toNat)) + (N20 - (k + 1 : Int).toNat))) hst)
              have O : Own w0 [] [.row 51 3 (.slice p49 ((0 + ((k : Int).toNat)) + (N20 - (k + 1 : Int).toNat)) k49) ((0 + ((k : Int).toNat)) + (N20 - (k + 1 : Int).toNat)) (((es20.take ((k : Int).toNat)) ++ (es20.drop ((k + 1 : Int).toNat))).flatMap encUp), .row 51 3 (.slice (some ⟨b20, 0, none⟩) N20 C20) N20 (es20.flatMap encUp)] w := O
              refine ⟨fun _ => SC.nil, ?_⟩
              have hS : SC [] w := SC.nil
              refine d_take 10 rfl (by kernel_rfl) F (p_assign rfl) rfl rfl hS fun a F => d_done (by kernel_rfl) (?_)
              have F : Has 71 [(0, .slice A cn cc), (1, .slice A2 cn2 cc2), (4, .bool false), (18, .bool false), (5, .slice (some ⟨b20, 0, none⟩) N20 C20), (6, .bool true), (7, .bool true), (31, .bool false), (8, .int .i64 (k)), (9, .slice p49 ((0 + ((k : Int).toNat)) + (N20 - (k + 1 : Int).toNat)) k49)] a := F.pick ⟨rfl, rfl, rfl, rfl, rfl, rfl, rfl, rfl, rfl, rfl, trivial⟩
              exact ⟨b40, p44, k44, p49, k49, F, O⟩
          · refine d_op rfl F rfl (o_slfrom F rfl rfl Try.underlying32 Try.sz_51 (by omega) (by omega) rfl fun o48 ho48 a F => ?_)
            have O : Own w0 [] [.row 51 3 (.slice (some ⟨b20, 0, none⟩) N20 C20) N20 (es20.flatMap encUp)] w := O
            refine ⟨fun _ => SC.nil, ?_⟩
            have hS : SC [] w := SC.nil
            refine d_one 0 (by kernel_rfl) (d_op rfl F rfl (o_bslice (cs := []) F O rfl Try.underlying32 Try.sz_51 Try.zero_51 rfl rfl rfl fun b40 w O a F => ?_))
            have O : Own w0 [] [.cells b40 [] 51, .row 51 3 (.slice (some ⟨b20, 0, none⟩) N20 C20) N20 (es20.flatMap encUp)] w := O
            refine ⟨fun _ => SC.nil, ?_⟩
            have hS : SC [] w := SC.nil
            refine d_one 4 (by kernel_rfl) (?_)
            have O := O.asRow 0 (q := 0) (sz := 3) rfl rfl (by unfold maxLen; omega)
            have O : Own w0 [] [.row 51 3 (.slice (some ⟨b40, 0, none⟩) 0 0) 0 ([]), .row 51 3 (.slice (some ⟨b20, 0, none⟩) N20 C20) N20 (es20.flatMap encUp)] w := O
            refine d_op rfl F rfl (o_appendX F O rfl rfl Try.underlying32 Try.elem_51 (by decide) 0 rfl ((O.arr 1 (es := es20) rfl encUp_len (by decide)).take ((k : Int).toNat)) ⟨_, _, rfl⟩ encUp_len (by first | omega | (simp; omega)) (fun _ => rfl) (by unfold maxLen; omega) (by omega) rfl fun p44 k44 w O a F => ?_)
            have hst : ([]) ++ (es20.take ((k : Int).toNat)).flatMap encUp = (es20.take ((k : Int).toNat)).flatMap encUp := by simp
            have O := O.setR 0 rfl (congrArg (Res.row 51 3 (.slice p44 (0 + ((k : Int).toNat)) k44) (0 + ((k : Int).toNat))) hst)
            have O : Own w0 [] [.row 51 3 (.slice p44 (0 + ((k : Int).toNat)) k44) (0 + ((k : Int).toNat)) ((es20.take ((k : Int).toNat)).flatMap encUp), .row 51 3 (.slice (some ⟨b20, 0, none⟩) N20 C20) N20 (es20.flatMap encUp)] w := O
            refine ⟨fun _ => SC.nil, ?_⟩
            have hS : SC [] w := SC.nil
            refine d_one 9 (by kernel_rfl) (d_op rfl F rfl (o_appendX F O rfl rfl Try.underlying32 Try.elem_51 (by decide) 0 rfl (O.arrSub 1 rfl encUp_len (by decide) ho48) ⟨_, _, rfl⟩ encUp_len (by first | omega | (simp; omega)) (fun _ => rfl) (by unfold maxLen; omega) (by omega) rfl fun p49 k49 w O a F => ?_))
            have hst : ((es20.take ((k : Int).toNat)).flatMap encUp) ++ (es20.drop ((k + 1 : Int).toNat)).flatMap encUp = ((es20.take ((k : Int).toNat)) ++ (es20.drop ((k + 1 : Int).toNat))).flatMap encUp := by simp
            have O := O.setR 0 rfl (congrArg (Res.row 51 3 (.slice p49 ((0 + ((k : Int).toNat)) + (N20 - (k + 1 : Int).toNat)) k49) ((0 + ((k : Int).toNat)) + (N20 - (k + 1 : Int).toNat))) hst)
            have O : Own w0 [] [.row 51 3 (.slice p49 ((0 + ((k : Int).toNat)) + (N20 - (k + 1 : Int).toNat)) k49) ((0 + ((k : Int).toNat)) + (N20 - (k + 1 : Int).toNat)) (((es20.take ((k : Int).toNat)) ++ (es20.drop ((k + 1 : Int).toNat))).flatMap encUp), .row 51 3 (.slice (some ⟨b20, 0, none⟩) N20 C20) N20 (es20.flatMap encUp)] w := O
            refine ⟨fun _ => SC.nil, ?_⟩
            have hS : SC [] w := SC.nil
            refine d_take 10 rfl (by kernel_rfl) F (p_assign rfl) rfl rfl hS fun a F => d_done (by kernel_rfl) (?_)
            have F : Has 71 [(0, .slice A cn cc), (1, .slice A2 cn2 cc2), (4, .bool false), (18, .bool false), (5, .slice (some ⟨b20, 0, none⟩) N20 C20), (6, .bool true), (7, .bool true), (31, .bool false), (8, .int .i64 (k)), (9, .slice p49 ((0 + ((k : Int).toNat)) + (N20 - (k + 1 : Int).toNat)) k49)] a := F.pick ⟨rfl, rfl, rfl, rfl, rfl, rfl, rfl, rfl, rfl, rfl, trivial⟩
            exact ⟨b40, p44, k44, p49, k49, F, O⟩
      · have F := F.setB (d := 22) rfl (decide_eq_false c29)
        have F := F.setB (d := 6) rfl (decide_eq_false c29)
        have F := F.setB (d := 24) rfl (decide_eq_false c29)
        have F := F.setB (d := 7) rfl (decide_eq_false c29)
        have F := F.setB (d := 25) rfl (decide_eq_false c29)
        have F := F.setB (d := 26) rfl (decide_eq_false c29)
        have F := F.setB (d := 29) rfl (decide_eq_false c29)
        refine sp F (p_not rfl) rfl rfl fun a F => sp F (p_pick (t := false) rfl rfl) rfl rfl fun a F => c_nil (hK8 _ _ (?_))
        try clear hK8 K8
        refine c_ift F rfl (c_seq fun K9 hK9 => c_region (sp F (p_move rfl) rfl rfl fun a F => sp F (p_move rfl) rfl rfl fun a F => sp F (p_beqL rfl rfl Try.underlying4 true (by rfl)) rfl rfl fun a F => sp F (p_assign rfl) rfl rfl fun a F => c_nil (hK9 _ _ (?_))))
        try clear hK9 K9
        refine wp_ret (r_then (ret1 F rfl rfl (?_)))
        have O : Own w0 [] [] w := (O.take 0)
        exact ⟨rfl, O⟩

set_option maxRecDepth 100000 in
theorem updatesPart_lifted (os : Os) (started : os.Started) (H : Type) (enc : TypeId × Value → H) :
    ReturnsInHanded {} Try.checked os 9 .any (Rows.fnUpdatesPartSpec.pre6 enc Try.prog Try.f9 Rows.fnUpdatesPartRow.domain false) (Rows.fnUpdatesPartSpec.post enc Try.prog Try.f9 false true false false) := by
  have e0 : Rows.fnUpdatesPartRow.domain = [] := rfl
  rw [e0]
  refine lifted_of (C := Try.checked) Try.facts started (by kernel_rfl) Try.func9 rfl ?_ (tb := 4) (by kernel_rfl) Try.underlying4 (by kernel_rfl)
    (ChangeSpec.witness6 (enc := enc) (C := Try.checked) false ⟨#[], #[.slice none 0 0, .slice none 0 0], []⟩ 8 (by kernel_rfl) (by kernel_rfl) (by kernel_rfl) (by kernel_rfl)) ?_
  · intro ds hds
    match ds, hds with
    | [_, _], _ => rfl
  intro W base args ds p hval0 hA0
  have hval : ∀ (j : Nat) t v, Try.f9.params[j]? = some t → args[j]? = some v → Value.okWide Try.prog W .any base t v := hval0
  have hA : DataW.TrodAll enc Try.prog W 0 (fun _ => true) true Try.f9.params.toList args.toList ds p := hA0
  clear hA0 hval0
  show Calls Try.prog 9 args W _
  rw [Try.params9] at hA hval
  obtain ⟨v0, v1, d0, d1, p0, p1, hargs, rfl, rfl, h0, h1⟩ := trodAll_two hA
  obtain rfl : args = #[v0, v1] := by cases args; simp_all
  obtain ⟨a, n, c, rfl, hC⟩ := open_codeIn (hval 0 26 v0 rfl rfl) h0
  obtain ⟨a2, n2, c2, rfl, hC2⟩ := open_codeIn (hval 1 26 v1 rfl rfl) h1
  exact (updatesPart_ok a n c a2 n2 c2 W hC hC2).mono fun e w' h => ⟨h.1, h.2.below⟩

theorem updatesPart_pkg : ¬ Check.packageOf Try.f9.name = "main" := by
  intro h
  have h2 := congrArg String.toList h
  simp only [Check.packageOf, Try.f9] at h2
  simp at h2

theorem updatesPart_closed : lawFacts Try.prog 9 Try.f9 Rows.fnUpdatesPartSpec Rows.fnUpdatesPartRow = true := by kernel_rfl
theorem updatesPart_facts : joinedFacts Try.pinned.checked.prog 9 Try.f9 Rows.fnUpdatesPartSpec Rows.fnUpdatesPartRow = true := facts_of (P := Try.prog) Try.facts updatesPart_closed

theorem updatesPart_wrap : Func.isWrapper Try.pinned.checked.prog Try.f9 Rows.fnUpdatesPartRow.wrapper Rows.fnUpdatesPartRow.mainSum := by
  have e1 : Rows.fnUpdatesPartRow.wrapper = false := rfl
  have e2 : Rows.fnUpdatesPartRow.mainSum = "" := rfl
  rw [e1, e2]
  exact wrapper_of Try.pinned.checked.prog Try.f9 updatesPart_pkg

/-- The statement. -/
theorem updatesPart_over : Rows.fnUpdatesPartRow.holds Try.pinned (OpenSpec.ofChange Rows.fnUpdatesPartSpec) :=
  OpenClaim.holds_of_wide 9 Try.f9 rfl rfl rfl rfl rfl rfl rfl ⟨rfl, rfl, rfl, rfl, rfl⟩ rfl rfl rfl rfl rfl (by kernel_rfl) Try.func9 updatesPart_facts
    (of_decide_eq_true (by kernel_rfl)) updatesPart_wrap
    (fun os started H enc _ => updatesPart_lifted os started H enc)
theorem updatesPart_holds : Rows.FnUpdatesPartSaid := updatesPart_over
#print axioms updatesPart_holds

end Go.Proofs.Ytilpbddeijolbaa
