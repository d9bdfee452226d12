/- Only the refs of the transaction are freed: the law FnFree returns true. No conditions. -/
import Derived.Test.YtilpbddeijolbaaRefE
import Derived.Test.YtilpbddeijolbaaRefL
import Derived.Test.YtilpbddeijolbaaOpenC
namespace Go.Proofs.Ytilpbddeijolbaa
open Go.ChangeShapes Go.WideShapes Go.ChangeAt Go.RowKit
set_option linter.unusedVariables false
set_option linter.unusedSimpArgs false

set_option maxRecDepth 100000 in
/-- laws.FnFree -/
theorem free_ok (A : Option Addr) (cn : Nat) (cc : Nat) (w0 : World) (hC : CodeIn w0 A cn cc) :
    Calls Try.prog 16 #[.slice A cn cc] w0 fun e w => e = .returned (.bool true) ∧ Own w0 [] [] w := by
  have O := Own.start w0
  have hcc : (cn : Int) ≤ cc := by have := hC.1; omega
  have hcm : (cc : Int) ≤ 9223372036854775807 := by have := hC.2.1; unfold maxLen at this; omega
  refine enterO (n := 109) Try.func16 rfl rfl rfl O fun a w F O => ?_
  refine c_seq fun K1 hK1 => c_region (sp F (p_assign rfl) rfl rfl fun a F => c_nil (hK1 _ _ (?_)))
  try clear hK1 K1
  refine c_seq fun K2 hK2 => c_seq fun K3 hK3 => c_region (sp F (p_move rfl) rfl rfl fun a F => sp F (p_len_l rfl Try.underlying26) rfl rfl fun a F => sp F (p_gtr rfl rfl) rfl rfl fun a F => c_nil (hK3 _ _ (?_)))
  try clear hK3 K3
  by_cases c13 : 1048576 < (cn : Int)
  · have F := F.setB (d := 13) rfl (decide_eq_true c13)
    refine c_ift F rfl (c_seq fun K4 hK4 => c_region (sp F (p_assign rfl) rfl rfl fun a F => c_nil (hK4 _ _ (?_))))
    try clear hK4 K4
    refine wp_ret (r_then (ret1 F rfl rfl (?_)))
    exact ⟨rfl, O⟩
  · have F := F.setB (d := 13) rfl (decide_eq_false c13)
    refine c_iff F rfl (wp_skip (hK2 _ _ (?_)))
    try clear hK2 K2
    refine c_seq fun K4 hK4 => c_region (sp F (p_move rfl) rfl rfl fun a F => so F rfl (o_call (vs := #[.slice A cn cc]) F Try.en_49 rfl rfl ((dLocksFree_ok A cn cc w (hC.keep O)).mono ?_)))
    rintro e w ⟨b16, N16, C16, es16, t16, rfl, h16a, h16b, h16c, h16d, K⟩
    refine ⟨_, rfl, fun a F => ?_⟩
    have O : Own w0 [] [.row 3 1 (.slice (some ⟨b16, 0, none⟩) N16 C16) N16 (es16.flatMap encInt)] w := O.call0 K
    clear K
    have O : Own w0 [] [.row 3 1 (.slice (some ⟨b16, 0, none⟩) N16 C16) N16 (es16.flatMap encInt)] w := O
    refine sp F (p_move rfl) rfl rfl fun a F => sp F (p_extract rfl rfl) rfl rfl fun a F => sp F (p_extract rfl rfl) rfl rfl fun a F => sp F (p_assign rfl) rfl rfl fun a F => sp F (p_assign rfl) rfl rfl fun a F => c_nil (hK4 _ _ (?_))
    try clear hK4 K4
    refine c_seq fun K5 hK5 => c_region (sp F (p_move rfl) rfl rfl fun a F => sp F (p_move rfl) rfl rfl fun a F => so F rfl (o_call (vs := #[.slice (some ⟨b16, 0, none⟩) N16 C16, .int .i64 (t16)]) F Try.en_38 rfl rfl ((iLocksFree_ok (some ⟨b16, 0, none⟩) N16 C16 es16 t16 w (O.arr 0 (es := es16) rfl encInt_len (by decide)) (by first | omega | (simp; done) | (simp; omega) | (simp at *; omega)) (by omega)).mono ?_)))
    rintro e w ⟨P22, N22, C22, rfl, h22a, h22b, K⟩
    refine ⟨_, rfl, fun a F => ?_⟩
    have O : Own w0 [] [.row 3 1 (.slice P22 N22 C22) N22 ((LF es16 t16).flatMap encInt), .row 3 1 (.slice (some ⟨b16, 0, none⟩) N16 C16) N16 (es16.flatMap encInt)] w := O.call0 K
    clear K
    have O : Own w0 [] [.row 3 1 (.slice P22 N22 C22) N22 ((LF es16 t16).flatMap encInt), .row 3 1 (.slice (some ⟨b16, 0, none⟩) N16 C16) N16 (es16.flatMap encInt)] w := O
    refine sp F (p_move rfl) rfl rfl fun a F => sp F (p_extract rfl rfl) rfl rfl fun a F => sp F (p_extract rfl rfl) rfl rfl fun a F => sp F (p_assign rfl) rfl rfl fun a F => sp F (p_assign rfl) rfl rfl fun a F => c_nil (hK5 _ _ (?_))
    try clear hK5 K5
    refine c_seq fun K6 hK6 => c_region (sp F (p_move rfl) rfl rfl fun a F => sp F (p_move rfl) rfl rfl fun a F => so F rfl (o_call (vs := #[.slice (some ⟨b16, 0, none⟩) N16 C16, .int .i64 (t16)]) F Try.en_45 rfl rfl ((sLocksFree_ok (some ⟨b16, 0, none⟩) N16 C16 es16 t16 w (O.arr 1 (es := es16) rfl encInt_len (by decide)) (by first | omega | (simp; done) | (simp; omega) | (simp at *; omega)) (by omega)).mono ?_)))
    rintro e w ⟨P28, N28, C28, rfl, h28a, h28b, K⟩
    refine ⟨_, rfl, fun a F => ?_⟩
    have O : Own w0 [] [.row 3 1 (.slice P28 N28 C28) N28 ((LF es16 t16).flatMap encInt), .row 3 1 (.slice P22 N22 C22) N22 ((LF es16 t16).flatMap encInt), .row 3 1 (.slice (some ⟨b16, 0, none⟩) N16 C16) N16 (es16.flatMap encInt)] w := O.call0 K
    clear K
    have O : Own w0 [] [.row 3 1 (.slice P28 N28 C28) N28 ((LF es16 t16).flatMap encInt), .row 3 1 (.slice P22 N22 C22) N22 ((LF es16 t16).flatMap encInt), .row 3 1 (.slice (some ⟨b16, 0, none⟩) N16 C16) N16 (es16.flatMap encInt)] w := O
    refine sp F (p_move rfl) rfl rfl fun a F => sp F (p_extract rfl rfl) rfl rfl fun a F => sp F (p_extract rfl rfl) rfl rfl fun a F => sp F (p_assign rfl) rfl rfl fun a F => sp F (p_assign rfl) rfl rfl fun a F => c_nil (hK6 _ _ (?_))
    try clear hK6 K6
    refine c_seq fun K7 hK7 => c_seq fun K8 hK8 => c_region (sp F (p_move rfl) rfl rfl fun a F => sp F (p_move rfl) rfl rfl fun a F => sp F (p_bneL rfl rfl Try.underlying4 false (by simp)) rfl rfl fun a F => sp F (p_move rfl) rfl rfl fun a F => sp F (p_move rfl) rfl rfl fun a F => sp F (p_move rfl) rfl rfl fun a F => so F rfl (o_call (vs := #[.slice P22 N22 C22, .slice P28 N28 C28]) F Try.en_39 rfl rfl ((sameInts_ok P22 N22 C22 (LF es16 t16) P28 N28 C28 (LF es16 t16) w (O.arr 1 (es := LF es16 t16) rfl encInt_len (by decide)) (by first | omega | (simp; done) | (simp; omega) | (simp at *; omega)) (by omega) (O.arr 0 (es := LF es16 t16) rfl encInt_len (by decide)) (by first | omega | (simp; done) | (simp; omega) | (simp at *; omega)) (by omega)).mono ?_)))
    rintro e w ⟨rfl, K⟩
    refine ⟨_, rfl, fun a F => ?_⟩
    have O : Own w0 [] [.row 3 1 (.slice P28 N28 C28) N28 ((LF es16 t16).flatMap encInt), .row 3 1 (.slice P22 N22 C22) N22 ((LF es16 t16).flatMap encInt), .row 3 1 (.slice (some ⟨b16, 0, none⟩) N16 C16) N16 (es16.flatMap encInt)] w := O.call0 K
    clear K
    have c37 : (LF es16 t16) = (LF es16 t16) := by rfl
    have F := F.setB (d := 37) rfl (decide_eq_true c37)
    have O : Own w0 [] [.row 3 1 (.slice P28 N28 C28) N28 ((LF es16 t16).flatMap encInt), .row 3 1 (.slice P22 N22 C22) N22 ((LF es16 t16).flatMap encInt), .row 3 1 (.slice (some ⟨b16, 0, none⟩) N16 C16) N16 (es16.flatMap encInt)] w := O
    refine sp F (p_not rfl) rfl rfl fun a F => sp F (p_pick (t := false) rfl rfl) rfl rfl fun a F => sp F (p_move rfl) rfl rfl fun a F => sp F (p_move rfl) rfl rfl fun a F => so F rfl (o_call (vs := #[.slice (some ⟨b16, 0, none⟩) N16 C16]) F Try.en_17 rfl rfl ((sLocksValid_ok (some ⟨b16, 0, none⟩) N16 C16 es16 w (O.arr 2 (es := es16) rfl encInt_len (by decide)) (by first | omega | (simp; done) | (simp; omega) | (simp at *; omega)) (by omega)).mono ?_))
    rintro e w ⟨rfl, K⟩
    refine ⟨_, rfl, fun a F => ?_⟩
    have O : Own w0 [] [.row 3 1 (.slice P28 N28 C28) N28 ((LF es16 t16).flatMap encInt), .row 3 1 (.slice P22 N22 C22) N22 ((LF es16 t16).flatMap encInt), .row 3 1 (.slice (some ⟨b16, 0, none⟩) N16 C16) N16 (es16.flatMap encInt)] w := O.call0 K
    clear K
    have O : Own w0 [] [.row 3 1 (.slice P28 N28 C28) N28 ((LF es16 t16).flatMap encInt), .row 3 1 (.slice P22 N22 C22) N22 ((LF es16 t16).flatMap encInt), .row 3 1 (.slice (some ⟨b16, 0, none⟩) N16 C16) N16 (es16.flatMap encInt)] w := O
    by_cases c42 : es16.length = 4 ∧ okIn (-1) (11) es16 = true
    · have F := F.setB (d := 42) rfl (decide_eq_true c42)
      refine sp F (p_not rfl) rfl rfl fun a F => sp F (p_pick (t := false) rfl rfl) rfl rfl fun a F => sp F (p_move rfl) rfl rfl fun a F => sp F (p_move rfl) rfl rfl fun a F => sp F (p_lss rfl rfl) rfl rfl fun a F => sp F (p_pick (t := false) rfl rfl) rfl rfl fun a F => sp F (p_move rfl) rfl rfl fun a F => ?_
      by_cases c49 : t16 < 0
      · have F := F.setB (d := 47) rfl (decide_eq_true c49)
        have F := F.setB (d := 48) rfl (decide_eq_true c49)
        have F := F.setB (d := 49) rfl (decide_eq_true c49)
        refine ss F rfl rfl fun a F => ss F rfl rfl fun a F => sp F (p_pick (t := true) rfl rfl) rfl rfl fun a F => c_nil (hK8 _ _ (?_))
        try clear hK8 K8
        refine c_ift F rfl (c_seq fun K9 hK9 => c_region (sp F (p_move rfl) rfl rfl fun a F => sp F (p_move rfl) rfl rfl fun a F => sp F (p_beqL rfl rfl Try.underlying4 true (by simp)) rfl rfl fun a F => sp F (p_move rfl) rfl rfl fun a F => sp F (p_move rfl) rfl rfl fun a F => sp F (p_move rfl) rfl rfl fun a F => so F rfl (o_call (vs := #[.slice P22 N22 C22, .slice P28 N28 C28]) F Try.en_39 rfl rfl ((sameInts_ok P22 N22 C22 (LF es16 t16) P28 N28 C28 (LF es16 t16) w (O.arr 1 (es := LF es16 t16) rfl encInt_len (by decide)) (by first | omega | (simp; done) | (simp; omega) | (simp at *; omega)) (by omega) (O.arr 0 (es := LF es16 t16) rfl encInt_len (by decide)) (by first | omega | (simp; done) | (simp; omega) | (simp at *; omega)) (by omega)).mono ?_))))
        rintro e w ⟨rfl, K⟩
        refine ⟨_, rfl, fun a F => ?_⟩
        have O : Own w0 [] [.row 3 1 (.slice P28 N28 C28) N28 ((LF es16 t16).flatMap encInt), .row 3 1 (.slice P22 N22 C22) N22 ((LF es16 t16).flatMap encInt), .row 3 1 (.slice (some ⟨b16, 0, none⟩) N16 C16) N16 (es16.flatMap encInt)] w := O.call0 K
        clear K
        have F := F.setB (d := 59) rfl (decide_eq_true c37)
        have O : Own w0 [] [.row 3 1 (.slice P28 N28 C28) N28 ((LF es16 t16).flatMap encInt), .row 3 1 (.slice P22 N22 C22) N22 ((LF es16 t16).flatMap encInt), .row 3 1 (.slice (some ⟨b16, 0, none⟩) N16 C16) N16 (es16.flatMap encInt)] w := O
        refine sp F (p_pick (t := true) rfl rfl) rfl rfl fun a F => sp F (p_assign rfl) rfl rfl fun a F => c_nil (hK9 _ _ (?_))
        try clear hK9 K9
        refine wp_ret (r_then (ret1 F rfl rfl (?_)))
        have O : Own w0 [] [] w := (O.take 0)
        exact ⟨rfl, O⟩
      · have F := F.setB (d := 47) rfl (decide_eq_false c49)
        have F := F.setB (d := 48) rfl (decide_eq_false c49)
        have F := F.setB (d := 49) rfl (decide_eq_false c49)
        refine sp F (p_move rfl) rfl rfl fun a F => sp F (p_geq rfl rfl) rfl rfl fun a F => sp F (p_pick (t := false) rfl rfl) rfl rfl fun a F => c_nil (hK8 _ _ (?_))
        try clear hK8 K8
        by_cases c52 : 12 ≤ t16
        · have F := F.setB (d := 51) rfl (decide_eq_true c52)
          have F := F.setB (d := 52) rfl (decide_eq_true c52)
          refine c_ift F rfl (c_seq fun K9 hK9 => c_region (sp F (p_move rfl) rfl rfl fun a F => sp F (p_move rfl) rfl rfl fun a F => sp F (p_beqL rfl rfl Try.underlying4 true (by simp)) rfl rfl fun a F => sp F (p_move rfl) rfl rfl fun a F => sp F (p_move rfl) rfl rfl fun a F => sp F (p_move rfl) rfl rfl fun a F => so F rfl (o_call (vs := #[.slice P22 N22 C22, .slice P28 N28 C28]) F Try.en_39 rfl rfl ((sameInts_ok P22 N22 C22 (LF es16 t16) P28 N28 C28 (LF es16 t16) w (O.arr 1 (es := LF es16 t16) rfl encInt_len (by decide)) (by first | omega | (simp; done) | (simp; omega) | (simp at *; omega)) (by omega) (O.arr 0 (es := LF es16 t16) rfl encInt_len (by decide)) (by first | omega | (simp; done) | (simp; omega) | (simp at *; omega)) (by omega)).mono ?_))))
          rintro e w ⟨rfl, K⟩
          refine ⟨_, rfl, fun a F => ?_⟩
          have O : Own w0 [] [.row 3 1 (.slice P28 N28 C28) N28 ((LF es16 t16).flatMap encInt), .row 3 1 (.slice P22 N22 C22) N22 ((LF es16 t16).flatMap encInt), .row 3 1 (.slice (some ⟨b16, 0, none⟩) N16 C16) N16 (es16.flatMap encInt)] w := O.call0 K
          clear K
          have F := F.setB (d := 59) rfl (decide_eq_true c37)
          have O : Own w0 [] [.row 3 1 (.slice P28 N28 C28) N28 ((LF es16 t16).flatMap encInt), .row 3 1 (.slice P22 N22 C22) N22 ((LF es16 t16).flatMap encInt), .row 3 1 (.slice (some ⟨b16, 0, none⟩) N16 C16) N16 (es16.flatMap encInt)] w := O
          refine sp F (p_pick (t := true) rfl rfl) rfl rfl fun a F => sp F (p_assign rfl) rfl rfl fun a F => c_nil (hK9 _ _ (?_))
          try clear hK9 K9
          refine wp_ret (r_then (ret1 F rfl rfl (?_)))
          have O : Own w0 [] [] w := (O.take 0)
          exact ⟨rfl, O⟩
        · have F := F.setB (d := 51) rfl (decide_eq_false c52)
          have F := F.setB (d := 52) rfl (decide_eq_false c52)
          refine c_iff F rfl (wp_skip (hK7 _ _ (?_)))
          try clear hK7 K7
          refine c_seq fun K9 hK9 => c_region (sp F (p_move rfl) rfl rfl fun a F => sp F (p_move rfl) rfl rfl fun a F => so F rfl (o_call (vs := #[.slice (some ⟨b16, 0, none⟩) N16 C16, .int .i64 (t16)]) F Try.en_30 rfl rfl ((iLocksOf_ok (some ⟨b16, 0, none⟩) N16 C16 es16 t16 w (O.arr 2 (es := es16) rfl encInt_len (by decide)) (by first | omega | (simp; done) | (simp; omega) | (simp at *; omega)) (by omega)).mono ?_)))
          rintro e w ⟨P63, N63, C63, rfl, h63a, h63b, K⟩
          refine ⟨_, rfl, fun a F => ?_⟩
          have O : Own w0 [] [.row 3 1 (.slice P63 N63 C63) N63 ((LO es16 t16).flatMap encInt), .row 3 1 (.slice P28 N28 C28) N28 ((LF es16 t16).flatMap encInt), .row 3 1 (.slice P22 N22 C22) N22 ((LF es16 t16).flatMap encInt), .row 3 1 (.slice (some ⟨b16, 0, none⟩) N16 C16) N16 (es16.flatMap encInt)] w := O.call0 K
          clear K
          have O : Own w0 [] [.row 3 1 (.slice P63 N63 C63) N63 ((LO es16 t16).flatMap encInt), .row 3 1 (.slice P28 N28 C28) N28 ((LF es16 t16).flatMap encInt), .row 3 1 (.slice P22 N22 C22) N22 ((LF es16 t16).flatMap encInt), .row 3 1 (.slice (some ⟨b16, 0, none⟩) N16 C16) N16 (es16.flatMap encInt)] w := O
          refine sp F (p_assign rfl) rfl rfl fun a F => c_nil (hK9 _ _ (?_))
          try clear hK9 K9
          refine c_seq fun K10 hK10 => c_seq fun K11 hK11 => ?_
          have hV : LVal es16 t16 := ⟨c42, by omega⟩
          have hN : (N22 : Int) = N16 := by rw [h22a, LF_ok hV, freeL_len]; omega
          refine c_region (sp F (p_assign rfl) rfl rfl fun a F => c_nil (hK11 _ _ (?_)))
          try clear hK11 K11
          refine wp_block (?_)
          refine c_loop (fun mm a w => ∃ (r : Int), mm = ((N16 : Int) - r).toNat ∧ Has 109 [(0, .slice A cn cc), (13, .bool false), (3, .slice (some ⟨b16, 0, none⟩) N16 C16), (4, .int .i64 (t16)), (5, .slice P22 N22 C22), (6, .bool (decide (((es16.length = 4 ∧ okIn (-1) (11) es16 = true) ∧ (0 ≤ t16 ∧ t16 ≤ 11)) ∧ hasI t16 es16 = true))), (7, .slice P28 N28 C28), (8, .bool (decide (((es16.length = 4 ∧ okIn (-1) (11) es16 = true) ∧ (0 ≤ t16 ∧ t16 ≤ 11)) ∧ hasI t16 es16 = true))), (52, .bool false), (9, .slice P63 N63 C63), (10, .int .i64 (r))] a ∧ Own w0 [] [.row 3 1 (.slice P63 N63 C63) N63 ((LO es16 t16).flatMap encInt), .row 3 1 (.slice P28 N28 C28) N28 ((LF es16 t16).flatMap encInt), .row 3 1 (.slice P22 N22 C22) N22 ((LF es16 t16).flatMap encInt), .row 3 1 (.slice (some ⟨b16, 0, none⟩) N16 C16) N16 (es16.flatMap encInt)] w ∧ (0 ≤ r) ∧ (r ≤ N16)) ?_ ?_
          · have F : Has 109 [(0, .slice A cn cc), (13, .bool false), (3, .slice (some ⟨b16, 0, none⟩) N16 C16), (4, .int .i64 (t16)), (5, .slice P22 N22 C22), (6, .bool (decide (((es16.length = 4 ∧ okIn (-1) (11) es16 = true) ∧ (0 ≤ t16 ∧ t16 ≤ 11)) ∧ hasI t16 es16 = true))), (7, .slice P28 N28 C28), (8, .bool (decide (((es16.length = 4 ∧ okIn (-1) (11) es16 = true) ∧ (0 ≤ t16 ∧ t16 ≤ 11)) ∧ hasI t16 es16 = true))), (52, .bool false), (9, .slice P63 N63 C63), (10, .int .i64 (0))] a := F.pick ⟨rfl, rfl, rfl, rfl, rfl, rfl, rfl, rfl, rfl, rfl, rfl, trivial⟩
            exact ⟨((N16 : Int) - 0).toNat, 0, rfl, F, O, by first | assumption | omega, by first | assumption | omega⟩
          · rintro mm a w ⟨r, rfl, F, O, hi0a, hi0b⟩
            refine c_seq fun K12 hK12 => c_seq fun K13 hK13 => c_region (sp F (p_move rfl) rfl rfl fun a F => sp F (p_move rfl) rfl rfl fun a F => sp F (p_len_l rfl Try.underlying22) rfl rfl fun a F => sp F (p_lss rfl rfl) rfl rfl fun a F => c_nil (hK13 _ _ (?_)))
            try clear hK13 K13
            by_cases c67 : r < (N16 : Int)
            · have F := F.setB (d := 67) rfl (decide_eq_true c67)
              refine c_ift F rfl (wp_skip (hK12 _ _ (?_)))
              try clear hK12 K12
              refine c_seq fun K14 hK14 => wp_block (c_seq fun K15 hK15 => ?_)
              by_cases cc1 : hasI r (LO es16 t16) = true
              · obtain ⟨b76, hp76⟩ := O.rowSome 2 rfl (by omega)
                rw [hp76] at O
                try rw [hp76] at F
                obtain ⟨e76, he76⟩ := get_some (l := LF es16 t16) (i := r) (by omega) (by first | omega | (simp; omega))
                refine c_draw Try.mixed (SC [(b76, 0 + (r : Int).toNat * 1, .int .i64 (e76))]) [] _ (fun a w h => h) ?_
                have O := O.drawn (w.drawn + 1)
                generalize { w with drawn := w.drawn + 1 } = w at O ⊢
                have hS : SC [(b76, 0 + (r : Int).toNat * 1, .int .i64 (e76))] w := (SC.cons ((O.loadRow 2 rfl (flat_get0 encInt_len he76 rfl))) SC.nil)
                refine d_take 0 rfl (by kernel_rfl) F (p_move rfl) rfl rfl hS fun a F => d_take 1 rfl (by kernel_rfl) F (p_move rfl) rfl rfl hS fun a F => d_one 2 (by kernel_rfl) (d_op rfl F rfl (o_call (vs := #[.slice P63 N63 C63, .int .i64 (r)]) F Try.en_34 rfl rfl ((hasInt_ok P63 N63 C63 (LO es16 t16) r w (O.arr 0 (es := LO es16 t16) rfl encInt_len (by decide)) (by first | omega | (simp; done) | (simp; omega) | (simp at *; omega)) (by omega)).mono ?_)))
                rintro e w ⟨rfl, K⟩
                refine ⟨_, rfl, fun a F => ?_⟩
                have O : Own w0 [] [.row 3 1 (.slice P63 N63 C63) N63 ((LO es16 t16).flatMap encInt), .row 3 1 (.slice P28 N28 C28) N28 ((LF es16 t16).flatMap encInt), .row 3 1 (.slice (some ⟨b76, 0, none⟩) N22 C22) N22 ((LF es16 t16).flatMap encInt), .row 3 1 (.slice (some ⟨b16, 0, none⟩) N16 C16) N16 (es16.flatMap encInt)] w := O.call0 K
                clear K
                have F := F.setB (d := 72) rfl (decide_eq_true cc1)
                have O : Own w0 [] [.row 3 1 (.slice P63 N63 C63) N63 ((LO es16 t16).flatMap encInt), .row 3 1 (.slice P28 N28 C28) N28 ((LF es16 t16).flatMap encInt), .row 3 1 (.slice (some ⟨b76, 0, none⟩) N22 C22) N22 ((LF es16 t16).flatMap encInt), .row 3 1 (.slice (some ⟨b16, 0, none⟩) N16 C16) N16 (es16.flatMap encInt)] w := O
                refine ⟨fun _ => (SC.cons ((O.loadRow 2 rfl (flat_get0 encInt_len he76 rfl))) SC.nil), ?_⟩
                have hS : SC [(b76, 0 + (r : Int).toNat * 1, .int .i64 (e76))] w := (SC.cons ((O.loadRow 2 rfl (flat_get0 encInt_len he76 rfl))) SC.nil)
                refine d_take 3 rfl (by kernel_rfl) F (p_move rfl) rfl rfl hS fun a F => d_take 4 rfl (by kernel_rfl) F (p_move rfl) rfl rfl hS fun a F => d_take 5 rfl (by kernel_rfl) F (p_move rfl) rfl rfl hS fun a F => d_take 6 rfl (by kernel_rfl) F (p_iaddr rfl rfl Try.underlying22 Try.sz_3 (by omega) (by omega)) rfl rfl hS fun a F => d_take 7 rfl (by kernel_rfl) F (p_load rfl Try.agg_3 (fun _ h => (SC.get h 0 rfl))) rfl rfl hS fun a F => d_take 8 rfl (by kernel_rfl) F (p_neq rfl rfl) rfl rfl hS fun a F => ?_
                have c78 : e76 = (-1) := by obtain ⟨x0, hx0⟩ := get_some (l := es16) (i := r) (by omega) (by omega); have h5 := (LO_has' hV hi0a hx0).1 cc1; have h6 := LF_get hV hx0; rw [he76] at h6; injection h6 with h6; rw [h6, if_pos h5]
                have F := F.setB (d := 78) rfl (decide_eq_false (fun h => h c78))
                refine d_take 9 rfl (by kernel_rfl) F (p_pick (t := true) rfl rfl) rfl rfl hS fun a F => d_take 10 rfl (by kernel_rfl) F (p_move rfl) rfl rfl hS fun a F => d_take 11 rfl (by kernel_rfl) F (p_move rfl) rfl rfl hS fun a F => d_take 12 rfl (by kernel_rfl) F (p_move rfl) rfl rfl hS fun a F => d_one 13 (by kernel_rfl) (d_op rfl F rfl (o_call (vs := #[.slice P63 N63 C63, .int .i64 (r)]) F Try.en_34 rfl rfl ((hasInt_ok P63 N63 C63 (LO es16 t16) r w (O.arr 0 (es := LO es16 t16) rfl encInt_len (by decide)) (by first | omega | (simp; done) | (simp; omega) | (simp at *; omega)) (by omega)).mono ?_)))
                rintro e w ⟨rfl, K⟩
                refine ⟨_, rfl, fun a F => ?_⟩
                have O : Own w0 [] [.row 3 1 (.slice P63 N63 C63) N63 ((LO es16 t16).flatMap encInt), .row 3 1 (.slice P28 N28 C28) N28 ((LF es16 t16).flatMap encInt), .row 3 1 (.slice (some ⟨b76, 0, none⟩) N22 C22) N22 ((LF es16 t16).flatMap encInt), .row 3 1 (.slice (some ⟨b16, 0, none⟩) N16 C16) N16 (es16.flatMap encInt)] w := O.call0 K
                clear K
                have F := F.setB (d := 83) rfl (decide_eq_true cc1)
                have O : Own w0 [] [.row 3 1 (.slice P63 N63 C63) N63 ((LO es16 t16).flatMap encInt), .row 3 1 (.slice P28 N28 C28) N28 ((LF es16 t16).flatMap encInt), .row 3 1 (.slice (some ⟨b76, 0, none⟩) N22 C22) N22 ((LF es16 t16).flatMap encInt), .row 3 1 (.slice (some ⟨b16, 0, none⟩) N16 C16) N16 (es16.flatMap encInt)] w := O
                refine ⟨fun _ => (SC.cons ((O.loadRow 2 rfl (flat_get0 encInt_len he76 rfl))) SC.nil), ?_⟩
                have hS : SC [(b76, 0 + (r : Int).toNat * 1, .int .i64 (e76))] w := (SC.cons ((O.loadRow 2 rfl (flat_get0 encInt_len he76 rfl))) SC.nil)
                refine d_take 14 rfl (by kernel_rfl) F (p_not rfl) rfl rfl hS fun a F => d_take 15 rfl (by kernel_rfl) F (p_move rfl) rfl rfl hS fun a F => d_skip 16 rfl (by kernel_rfl) F rfl rfl hS fun a F => d_skip 17 rfl (by kernel_rfl) F rfl rfl hS fun a F => d_skip 18 rfl (by kernel_rfl) F rfl rfl hS fun a F => d_skip 19 rfl (by kernel_rfl) F rfl rfl hS fun a F => d_skip 20 rfl (by kernel_rfl) F rfl rfl hS fun a F => d_skip 21 rfl (by kernel_rfl) F rfl rfl hS fun a F => d_skip 22 rfl (by kernel_rfl) F rfl rfl hS fun a F => d_skip 23 rfl (by kernel_rfl) F rfl rfl hS fun a F => d_skip 24 rfl (by kernel_rfl) F rfl rfl hS fun a F => d_take 25 rfl (by kernel_rfl) F (p_pick (t := false) rfl rfl) rfl rfl hS fun a F => d_take 26 rfl (by kernel_rfl) F (p_pick (t := false) rfl rfl) rfl rfl hS fun a F => ?_
                refine d_done (by kernel_rfl) (hK15 _ _ (?_))
                try clear hK15 K15
                refine c_iff F rfl (wp_skip (hK14 _ _ (?_)))
                try clear hK14 K14
                refine c_region (sp F (p_move rfl) rfl rfl fun a F => sp F (p_add rfl rfl (by omega) (by omega)) rfl rfl fun a F => sp F (p_assign rfl) rfl rfl fun a F => c_nil (?_))
                try rw [← hp76] at F
                try rw [← hp76] at O
                have F : Has 109 [(0, .slice A cn cc), (13, .bool false), (3, .slice (some ⟨b16, 0, none⟩) N16 C16), (4, .int .i64 (t16)), (5, .slice P22 N22 C22), (6, .bool (decide (((es16.length = 4 ∧ okIn (-1) (11) es16 = true) ∧ (0 ≤ t16 ∧ t16 ≤ 11)) ∧ hasI t16 es16 = true))), (7, .slice P28 N28 C28), (8, .bool (decide (((es16.length = 4 ∧ okIn (-1) (11) es16 = true) ∧ (0 ≤ t16 ∧ t16 ≤ 11)) ∧ hasI t16 es16 = true))), (52, .bool false), (9, .slice P63 N63 C63), (10, .int .i64 (r + 1))] a := F.pick ⟨rfl, rfl, rfl, rfl, rfl, rfl, rfl, rfl, rfl, rfl, rfl, trivial⟩
                exact ⟨((N16 : Int) - (r + 1)).toNat, by omega, (r + 1), rfl, F, O, by first | assumption | omega, by first | assumption | omega⟩
              · obtain ⟨b88, hp88⟩ := O.rowSome 2 rfl (by omega)
                rw [hp88] at O
                try rw [hp88] at F
                obtain ⟨e88, he88⟩ := get_some (l := LF es16 t16) (i := r) (by omega) (by first | omega | (simp; omega))
                obtain ⟨e92, he92⟩ := get_some (l := es16) (i := r) (by omega) (by first | omega | (simp; omega))
                refine c_draw Try.mixed (SC [(b88, 0 + (r : Int).toNat * 1, .int .i64 (e88)), (b16, 0 + (r : Int).toNat * 1, .int .i64 (e92))]) [] _ (fun a w h => h) ?_
                have O := O.drawn (w.drawn + 1)
                generalize { w with drawn := w.drawn + 1 } = w at O ⊢
                have hS : SC [(b88, 0 + (r : Int).toNat * 1, .int .i64 (e88)), (b16, 0 + (r : Int).toNat * 1, .int .i64 (e92))] w := (SC.cons ((O.loadRow 2 rfl (flat_get0 encInt_len he88 rfl))) (SC.cons ((O.loadRow 3 rfl (flat_get0 encInt_len he92 rfl))) SC.nil))
                refine d_take 0 rfl (by kernel_rfl) F (p_move rfl) rfl rfl hS fun a F => d_take 1 rfl (by kernel_rfl) F (p_move rfl) rfl rfl hS fun a F => d_one 2 (by kernel_rfl) (d_op rfl F rfl (o_call (vs := #[.slice P63 N63 C63, .int .i64 (r)]) F Try.en_34 rfl rfl ((hasInt_ok P63 N63 C63 (LO es16 t16) r w (O.arr 0 (es := LO es16 t16) rfl encInt_len (by decide)) (by first | omega | (simp; done) | (simp; omega) | (simp at *; omega)) (by omega)).mono ?_)))
                rintro e w ⟨rfl, K⟩
                refine ⟨_, rfl, fun a F => ?_⟩
                have O : Own w0 [] [.row 3 1 (.slice P63 N63 C63) N63 ((LO es16 t16).flatMap encInt), .row 3 1 (.slice P28 N28 C28) N28 ((LF es16 t16).flatMap encInt), .row 3 1 (.slice (some ⟨b88, 0, none⟩) N22 C22) N22 ((LF es16 t16).flatMap encInt), .row 3 1 (.slice (some ⟨b16, 0, none⟩) N16 C16) N16 (es16.flatMap encInt)] w := O.call0 K
                clear K
                have F := F.setB (d := 72) rfl (decide_eq_false cc1)
                have O : Own w0 [] [.row 3 1 (.slice P63 N63 C63) N63 ((LO es16 t16).flatMap encInt), .row 3 1 (.slice P28 N28 C28) N28 ((LF es16 t16).flatMap encInt), .row 3 1 (.slice (some ⟨b88, 0, none⟩) N22 C22) N22 ((LF es16 t16).flatMap encInt), .row 3 1 (.slice (some ⟨b16, 0, none⟩) N16 C16) N16 (es16.flatMap encInt)] w := O
                refine ⟨fun _ => (SC.cons ((O.loadRow 2 rfl (flat_get0 encInt_len he88 rfl))) (SC.cons ((O.loadRow 3 rfl (flat_get0 encInt_len he92 rfl))) SC.nil)), ?_⟩
                have hS : SC [(b88, 0 + (r : Int).toNat * 1, .int .i64 (e88)), (b16, 0 + (r : Int).toNat * 1, .int .i64 (e92))] w := (SC.cons ((O.loadRow 2 rfl (flat_get0 encInt_len he88 rfl))) (SC.cons ((O.loadRow 3 rfl (flat_get0 encInt_len he92 rfl))) SC.nil))
                refine d_take 3 rfl (by kernel_rfl) F (p_move rfl) rfl rfl hS fun a F => d_skip 4 rfl (by kernel_rfl) F rfl rfl hS fun a F => d_skip 5 rfl (by kernel_rfl) F rfl rfl hS fun a F => d_skip 6 rfl (by kernel_rfl) F rfl rfl hS fun a F => d_skip 7 rfl (by kernel_rfl) F rfl rfl hS fun a F => d_skip 8 rfl (by kernel_rfl) F rfl rfl hS fun a F => d_take 9 rfl (by kernel_rfl) F (p_pick (t := false) rfl rfl) rfl rfl hS fun a F => d_take 10 rfl (by kernel_rfl) F (p_move rfl) rfl rfl hS fun a F => d_take 11 rfl (by kernel_rfl) F (p_move rfl) rfl rfl hS fun a F => d_take 12 rfl (by kernel_rfl) F (p_move rfl) rfl rfl hS fun a F => d_one 13 (by kernel_rfl) (d_op rfl F rfl (o_call (vs := #[.slice P63 N63 C63, .int .i64 (r)]) F Try.en_34 rfl rfl ((hasInt_ok P63 N63 C63 (LO es16 t16) r w (O.arr 0 (es := LO es16 t16) rfl encInt_len (by decide)) (by first | omega | (simp; done) | (simp; omega) | (simp at *; omega)) (by omega)).mono ?_)))
                rintro e w ⟨rfl, K⟩
                refine ⟨_, rfl, fun a F => ?_⟩
                have O : Own w0 [] [.row 3 1 (.slice P63 N63 C63) N63 ((LO es16 t16).flatMap encInt), .row 3 1 (.slice P28 N28 C28) N28 ((LF es16 t16).flatMap encInt), .row 3 1 (.slice (some ⟨b88, 0, none⟩) N22 C22) N22 ((LF es16 t16).flatMap encInt), .row 3 1 (.slice (some ⟨b16, 0, none⟩) N16 C16) N16 (es16.flatMap encInt)] w := O.call0 K
                clear K
                have F := F.setB (d := 83) rfl (decide_eq_false cc1)
                have O : Own w0 [] [.row 3 1 (.slice P63 N63 C63) N63 ((LO es16 t16).flatMap encInt), .row 3 1 (.slice P28 N28 C28) N28 ((LF es16 t16).flatMap encInt), .row 3 1 (.slice (some ⟨b88, 0, none⟩) N22 C22) N22 ((LF es16 t16).flatMap encInt), .row 3 1 (.slice (some ⟨b16, 0, none⟩) N16 C16) N16 (es16.flatMap encInt)] w := O
                refine ⟨fun _ => (SC.cons ((O.loadRow 2 rfl (flat_get0 encInt_len he88 rfl))) (SC.cons ((O.loadRow 3 rfl (flat_get0 encInt_len he92 rfl))) SC.nil)), ?_⟩
                have hS : SC [(b88, 0 + (r : Int).toNat * 1, .int .i64 (e88)), (b16, 0 + (r : Int).toNat * 1, .int .i64 (e92))] w := (SC.cons ((O.loadRow 2 rfl (flat_get0 encInt_len he88 rfl))) (SC.cons ((O.loadRow 3 rfl (flat_get0 encInt_len he92 rfl))) SC.nil))
                refine d_take 14 rfl (by kernel_rfl) F (p_not rfl) rfl rfl hS fun a F => d_take 15 rfl (by kernel_rfl) F (p_move rfl) rfl rfl hS fun a F => d_take 16 rfl (by kernel_rfl) F (p_move rfl) rfl rfl hS fun a F => d_take 17 rfl (by kernel_rfl) F (p_move rfl) rfl rfl hS fun a F => d_take 18 rfl (by kernel_rfl) F (p_iaddr rfl rfl Try.underlying22 Try.sz_3 (by omega) (by omega)) rfl rfl hS fun a F => d_take 19 rfl (by kernel_rfl) F (p_load rfl Try.agg_3 (fun _ h => (SC.get h 0 rfl))) rfl rfl hS fun a F => d_take 20 rfl (by kernel_rfl) F (p_move rfl) rfl rfl hS fun a F => d_take 21 rfl (by kernel_rfl) F (p_move rfl) rfl rfl hS fun a F => d_take 22 rfl (by kernel_rfl) F (p_iaddr rfl rfl Try.underlying22 Try.sz_3 (by omega) (by omega)) rfl rfl hS fun a F => d_take 23 rfl (by kernel_rfl) F (p_load rfl Try.agg_3 (fun _ h => (SC.get h 1 rfl))) rfl rfl hS fun a F => d_take 24 rfl (by kernel_rfl) F (p_neq rfl rfl) rfl rfl hS fun a F => ?_
                have c94 : e88 = e92 := by have h5 := mt (LO_has' hV hi0a he92).2 cc1; have h6 := LF_get hV he92; rw [he88] at h6; injection h6 with h6; rw [h6, if_neg h5]
                have F := F.setB (d := 94) rfl (decide_eq_false (fun h => h c94))
                refine d_take 25 rfl (by kernel_rfl) F (p_pick (t := true) rfl rfl) rfl rfl hS fun a F => d_take 26 rfl (by kernel_rfl) F (p_pick (t := false) rfl rfl) rfl rfl hS fun a F => d_done (by kernel_rfl) (hK15 _ _ (?_))
                try clear hK15 K15
                refine c_iff F rfl (wp_skip (hK14 _ _ (?_)))
                try clear hK14 K14
                refine c_region (sp F (p_move rfl) rfl rfl fun a F => sp F (p_add rfl rfl (by omega) (by omega)) rfl rfl fun a F => sp F (p_assign rfl) rfl rfl fun a F => c_nil (?_))
                try rw [← hp88] at F
                try rw [← hp88] at O
                have F : Has 109 [(0, .slice A cn cc), (13, .bool false), (3, .slice (some ⟨b16, 0, none⟩) N16 C16), (4, .int .i64 (t16)), (5, .slice P22 N22 C22), (6, .bool (decide (((es16.length = 4 ∧ okIn (-1) (11) es16 = true) ∧ (0 ≤ t16 ∧ t16 ≤ 11)) ∧ hasI t16 es16 = true))), (7, .slice P28 N28 C28), (8, .bool (decide (((es16.length = 4 ∧ okIn (-1) (11) es16 = true) ∧ (0 ≤ t16 ∧ t16 ≤ 11)) ∧ hasI t16 es16 = true))), (52, .bool false), (9, .slice P63 N63 C63), (10, .int .i64 (r + 1))] a := F.pick ⟨rfl, rfl, rfl, rfl, rfl, rfl, rfl, rfl, rfl, rfl, rfl, trivial⟩
                exact ⟨((N16 : Int) - (r + 1)).toNat, by omega, (r + 1), rfl, F, O, by first | assumption | omega, by first | assumption | omega⟩
            · have F := F.setB (d := 67) rfl (decide_eq_false c67)
              refine c_iff F rfl (wp_exit (e_then (e_then (e_here (hK10 _ _ (?_))))))
              try clear hK10 K10
              refine c_seq fun K14 hK14 => c_region (sp F (p_move rfl) rfl rfl fun a F => sp F (p_move rfl) rfl rfl fun a F => sp F (p_len_l rfl Try.underlying22) rfl rfl fun a F => sp F (p_gtr rfl rfl) rfl rfl fun a F => ?_)
              by_cases c97 : ((es16.length = 4 ∧ okIn (-1) (11) es16 = true) ∧ (0 ≤ t16 ∧ t16 ≤ 11)) ∧ hasI t16 es16 = true
              · have F := F.setB (d := 6) rfl (decide_eq_true c97)
                have F := F.setB (d := 8) rfl (decide_eq_true c97)
                have F := F.setB (d := 97) rfl (decide_eq_true c97)
                have c100 : 0 < (N63 : Int) := by have h5 := (LO_pos hV).1 c97.2; omega
                have F := F.setB (d := 100) rfl (decide_eq_true c100)
                refine sp F (p_beqL rfl rfl Try.underlying4 true (by rfl)) rfl rfl fun a F => sp F (p_move rfl) rfl rfl fun a F => sp F (p_move rfl) rfl rfl fun a F => sp F (p_move rfl) rfl rfl fun a F => so F rfl (o_call (vs := #[.slice P22 N22 C22, .int .i64 (t16)]) F Try.en_30 rfl rfl ((iLocksOf_ok P22 N22 C22 (LF es16 t16) t16 w (O.arr 2 (es := LF es16 t16) rfl encInt_len (by decide)) (by first | omega | (simp; done) | (simp; omega) | (simp at *; omega)) (by omega)).mono ?_))
                rintro e w ⟨P105, N105, C105, rfl, h105a, h105b, K⟩
                refine ⟨_, rfl, fun a F => ?_⟩
                have O : Own w0 [] [.row 3 1 (.slice P105 N105 C105) N105 ((LO (LF es16 t16) t16).flatMap encInt), .row 3 1 (.slice P63 N63 C63) N63 ((LO es16 t16).flatMap encInt), .row 3 1 (.slice P28 N28 C28) N28 ((LF es16 t16).flatMap encInt), .row 3 1 (.slice P22 N22 C22) N22 ((LF es16 t16).flatMap encInt), .row 3 1 (.slice (some ⟨b16, 0, none⟩) N16 C16) N16 (es16.flatMap encInt)] w := O.call0 K
                clear K
                have O : Own w0 [] [.row 3 1 (.slice P105 N105 C105) N105 ((LO (LF es16 t16) t16).flatMap encInt), .row 3 1 (.slice P63 N63 C63) N63 ((LO es16 t16).flatMap encInt), .row 3 1 (.slice P28 N28 C28) N28 ((LF es16 t16).flatMap encInt), .row 3 1 (.slice P22 N22 C22) N22 ((LF es16 t16).flatMap encInt), .row 3 1 (.slice (some ⟨b16, 0, none⟩) N16 C16) N16 (es16.flatMap encInt)] w := O
                refine sp F (p_len_l rfl Try.underlying22) rfl rfl fun a F => sp F (p_eql rfl rfl) rfl rfl fun a F => ?_
                have c107 : (N105 : Int) = 0 := by have h5 : (LO (LF es16 t16) t16).length = 0 := (by rw [LO_LF (by omega)]; rfl); omega
                have F := F.setB (d := 107) rfl (decide_eq_true c107)
                refine sp F (p_pick (t := true) rfl rfl) rfl rfl fun a F => sp F (p_assign rfl) rfl rfl fun a F => c_nil (hK14 _ _ (?_))
                try clear hK14 K14
                refine wp_ret (ret1 F rfl rfl (?_))
                have O : Own w0 [] [] w := (O.take 0)
                exact ⟨rfl, O⟩
              · have F := F.setB (d := 6) rfl (decide_eq_false c97)
                have F := F.setB (d := 8) rfl (decide_eq_false c97)
                have F := F.setB (d := 97) rfl (decide_eq_false c97)
                have c100 : ¬ (0 < (N63 : Int)) := by have h5 := mt (LO_pos hV).2 (fun h => c97 ⟨⟨c42, by omega⟩, h⟩); omega
                have F := F.setB (d := 100) rfl (decide_eq_false c100)
                refine sp F (p_beqL rfl rfl Try.underlying4 true (by rfl)) rfl rfl fun a F => sp F (p_move rfl) rfl rfl fun a F => sp F (p_move rfl) rfl rfl fun a F => sp F (p_move rfl) rfl rfl fun a F => so F rfl (o_call (vs := #[.slice P22 N22 C22, .int .i64 (t16)]) F Try.en_30 rfl rfl ((iLocksOf_ok P22 N22 C22 (LF es16 t16) t16 w (O.arr 2 (es := LF es16 t16) rfl encInt_len (by decide)) (by first | omega | (simp; done) | (simp; omega) | (simp at *; omega)) (by omega)).mono ?_))
                rintro e w ⟨P105, N105, C105, rfl, h105a, h105b, K⟩
                refine ⟨_, rfl, fun a F => ?_⟩
                have O : Own w0 [] [.row 3 1 (.slice P105 N105 C105) N105 ((LO (LF es16 t16) t16).flatMap encInt), .row 3 1 (.slice P63 N63 C63) N63 ((LO es16 t16).flatMap encInt), .row 3 1 (.slice P28 N28 C28) N28 ((LF es16 t16).flatMap encInt), .row 3 1 (.slice P22 N22 C22) N22 ((LF es16 t16).flatMap encInt), .row 3 1 (.slice (some ⟨b16, 0, none⟩) N16 C16) N16 (es16.flatMap encInt)] w := O.call0 K
                clear K
                have O : Own w0 [] [.row 3 1 (.slice P105 N105 C105) N105 ((LO (LF es16 t16) t16).flatMap encInt), .row 3 1 (.slice P63 N63 C63) N63 ((LO es16 t16).flatMap encInt), .row 3 1 (.slice P28 N28 C28) N28 ((LF es16 t16).flatMap encInt), .row 3 1 (.slice P22 N22 C22) N22 ((LF es16 t16).flatMap encInt), .row 3 1 (.slice (some ⟨b16, 0, none⟩) N16 C16) N16 (es16.flatMap encInt)] w := O
                refine sp F (p_len_l rfl Try.underlying22) rfl rfl fun a F => sp F (p_eql rfl rfl) rfl rfl fun a F => ?_
                have c107 : (N105 : Int) = 0 := by have h5 : (LO (LF es16 t16) t16).length = 0 := (by rw [LO_LF (by omega)]; rfl); omega
                have F := F.setB (d := 107) rfl (decide_eq_true c107)
                refine sp F (p_pick (t := true) rfl rfl) rfl rfl fun a F => sp F (p_assign rfl) rfl rfl fun a F => c_nil (hK14 _ _ (?_))
                try clear hK14 K14
                refine wp_ret (ret1 F rfl rfl (?_))
                have O : Own w0 [] [] w := (O.take 0)
                exact ⟨rfl, O⟩
    · have F := F.setB (d := 42) rfl (decide_eq_false c42)
      refine sp F (p_not rfl) rfl rfl fun a F => sp F (p_pick (t := false) rfl rfl) rfl rfl fun a F => sp F (p_move rfl) rfl rfl fun a F => ss F rfl rfl fun a F => ss F rfl rfl fun a F => sp F (p_pick (t := true) rfl rfl) rfl rfl fun a F => sp F (p_move rfl) rfl rfl fun a F => ss F rfl rfl fun a F => ss F rfl rfl fun a F => sp F (p_pick (t := true) rfl rfl) rfl rfl fun a F => c_nil (hK8 _ _ (?_))
      try clear hK8 K8
      refine c_ift F rfl (c_seq fun K9 hK9 => c_region (sp F (p_move rfl) rfl rfl fun a F => sp F (p_move rfl) rfl rfl fun a F => sp F (p_beqL rfl rfl Try.underlying4 true (by simp)) rfl rfl fun a F => sp F (p_move rfl) rfl rfl fun a F => sp F (p_move rfl) rfl rfl fun a F => sp F (p_move rfl) rfl rfl fun a F => so F rfl (o_call (vs := #[.slice P22 N22 C22, .slice P28 N28 C28]) F Try.en_39 rfl rfl ((sameInts_ok P22 N22 C22 (LF es16 t16) P28 N28 C28 (LF es16 t16) w (O.arr 1 (es := LF es16 t16) rfl encInt_len (by decide)) (by first | omega | (simp; done) | (simp; omega) | (simp at *; omega)) (by omega) (O.arr 0 (es := LF es16 t16) rfl encInt_len (by decide)) (by first | omega | (simp; done) | (simp; omega) | (simp at *; omega)) (by omega)).mono ?_))))
      rintro e w ⟨rfl, K⟩
      refine ⟨_, rfl, fun a F => ?_⟩
      have O : Own w0 [] [.row 3 1 (.slice P28 N28 C28) N28 ((LF es16 t16).flatMap encInt), .row 3 1 (.slice P22 N22 C22) N22 ((LF es16 t16).flatMap encInt), .row 3 1 (.slice (some ⟨b16, 0, none⟩) N16 C16) N16 (es16.flatMap encInt)] w := O.call0 K
      clear K
      have F := F.setB (d := 59) rfl (decide_eq_true c37)
      have O : Own w0 [] [.row 3 1 (.slice P28 N28 C28) N28 ((LF es16 t16).flatMap encInt), .row 3 1 (.slice P22 N22 C22) N22 ((LF es16 t16).flatMap encInt), .row 3 1 (.slice (some ⟨b16, 0, none⟩) N16 C16) N16 (es16.flatMap encInt)] w := O
      refine sp F (p_pick (t := true) rfl rfl) rfl rfl fun a F => sp F (p_assign rfl) rfl rfl fun a F => c_nil (hK9 _ _ (?_))
      try clear hK9 K9
      refine wp_ret (r_then (ret1 F rfl rfl (?_)))
      have O : Own w0 [] [] w := (O.take 0)
      exact ⟨rfl, O⟩

set_option maxRecDepth 100000 in
theorem free_lifted (os : Os) (started : os.Started) (H : Type) (enc : TypeId × Value → H) :
    ReturnsInHanded {} Try.checked os 16 .any (Rows.fnFreeSpec.pre6 enc Try.prog Try.f16 Rows.fnFreeRow.domain false) (Rows.fnFreeSpec.post enc Try.prog Try.f16 false true false false) := by
  have e0 : Rows.fnFreeRow.domain = [] := rfl
  rw [e0]
  refine lifted_of (C := Try.checked) Try.facts started (by kernel_rfl) Try.func16 rfl ?_ (tb := 4) (by kernel_rfl) Try.underlying4 (by kernel_rfl)
    (ChangeSpec.witness6 (enc := enc) (C := Try.checked) false ⟨#[], #[.slice none 0 0], []⟩ 8 (by kernel_rfl) (by kernel_rfl) (by kernel_rfl) (by kernel_rfl)) ?_
  · intro ds hds
    match ds, hds with
    | [_], _ => rfl
  intro W base args ds p hval0 hA0
  have hval : ∀ (j : Nat) t v, Try.f16.params[j]? = some t → args[j]? = some v → Value.okWide Try.prog W .any base t v := hval0
  have hA : DataW.TrodAll enc Try.prog W 0 (fun _ => true) true Try.f16.params.toList args.toList ds p := hA0
  clear hA0 hval0
  show Calls Try.prog 16 args W _
  rw [Try.params16] at hA hval
  obtain ⟨v0, d0, hargs, rfl, h0⟩ := trodAll_one hA
  obtain rfl : args = #[v0] := by cases args; simp_all
  obtain ⟨a, n, c, rfl, hC⟩ := open_codeIn (hval 0 26 v0 rfl rfl) h0
  exact (free_ok a n c W hC).mono fun e w' h => ⟨h.1, h.2.below⟩

theorem free_pkg : ¬ Check.packageOf Try.f16.name = "main" := by
  intro h
  have h2 := congrArg String.toList h
  simp only [Check.packageOf, Try.f16] at h2
  simp at h2

theorem free_closed : lawFacts Try.prog 16 Try.f16 Rows.fnFreeSpec Rows.fnFreeRow = true := by kernel_rfl
theorem free_facts : joinedFacts Try.pinned.checked.prog 16 Try.f16 Rows.fnFreeSpec Rows.fnFreeRow = true := facts_of (P := Try.prog) Try.facts free_closed

theorem free_wrap : Func.isWrapper Try.pinned.checked.prog Try.f16 Rows.fnFreeRow.wrapper Rows.fnFreeRow.mainSum := by
  have e1 : Rows.fnFreeRow.wrapper = false := rfl
  have e2 : Rows.fnFreeRow.mainSum = "" := rfl
  rw [e1, e2]
  exact wrapper_of Try.pinned.checked.prog Try.f16 free_pkg

/-- The statement. -/
theorem free_over : Rows.fnFreeRow.holds Try.pinned (OpenSpec.ofChange Rows.fnFreeSpec) :=
  OpenClaim.holds_of_wide 16 Try.f16 rfl rfl rfl rfl rfl rfl rfl ⟨rfl, rfl, rfl, rfl, rfl⟩ rfl rfl rfl rfl rfl (by kernel_rfl) Try.func16 free_facts
    (of_decide_eq_true (by kernel_rfl)) free_wrap
    (fun os started H enc _ => free_lifted os started H enc)
theorem free_holds : Rows.FnFreeSaid := free_over
#print axioms free_holds

end Go.Proofs.Ytilpbddeijolbaa
