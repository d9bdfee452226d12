/- Either every lock is taken or none: the law FnTakeNone returns true: the row, and its card. No conditions. -/
import Derived.Test.YtilpbddeijolbaaDoorRefD
import Derived.Test.YtilpbddeijolbaaDoorRefL
import Derived.Test.YtilpbddeijolbaaDoorOpenC
import Derived.Test.YtilpbddeijolbaaDoorOpenU
import Derived.Test.YtilpbddeijolbaaDoorDoor
import Derived.Test.YtilpbddeijolbaaDoorCards
import Derived.Test.YtilpbddeijolbaaDoorTie
import Derived.SevenTiedAt
namespace Go.Proofs.YtilpbddeijolbaaDoor
open Go.ChangeShapes Go.WideShapes Go.ChangeAt Go.RowKit
set_option linter.unusedVariables false
set_option linter.unusedSimpArgs false

set_option maxRecDepth 100000 in
/-- laws.FnTakeNone -/
theorem takeNone_ok (A : Option Addr) (cn : Nat) (cc : Nat) (a0 : Addr) (w0 : World) (hC : CodeIn w0 A cn cc) (hl_0 : 0 < w0.heap.size) (hm_0_0 : w0.cell? ⟨0, 0, none⟩ = some (.iface 78 (.pointer (some a0)))) :
    Calls Tryd.prog 5 #[.slice A cn cc] w0 fun e w => e = .returned (.bool true) ∧ Own w0 [] [] w := by
  have O := Own.start w0
  have hcc : (cn : Int) ≤ cc := by have := hC.1; omega
  have hcm : (cc : Int) ≤ 9223372036854775807 := by have := hC.2.1; unfold maxLen at this; omega
  refine enterO (n := 84) Tryd.func5 rfl rfl rfl O fun a w F O => ?_
  refine c_seq fun K1 hK1 => c_region (sp F (p_assign rfl) rfl rfl fun a F => c_nil (hK1 _ _ (?_)))
  try clear hK1 K1
  refine c_seq fun K2 hK2 => c_seq fun K3 hK3 => c_region (sp F (p_move rfl) rfl rfl fun a F => sp F (p_len_l rfl Tryd.underlying35) rfl rfl fun a F => sp F (p_gtr rfl rfl) rfl rfl fun a F => c_nil (hK3 _ _ (?_)))
  try clear hK3 K3
  by_cases c14 : 1048576 < (cn : Int)
  · have F := F.setB (d := 14) rfl (decide_eq_true c14)
    refine c_ift F rfl (c_seq fun K4 hK4 => c_region (sp F (p_assign rfl) rfl rfl fun a F => c_nil (hK4 _ _ (?_))))
    try clear hK4 K4
    refine wp_ret (r_then (ret1 F rfl rfl (?_)))
    exact ⟨rfl, O⟩
  · have F := F.setB (d := 14) rfl (decide_eq_false c14)
    refine c_iff F rfl (wp_skip (hK2 _ _ (?_)))
    try clear hK2 K2
    refine c_seq fun K4 hK4 => c_region (sp F (p_move rfl) rfl rfl fun a F => so F rfl (o_call (vs := #[.slice A cn cc]) F Tryd.en_16 rfl rfl ((dLocksTake_ok A cn cc w (hC.keep O)).mono ?_)))
    rintro e w ⟨b17, N17, C17, es17, b217, N217, C217, es217, t17, rfl, h17a, h17b, h17c, h17d, h17e, h17f, K⟩
    refine ⟨_, rfl, fun a F => ?_⟩
    have O : Own w0 [] [.row 3 1 (.slice (some ⟨b17, 0, none⟩) N17 C17) N17 (es17.flatMap encInt), .row 39 3 (.slice (some ⟨b217, 0, none⟩) N217 C217) N217 (es217.flatMap encUp)] w := O.call0 K
    clear K
    have O : Own w0 [] [.row 3 1 (.slice (some ⟨b17, 0, none⟩) N17 C17) N17 (es17.flatMap encInt), .row 39 3 (.slice (some ⟨b217, 0, none⟩) N217 C217) N217 (es217.flatMap encUp)] w := O
    refine sp F (p_move rfl) rfl rfl fun a F => sp F (p_extract rfl rfl) rfl rfl fun a F => sp F (p_extract rfl rfl) rfl rfl fun a F => sp F (p_extract rfl rfl) rfl rfl fun a F => sp F (p_assign rfl) rfl rfl fun a F => sp F (p_assign rfl) rfl rfl fun a F => sp F (p_assign rfl) rfl rfl fun a F => c_nil (hK4 _ _ (?_))
    try clear hK4 K4
    refine c_seq fun K5 hK5 => c_region (sp F (p_move rfl) rfl rfl fun a F => sp F (p_move rfl) rfl rfl fun a F => sp F (p_move rfl) rfl rfl fun a F => so F rfl (o_call (vs := #[.slice (some ⟨b17, 0, none⟩) N17 C17, .int .i64 (t17), .slice (some ⟨b217, 0, none⟩) N217 C217]) F Tryd.en_10 rfl rfl ((iLocksTake_ok (some ⟨b17, 0, none⟩) N17 C17 es17 t17 (some ⟨b217, 0, none⟩) N217 C217 es217 a0 w (O.arr 0 (es := es17) rfl encInt_len (by decide)) (by first | omega | (simp; done) | (simp; omega) | (simp at *; omega)) (by omega) (O.arr 1 (es := es217) rfl encUp_len (by decide)) (by first | omega | (simp; done) | (simp; omega) | (simp at *; omega)) (by omega) (Nat.lt_of_lt_of_le hl_0 O.size) (((O.old hl_0 (by simp)).trans hm_0_0))).mono ?_)))
    rintro e w ⟨P25, N25, C25, rfl, h25a, h25b, K⟩
    refine ⟨_, rfl, fun a F => ?_⟩
    have O : Own w0 [] [.row 3 1 (.slice P25 N25 C25) N25 ((LT es17 t17 es217).flatMap encInt), .row 3 1 (.slice (some ⟨b17, 0, none⟩) N17 C17) N17 (es17.flatMap encInt), .row 39 3 (.slice (some ⟨b217, 0, none⟩) N217 C217) N217 (es217.flatMap encUp)] w := O.call0 K
    clear K
    have O : Own w0 [] [.row 3 1 (.slice P25 N25 C25) N25 ((LT es17 t17 es217).flatMap encInt), .row 3 1 (.slice (some ⟨b17, 0, none⟩) N17 C17) N17 (es17.flatMap encInt), .row 39 3 (.slice (some ⟨b217, 0, none⟩) N217 C217) N217 (es217.flatMap encUp)] w := O
    refine sp F (p_move rfl) rfl rfl fun a F => sp F (p_extract rfl rfl) rfl rfl fun a F => sp F (p_extract rfl rfl) rfl rfl fun a F => sp F (p_assign rfl) rfl rfl fun a F => sp F (p_assign rfl) rfl rfl fun a F => c_nil (hK5 _ _ (?_))
    try clear hK5 K5
    refine c_seq fun K6 hK6 => c_region (sp F (p_move rfl) rfl rfl fun a F => sp F (p_move rfl) rfl rfl fun a F => sp F (p_move rfl) rfl rfl fun a F => so F rfl (o_call (vs := #[.slice (some ⟨b17, 0, none⟩) N17 C17, .int .i64 (t17), .slice (some ⟨b217, 0, none⟩) N217 C217]) F Tryd.en_7 rfl rfl ((sLocksTake_ok (some ⟨b17, 0, none⟩) N17 C17 es17 t17 (some ⟨b217, 0, none⟩) N217 C217 es217 w (O.arr 1 (es := es17) rfl encInt_len (by decide)) (by first | omega | (simp; done) | (simp; omega) | (simp at *; omega)) (by omega) (O.arr 2 (es := es217) rfl encUp_len (by decide)) (by first | omega | (simp; done) | (simp; omega) | (simp at *; omega)) (by omega)).mono ?_)))
    rintro e w ⟨P32, N32, C32, rfl, h32a, h32b, K⟩
    refine ⟨_, rfl, fun a F => ?_⟩
    have O : Own w0 [] [.row 3 1 (.slice P32 N32 C32) N32 ((LT es17 t17 es217).flatMap encInt), .row 3 1 (.slice P25 N25 C25) N25 ((LT es17 t17 es217).flatMap encInt), .row 3 1 (.slice (some ⟨b17, 0, none⟩) N17 C17) N17 (es17.flatMap encInt), .row 39 3 (.slice (some ⟨b217, 0, none⟩) N217 C217) N217 (es217.flatMap encUp)] w := O.call0 K
    clear K
    have O : Own w0 [] [.row 3 1 (.slice P32 N32 C32) N32 ((LT es17 t17 es217).flatMap encInt), .row 3 1 (.slice P25 N25 C25) N25 ((LT es17 t17 es217).flatMap encInt), .row 3 1 (.slice (some ⟨b17, 0, none⟩) N17 C17) N17 (es17.flatMap encInt), .row 39 3 (.slice (some ⟨b217, 0, none⟩) N217 C217) N217 (es217.flatMap encUp)] w := O
    refine sp F (p_move rfl) rfl rfl fun a F => sp F (p_extract rfl rfl) rfl rfl fun a F => sp F (p_extract rfl rfl) rfl rfl fun a F => sp F (p_assign rfl) rfl rfl fun a F => sp F (p_assign rfl) rfl rfl fun a F => c_nil (hK6 _ _ (?_))
    try clear hK6 K6
    refine c_seq fun K7 hK7 => c_seq fun K8 hK8 => c_region (sp F (p_move rfl) rfl rfl fun a F => sp F (p_move rfl) rfl rfl fun a F => sp F (p_bneL rfl rfl Tryd.underlying4 false (by simp)) rfl rfl fun a F => sp F (p_move rfl) rfl rfl fun a F => sp F (p_move rfl) rfl rfl fun a F => sp F (p_move rfl) rfl rfl fun a F => so F rfl (o_call (vs := #[.slice P25 N25 C25, .slice P32 N32 C32]) F Tryd.en_17 rfl rfl ((sameInts_ok P25 N25 C25 (LT es17 t17 es217) P32 N32 C32 (LT es17 t17 es217) w (O.arr 1 (es := LT es17 t17 es217) rfl encInt_len (by decide)) (by first | omega | (simp; done) | (simp; omega) | (simp at *; omega)) (by omega) (O.arr 0 (es := LT es17 t17 es217) rfl encInt_len (by decide)) (by first | omega | (simp; done) | (simp; omega) | (simp at *; omega)) (by omega)).mono ?_)))
    rintro e w ⟨rfl, K⟩
    refine ⟨_, rfl, fun a F => ?_⟩
    have O : Own w0 [] [.row 3 1 (.slice P32 N32 C32) N32 ((LT es17 t17 es217).flatMap encInt), .row 3 1 (.slice P25 N25 C25) N25 ((LT es17 t17 es217).flatMap encInt), .row 3 1 (.slice (some ⟨b17, 0, none⟩) N17 C17) N17 (es17.flatMap encInt), .row 39 3 (.slice (some ⟨b217, 0, none⟩) N217 C217) N217 (es217.flatMap encUp)] w := O.call0 K
    clear K
    have c41 : (LT es17 t17 es217) = (LT es17 t17 es217) := by rfl
    have F := F.setB (d := 41) rfl (decide_eq_true c41)
    have O : Own w0 [] [.row 3 1 (.slice P32 N32 C32) N32 ((LT es17 t17 es217).flatMap encInt), .row 3 1 (.slice P25 N25 C25) N25 ((LT es17 t17 es217).flatMap encInt), .row 3 1 (.slice (some ⟨b17, 0, none⟩) N17 C17) N17 (es17.flatMap encInt), .row 39 3 (.slice (some ⟨b217, 0, none⟩) N217 C217) N217 (es217.flatMap encUp)] w := O
    refine sp F (p_not rfl) rfl rfl fun a F => sp F (p_pick (t := false) rfl rfl) rfl rfl fun a F => sp F (p_move rfl) rfl rfl fun a F => sp F (p_move rfl) rfl rfl fun a F => sp F (p_pick (t := false) rfl rfl) rfl rfl fun a F => sp F (p_move rfl) rfl rfl fun a F => ?_
    by_cases c47 : (((es17.length = 4 ∧ okIn (-1) (11) es17 = true) ∧ (0 ≤ t17 ∧ t17 ≤ 11)) ∧ (0 < es217.length ∧ upsB es217 = true)) ∧ FreeAll es17 es217 = true
    · have F := F.setB (d := 27) rfl (decide_eq_true c47)
      have F := F.setB (d := 7) rfl (decide_eq_true c47)
      have F := F.setB (d := 34) rfl (decide_eq_true c47)
      have F := F.setB (d := 9) rfl (decide_eq_true c47)
      have F := F.setB (d := 35) rfl (decide_eq_true c47)
      have F := F.setB (d := 36) rfl (decide_eq_true c47)
      have F := F.setB (d := 45) rfl (decide_eq_true c47)
      have F := F.setB (d := 46) rfl (decide_eq_true c47)
      have F := F.setB (d := 47) rfl (decide_eq_true c47)
      refine ss F rfl rfl fun a F => ss F rfl rfl fun a F => ss F rfl rfl fun a F => sp F (p_pick (t := true) rfl rfl) rfl rfl fun a F => c_nil (hK8 _ _ (?_))
      try clear hK8 K8
      refine c_ift F rfl (c_seq fun K9 hK9 => c_region (sp F (p_move rfl) rfl rfl fun a F => sp F (p_move rfl) rfl rfl fun a F => sp F (p_beqL rfl rfl Tryd.underlying4 true (by rfl)) rfl rfl fun a F => sp F (p_move rfl) rfl rfl fun a F => sp F (p_move rfl) rfl rfl fun a F => sp F (p_move rfl) rfl rfl fun a F => so F rfl (o_call (vs := #[.slice P25 N25 C25, .slice P32 N32 C32]) F Tryd.en_17 rfl rfl ((sameInts_ok P25 N25 C25 (LT es17 t17 es217) P32 N32 C32 (LT es17 t17 es217) w (O.arr 1 (es := LT es17 t17 es217) rfl encInt_len (by decide)) (by first | omega | (simp; done) | (simp; omega) | (simp at *; omega)) (by omega) (O.arr 0 (es := LT es17 t17 es217) rfl encInt_len (by decide)) (by first | omega | (simp; done) | (simp; omega) | (simp at *; omega)) (by omega)).mono ?_))))
      rintro e w ⟨rfl, K⟩
      refine ⟨_, rfl, fun a F => ?_⟩
      have O : Own w0 [] [.row 3 1 (.slice P32 N32 C32) N32 ((LT es17 t17 es217).flatMap encInt), .row 3 1 (.slice P25 N25 C25) N25 ((LT es17 t17 es217).flatMap encInt), .row 3 1 (.slice (some ⟨b17, 0, none⟩) N17 C17) N17 (es17.flatMap encInt), .row 39 3 (.slice (some ⟨b217, 0, none⟩) N217 C217) N217 (es217.flatMap encUp)] w := O.call0 K
      clear K
      have F := F.setB (d := 58) rfl (decide_eq_true c41)
      have O : Own w0 [] [.row 3 1 (.slice P32 N32 C32) N32 ((LT es17 t17 es217).flatMap encInt), .row 3 1 (.slice P25 N25 C25) N25 ((LT es17 t17 es217).flatMap encInt), .row 3 1 (.slice (some ⟨b17, 0, none⟩) N17 C17) N17 (es17.flatMap encInt), .row 39 3 (.slice (some ⟨b217, 0, none⟩) N217 C217) N217 (es217.flatMap encUp)] w := O
      refine sp F (p_pick (t := true) rfl rfl) rfl rfl fun a F => sp F (p_assign rfl) rfl rfl fun a F => c_nil (hK9 _ _ (?_))
      try clear hK9 K9
      refine wp_ret (r_then (ret1 F rfl rfl (?_)))
      have O : Own w0 [] [] w := (O.take 0)
      exact ⟨rfl, O⟩
    · have F := F.setB (d := 27) rfl (decide_eq_false c47)
      have F := F.setB (d := 7) rfl (decide_eq_false c47)
      have F := F.setB (d := 34) rfl (decide_eq_false c47)
      have F := F.setB (d := 9) rfl (decide_eq_false c47)
      have F := F.setB (d := 35) rfl (decide_eq_false c47)
      have F := F.setB (d := 36) rfl (decide_eq_false c47)
      have F := F.setB (d := 45) rfl (decide_eq_false c47)
      have F := F.setB (d := 46) rfl (decide_eq_false c47)
      have F := F.setB (d := 47) rfl (decide_eq_false c47)
      refine sp F (p_move rfl) rfl rfl fun a F => sp F (p_len_l rfl Tryd.underlying22) rfl rfl fun a F => sp F (p_eql rfl rfl) rfl rfl fun a F => sp F (p_pick (t := false) rfl rfl) rfl rfl fun a F => c_nil (hK8 _ _ (?_))
      try clear hK8 K8
      by_cases c51 : (N32 : Int) = 0
      · have F := F.setB (d := 50) rfl (decide_eq_true c51)
        have F := F.setB (d := 51) rfl (decide_eq_true c51)
        refine c_ift F rfl (c_seq fun K9 hK9 => c_region (sp F (p_move rfl) rfl rfl fun a F => sp F (p_move rfl) rfl rfl fun a F => sp F (p_beqL rfl rfl Tryd.underlying4 true (by rfl)) rfl rfl fun a F => sp F (p_move rfl) rfl rfl fun a F => sp F (p_move rfl) rfl rfl fun a F => sp F (p_move rfl) rfl rfl fun a F => so F rfl (o_call (vs := #[.slice P25 N25 C25, .slice P32 N32 C32]) F Tryd.en_17 rfl rfl ((sameInts_ok P25 N25 C25 (LT es17 t17 es217) P32 N32 C32 (LT es17 t17 es217) w (O.arr 1 (es := LT es17 t17 es217) rfl encInt_len (by decide)) (by first | omega | (simp; done) | (simp; omega) | (simp at *; omega)) (by omega) (O.arr 0 (es := LT es17 t17 es217) rfl encInt_len (by decide)) (by first | omega | (simp; done) | (simp; omega) | (simp at *; omega)) (by omega)).mono ?_))))
        rintro e w ⟨rfl, K⟩
        refine ⟨_, rfl, fun a F => ?_⟩
        have O : Own w0 [] [.row 3 1 (.slice P32 N32 C32) N32 ((LT es17 t17 es217).flatMap encInt), .row 3 1 (.slice P25 N25 C25) N25 ((LT es17 t17 es217).flatMap encInt), .row 3 1 (.slice (some ⟨b17, 0, none⟩) N17 C17) N17 (es17.flatMap encInt), .row 39 3 (.slice (some ⟨b217, 0, none⟩) N217 C217) N217 (es217.flatMap encUp)] w := O.call0 K
        clear K
        have F := F.setB (d := 58) rfl (decide_eq_true c41)
        have O : Own w0 [] [.row 3 1 (.slice P32 N32 C32) N32 ((LT es17 t17 es217).flatMap encInt), .row 3 1 (.slice P25 N25 C25) N25 ((LT es17 t17 es217).flatMap encInt), .row 3 1 (.slice (some ⟨b17, 0, none⟩) N17 C17) N17 (es17.flatMap encInt), .row 39 3 (.slice (some ⟨b217, 0, none⟩) N217 C217) N217 (es217.flatMap encUp)] w := O
        refine sp F (p_pick (t := true) rfl rfl) rfl rfl fun a F => sp F (p_assign rfl) rfl rfl fun a F => c_nil (hK9 _ _ (?_))
        try clear hK9 K9
        refine wp_ret (r_then (ret1 F rfl rfl (?_)))
        have O : Own w0 [] [] w := (O.take 0)
        exact ⟨rfl, O⟩
      · have F := F.setB (d := 50) rfl (decide_eq_false c51)
        have F := F.setB (d := 51) rfl (decide_eq_false c51)
        refine c_iff F rfl (wp_skip (hK7 _ _ (?_)))
        try clear hK7 K7
        refine c_seq fun K9 hK9 => ?_
        have hV : TVal es17 t17 es217 := LT_val (by omega)
        have hU := hV.2.2
        have h4 := hV.1.1.1
        refine c_region (sp F (p_assign rfl) rfl rfl fun a F => c_nil (hK9 _ _ (?_)))
        try clear hK9 K9
        refine c_seq fun K10 hK10 => c_seq fun K11 hK11 => c_region (sp F (p_assign rfl) rfl rfl fun a F => c_nil (hK11 _ _ (?_)))
        try clear hK11 K11
        refine wp_block (?_)
        refine c_loop (fun mm a w => ∃ (j : Int), ∃ (bv : Bool), mm = ((N217 : Int) - j).toNat ∧ Has 84 [(0, .slice A cn cc), (2, .bool false), (14, .bool false), (3, .slice (some ⟨b17, 0, none⟩) N17 C17), (4, .int .i64 (t17)), (5, .slice (some ⟨b217, 0, none⟩) N217 C217), (6, .slice P25 N25 C25), (7, .bool false), (8, .slice P32 N32 C32), (9, .bool false), (51, .bool false), (11, .int .i64 (j)), (10, .bool (bv))] a ∧ Own w0 [] [.row 3 1 (.slice P32 N32 C32) N32 ((LT es17 t17 es217).flatMap encInt), .row 3 1 (.slice P25 N25 C25) N25 ((LT es17 t17 es217).flatMap encInt), .row 3 1 (.slice (some ⟨b17, 0, none⟩) N17 C17) N17 (es17.flatMap encInt), .row 39 3 (.slice (some ⟨b217, 0, none⟩) N217 C217) N217 (es217.flatMap encUp)] w ∧ (0 ≤ j) ∧ (j ≤ N217) ∧ (bv = !FreeAll es17 (es217.take (j : Int).toNat))) ?_ ?_
        · have F := F.setV (d := 10) rfl (show Value.bool false = .bool (false) from by rfl)
          have F : Has 84 [(0, .slice A cn cc), (2, .bool false), (14, .bool false), (3, .slice (some ⟨b17, 0, none⟩) N17 C17), (4, .int .i64 (t17)), (5, .slice (some ⟨b217, 0, none⟩) N217 C217), (6, .slice P25 N25 C25), (7, .bool false), (8, .slice P32 N32 C32), (9, .bool false), (51, .bool false), (11, .int .i64 (0)), (10, .bool (false))] a := F.pick ⟨rfl, rfl, rfl, rfl, rfl, rfl, rfl, rfl, rfl, rfl, rfl, rfl, rfl, trivial⟩
          exact ⟨((N217 : Int) - 0).toNat, 0, false, rfl, F, O, by first | assumption | omega, by first | assumption | omega, by rfl⟩
        · rintro mm a w ⟨j, bv, rfl, F, O, hi0a, hi0b, hi0c⟩
          refine c_seq fun K12 hK12 => c_seq fun K13 hK13 => c_region (sp F (p_move rfl) rfl rfl fun a F => sp F (p_move rfl) rfl rfl fun a F => sp F (p_len_l rfl Tryd.underlying28) rfl rfl fun a F => sp F (p_lss rfl rfl) rfl rfl fun a F => c_nil (hK13 _ _ (?_)))
          try clear hK13 K13
          by_cases c63 : j < (N217 : Int)
          · have F := F.setB (d := 63) rfl (decide_eq_true c63)
            refine c_ift F rfl (wp_skip (hK12 _ _ (?_)))
            try clear hK12 K12
            refine c_seq fun K14 hK14 => wp_block (c_region (sp F (p_move rfl) rfl rfl fun a F => sp F (p_move rfl) rfl rfl fun a F => ?_))
            by_cases c67 : bv = true
            · have F := F.setB (d := 10) rfl c67
              have F := F.setB (d := 66) rfl c67
              have F := F.setB (d := 67) rfl c67
              refine ss F rfl rfl fun a F => ss F rfl rfl fun a F => ss F rfl rfl fun a F => ss F rfl rfl fun a F => ss F rfl rfl fun a F => ss F rfl rfl fun a F => ss F rfl rfl fun a F => ss F rfl rfl fun a F => ss F rfl rfl fun a F => sp F (p_pick (t := true) rfl rfl) rfl rfl fun a F => sp F (p_assign rfl) rfl rfl fun a F => c_nil (hK14 _ _ (?_))
              try clear hK14 K14
              refine c_region (sp F (p_move rfl) rfl rfl fun a F => sp F (p_add rfl rfl (by omega) (by omega)) rfl rfl fun a F => sp F (p_assign rfl) rfl rfl fun a F => c_nil (?_))
              obtain ⟨v0, hv0⟩ := get_some (l := es217) (i := j) (by omega) (by omega)
              have F := F.setV (d := 10) rfl (show Value.bool true = .bool (true) from by rfl)
              have F : Has 84 [(0, .slice A cn cc), (2, .bool false), (14, .bool false), (3, .slice (some ⟨b17, 0, none⟩) N17 C17), (4, .int .i64 (t17)), (5, .slice (some ⟨b217, 0, none⟩) N217 C217), (6, .slice P25 N25 C25), (7, .bool false), (8, .slice P32 N32 C32), (9, .bool false), (51, .bool false), (11, .int .i64 (j + 1)), (10, .bool (true))] a := F.pick ⟨rfl, rfl, rfl, rfl, rfl, rfl, rfl, rfl, rfl, rfl, rfl, rfl, rfl, trivial⟩
              exact ⟨((N217 : Int) - (j + 1)).toNat, by omega, (j + 1), true, rfl, F, O, by first | assumption | omega, by first | assumption | omega, by rw [freeAll_step hi0a hv0, Bool.not_and, ← hi0c]; first | (simp only [c67, Bool.true_or]; done) | (rw [hv0] at he71; injection he71 with h5; subst h5; rw [getD_of he74, Bool.eq_false_iff.2 c67, Bool.false_or]; first | rfl | simp)⟩
            · have F := F.setB (d := 10) rfl (Bool.eq_false_iff.2 c67)
              have F := F.setB (d := 66) rfl (Bool.eq_false_iff.2 c67)
              have F := F.setB (d := 67) rfl (Bool.eq_false_iff.2 c67)
              refine sp F (p_move rfl) rfl rfl fun a F => sp F (p_move rfl) rfl rfl fun a F => sp F (p_move rfl) rfl rfl fun a F => ?_
              obtain ⟨e71, he71⟩ := get_some (l := es217) (i := j) (by omega) (by first | omega | (simp; omega))
              have hup71 := upB_iff.1 (upsB_up hU he71)
              refine sp F (p_iaddr rfl rfl Tryd.underlying28 Tryd.sz_39 (by omega) (by omega)) rfl rfl fun a F => sp F (p_faddr rfl Tryd.foff_39_0) rfl rfl fun a F => sp F (p_load rfl Tryd.agg_3 (fun _ h => (ld1 ((O.loadRow 3 rfl (flat_get0 encUp_len he71 rfl))) h))) rfl rfl fun a F => ?_
              obtain ⟨e74, he74⟩ := get_some (l := es17) (i := e71.1) (by omega) (by first | omega | (simp; omega))
              refine sp F (p_iaddr rfl rfl Tryd.underlying22 Tryd.sz_3 (by omega) (by omega)) rfl rfl fun a F => sp F (p_load rfl Tryd.agg_3 (fun _ h => (ld1 ((O.loadRow 2 rfl (flat_get0 encInt_len he74 rfl))) h))) rfl rfl fun a F => sp F (p_neq rfl rfl) rfl rfl fun a F => sp F (p_pick (t := false) rfl rfl) rfl rfl fun a F => sp F (p_assign rfl) rfl rfl fun a F => c_nil (hK14 _ _ (?_))
              try clear hK14 K14
              refine c_region (sp F (p_move rfl) rfl rfl fun a F => sp F (p_add rfl rfl (by omega) (by omega)) rfl rfl fun a F => sp F (p_assign rfl) rfl rfl fun a F => c_nil (?_))
              obtain ⟨v0, hv0⟩ := get_some (l := es217) (i := j) (by omega) (by omega)
              have F : Has 84 [(0, .slice A cn cc), (2, .bool false), (14, .bool false), (3, .slice (some ⟨b17, 0, none⟩) N17 C17), (4, .int .i64 (t17)), (5, .slice (some ⟨b217, 0, none⟩) N217 C217), (6, .slice P25 N25 C25), (7, .bool false), (8, .slice P32 N32 C32), (9, .bool false), (51, .bool false), (11, .int .i64 (j + 1)), (10, .bool (decide (e74 ≠ (-1))))] a := F.pick ⟨rfl, rfl, rfl, rfl, rfl, rfl, rfl, rfl, rfl, rfl, rfl, rfl, rfl, trivial⟩
              exact ⟨((N217 : Int) - (j + 1)).toNat, by omega, (j + 1), (decide (e74 ≠ (-1))), rfl, F, O, by first | assumption | omega, by first | assumption | omega, by rw [freeAll_step hi0a hv0, Bool.not_and, ← hi0c]; first | (simp only [c67, Bool.true_or]; done) | (rw [hv0] at he71; injection he71 with h5; subst h5; rw [getD_of he74, Bool.eq_false_iff.2 c67, Bool.false_or]; first | rfl | simp)⟩
          · have F := F.setB (d := 63) rfl (decide_eq_false c63)
            refine c_iff F rfl (wp_exit (e_then (e_then (e_here (hK10 _ _ (?_))))))
            try clear hK10 K10
            refine c_seq fun K14 hK14 => c_region (sp F (p_move rfl) rfl rfl fun a F => ?_)
            have c78 : bv = true := by rw [hi0c, take_all (by omega), Bool.eq_false_iff.2 (fun h => c47 ⟨hV, h⟩)]; rfl
            have F := F.setB (d := 10) rfl c78
            have F := F.setB (d := 78) rfl c78
            refine sp F (p_move rfl) rfl rfl fun a F => sp F (p_move rfl) rfl rfl fun a F => sp F (p_move rfl) rfl rfl fun a F => so F rfl (o_call (vs := #[.slice P25 N25 C25, .slice (some ⟨b17, 0, none⟩) N17 C17]) F Tryd.en_17 rfl rfl ((sameInts_ok P25 N25 C25 (LT es17 t17 es217) (some ⟨b17, 0, none⟩) N17 C17 es17 w (O.arr 1 (es := LT es17 t17 es217) rfl encInt_len (by decide)) (by first | omega | (simp; done) | (simp; omega) | (simp at *; omega)) (by omega) (O.arr 2 (es := es17) rfl encInt_len (by decide)) (by first | omega | (simp; done) | (simp; omega) | (simp at *; omega)) (by omega)).mono ?_))
            rintro e w ⟨rfl, K⟩
            refine ⟨_, rfl, fun a F => ?_⟩
            have O : Own w0 [] [.row 3 1 (.slice P32 N32 C32) N32 ((LT es17 t17 es217).flatMap encInt), .row 3 1 (.slice P25 N25 C25) N25 ((LT es17 t17 es217).flatMap encInt), .row 3 1 (.slice (some ⟨b17, 0, none⟩) N17 C17) N17 (es17.flatMap encInt), .row 39 3 (.slice (some ⟨b217, 0, none⟩) N217 C217) N217 (es217.flatMap encUp)] w := O.call0 K
            clear K
            have c82 : (LT es17 t17 es217) = es17 := by exact LT_busy hV (fun h => c47 ⟨hV, h⟩)
            have F := F.setB (d := 82) rfl (decide_eq_true c82)
            have O : Own w0 [] [.row 3 1 (.slice P32 N32 C32) N32 ((LT es17 t17 es217).flatMap encInt), .row 3 1 (.slice P25 N25 C25) N25 ((LT es17 t17 es217).flatMap encInt), .row 3 1 (.slice (some ⟨b17, 0, none⟩) N17 C17) N17 (es17.flatMap encInt), .row 39 3 (.slice (some ⟨b217, 0, none⟩) N217 C217) N217 (es217.flatMap encUp)] w := O
            refine sp F (p_pick (t := true) rfl rfl) rfl rfl fun a F => sp F (p_assign rfl) rfl rfl fun a F => c_nil (hK14 _ _ (?_))
            try clear hK14 K14
            refine wp_ret (ret1 F rfl rfl (?_))
            have O : Own w0 [] [] w := (O.take 0)
            exact ⟨rfl, O⟩

set_option maxRecDepth 100000 in
theorem takeNone_lifted (os : Os) (started : os.Started) (H : Type) (enc : TypeId × Value → H) :
    ReturnsInHanded {} Tryd.checked os 5 .any (fun w args => (Rows.fnTakeNoneSpec.pre enc Tryd.prog Tryd.f5 [] false w args ∧ laidMet Tryd.prog laidList w) ∧ sizedMet enc Tryd.prog Tryd.f5 (OpenSpec.ofChange Rows.fnTakeNoneSpec) false w args)
      (Rows.fnTakeNoneSpec.post enc Tryd.prog Tryd.f5 false true false false) := by
  refine lifted_laid started (by kernel_rfl) Tryd.func5 rfl ?_ (by kernel_rfl) (by kernel_rfl)
    (ChangeSpec.witness_at (enc := enc) (C := Tryd.checked) (os := os) (X := fun w _ => laidMet Tryd.prog laidList w) false (laidWorld os) #[.slice none 0 0] 8 rfl (by kernel_rfl) (by kernel_rfl) (by kernel_rfl) (by kernel_rfl) (by kernel_rfl) (laidWorld_met os _)) ?_
  · intro ds g hds
    match ds, hds with
    | [_], _ => rfl
  intro W base args ds p a0 hval0 hA0 hm hl
  have hval : ∀ (j : Nat) t v, Tryd.f5.params[j]? = some t → args[j]? = some v → Value.okWide Tryd.prog W .any base t v := hval0
  have hA : DataW.TrodAll enc Tryd.prog W 0 (fun _ => true) true Tryd.f5.params.toList args.toList ds p := hA0
  clear hA0 hval0
  show Calls Tryd.prog 5 args W _
  rw [Tryd.params5] at hA hval
  obtain ⟨v0, d0, hargs, rfl, h0⟩ := trodAll_one hA
  obtain rfl : args = #[v0] := by cases args; simp_all
  obtain ⟨a, n, c, rfl, hC⟩ := open_codeIn (hval 0 35 v0 rfl rfl) h0
  exact (takeNone_ok a n c a0 W hC hl hm).mono fun e w' h => ⟨h.1, h.2.below⟩

theorem takeNone_pkg : ¬ Check.packageOf Tryd.f5.name = "main" := by
  intro h
  have h2 := congrArg String.toList h
  simp only [Check.packageOf, Tryd.f5] at h2
  simp at h2
theorem takeNone_closed : lawFacts Tryd.prog 5 Tryd.f5 Rows.fnTakeNoneSpec Rows.fnTakeNoneRow = true := by kernel_rfl
theorem takeNone_facts : joinedFacts Tryd.pinned.checked.prog 5 Tryd.f5 Rows.fnTakeNoneSpec Rows.fnTakeNoneRow = true := facts_of (P := Tryd.prog) Tryd.facts takeNone_closed
theorem takeNone_wrap : Func.isWrapper Tryd.pinned.checked.prog Tryd.f5 Rows.fnTakeNoneRow.wrapper Rows.fnTakeNoneRow.mainSum := by
  have e1 : Rows.fnTakeNoneRow.wrapper = false := rfl
  have e2 : Rows.fnTakeNoneRow.mainSum = "" := rfl
  rw [e1, e2]
  exact wrapper_of Tryd.pinned.checked.prog Tryd.f5 takeNone_pkg

/-- The row's statement. -/
theorem takeNone_row : Rows.FnTakeNoneSaid :=
  OpenClaim.holds_of_wide 5 Tryd.f5 rfl rfl rfl rfl rfl rfl rfl ⟨rfl, rfl, rfl, rfl, rfl⟩ rfl rfl rfl rfl rfl (by kernel_rfl) Tryd.func5 takeNone_facts
    (of_decide_eq_true (by kernel_rfl)) takeNone_wrap
    (fun os started H enc _ => takeNone_lifted os started H enc)

/-- The card. -/
theorem takeNone_card : Rows.FnTakeNoneCardSaid :=
  Claim7.holds_tied_plain_at .later [] [.sentinel] true (true, "c717c8195f219aaf927d0a0cab96f2e152b24509bb0c3ef00b87cd3ed97c83eb") true
    takeNone_row (fun _ h => by cases h) (by kernel_rfl) (fun _ h => by cases h) fnTakeNone_row_tie rfl ⟨rfl, rfl⟩ (by kernel_rfl) rfl
    (fun f fn hf hfn => by
      obtain rfl : f = 5 := Option.some.inj ((show Tryd.prog.funcNamed "loop.example/atomicpush/laws.FnTakeNone" = some 5 by kernel_rfl).symm.trans hf) |>.symm
      obtain rfl : fn = Tryd.f5 := (Option.some.inj (Tryd.func5.symm.trans hfn)).symm
      exact ⟨by kernel_rfl, fun j t ht => by
        rw [Tryd.params5] at ht
        rcases j with _ | _ | _ | j <;> simp at ht <;> subst ht <;> kernel_rfl⟩)
    (by kernel_rfl)
#print axioms takeNone_card
end Go.Proofs.YtilpbddeijolbaaDoor
