/- Locks are taken of all the refs of the updates: the law FnTake returns true: the row, and its card. No conditions. -/
import Derived.Test.YtilpbddeijolbaaDoorRefD
import Derived.Test.YtilpbddeijolbaaDoorRefL
import Derived.Test.YtilpbddeijolbaaDoorOpenC
import Derived.Test.YtilpbddeijolbaaDoorOpenU
import Derived.Test.YtilpbddeijolbaaDoorDoor
import Derived.Test.YtilpbddeijolbaaDoorCards
import Derived.Test.YtilpbddeijolbaaDoorTie
import Derived.SevenTiedAt
namespace Go.Proofs.YtilpbddeijolbaaDoor
open Go.ChangeShapes Go.WideShapes Go.ChangeAt Go.RowKit
set_option linter.unusedVariables false
set_option linter.unusedSimpArgs false

set_option maxRecDepth 100000 in
/-- laws.FnTake -/
theorem take_ok (A : Option Addr) (cn : Nat) (cc : Nat) (a0 : Addr) (w0 : World) (hC : CodeIn w0 A cn cc) (hl_0 : 0 < w0.heap.size) (hm_0_0 : w0.cell? ⟨0, 0, none⟩ = some (.iface 78 (.pointer (some a0)))) :
    Calls Tryd.prog 4 #[.slice A cn cc] w0 fun e w => e = .returned (.bool true) ∧ Own w0 [] [] w := by
  have O := Own.start w0
  have hcc : (cn : Int) ≤ cc := by have := hC.1; omega
  have hcm : (cc : Int) ≤ 9223372036854775807 := by have := hC.2.1; unfold maxLen at this; omega
  refine enterO (n := 110) Tryd.func4 rfl rfl rfl O fun a w F O => ?_
  refine c_seq fun K1 hK1 => c_region (sp F (p_assign rfl) rfl rfl fun a F => c_nil (hK1 _ _ (?_)))
  try clear hK1 K1
  refine c_seq fun K2 hK2 => c_seq fun K3 hK3 => c_region (sp F (p_move rfl) rfl rfl fun a F => sp F (p_len_l rfl Tryd.underlying35) rfl rfl fun a F => sp F (p_gtr rfl rfl) rfl rfl fun a F => c_nil (hK3 _ _ (?_)))
  try clear hK3 K3
  by_cases c15 : 1048576 < (cn : Int)
  · have F := F.setB (d := 15) rfl (decide_eq_true c15)
    refine c_ift F rfl (c_seq fun K4 hK4 => c_region (sp F (p_assign rfl) rfl rfl fun a F => c_nil (hK4 _ _ (?_))))
    try clear hK4 K4
    refine wp_ret (r_then (ret1 F rfl rfl (?_)))
    exact ⟨rfl, O⟩
  · have F := F.setB (d := 15) rfl (decide_eq_false c15)
    refine c_iff F rfl (wp_skip (hK2 _ _ (?_)))
    try clear hK2 K2
    refine c_seq fun K4 hK4 => c_region (sp F (p_move rfl) rfl rfl fun a F => so F rfl (o_call (vs := #[.slice A cn cc]) F Tryd.en_16 rfl rfl ((dLocksTake_ok A cn cc w (hC.keep O)).mono ?_)))
    rintro e w ⟨b18, N18, C18, es18, b218, N218, C218, es218, t18, rfl, h18a, h18b, h18c, h18d, h18e, h18f, K⟩
    refine ⟨_, rfl, fun a F => ?_⟩
    have O : Own w0 [] [.row 3 1 (.slice (some ⟨b18, 0, none⟩) N18 C18) N18 (es18.flatMap encInt), .row 39 3 (.slice (some ⟨b218, 0, none⟩) N218 C218) N218 (es218.flatMap encUp)] w := O.call0 K
    clear K
    have O : Own w0 [] [.row 3 1 (.slice (some ⟨b18, 0, none⟩) N18 C18) N18 (es18.flatMap encInt), .row 39 3 (.slice (some ⟨b218, 0, none⟩) N218 C218) N218 (es218.flatMap encUp)] w := O
    refine sp F (p_move rfl) rfl rfl fun a F => sp F (p_extract rfl rfl) rfl rfl fun a F => sp F (p_extract rfl rfl) rfl rfl fun a F => sp F (p_extract rfl rfl) rfl rfl fun a F => sp F (p_assign rfl) rfl rfl fun a F => sp F (p_assign rfl) rfl rfl fun a F => sp F (p_assign rfl) rfl rfl fun a F => c_nil (hK4 _ _ (?_))
    try clear hK4 K4
    refine c_seq fun K5 hK5 => c_region (sp F (p_move rfl) rfl rfl fun a F => sp F (p_move rfl) rfl rfl fun a F => sp F (p_move rfl) rfl rfl fun a F => so F rfl (o_call (vs := #[.slice (some ⟨b18, 0, none⟩) N18 C18, .int .i64 (t18), .slice (some ⟨b218, 0, none⟩) N218 C218]) F Tryd.en_10 rfl rfl ((iLocksTake_ok (some ⟨b18, 0, none⟩) N18 C18 es18 t18 (some ⟨b218, 0, none⟩) N218 C218 es218 a0 w (O.arr 0 (es := es18) rfl encInt_len (by decide)) (by first | omega | (simp; done) | (simp; omega) | (simp at *; omega)) (by omega) (O.arr 1 (es := es218) rfl encUp_len (by decide)) (by first | omega | (simp; done) | (simp; omega) | (simp at *; omega)) (by omega) (Nat.lt_of_lt_of_le hl_0 O.size) (((O.old hl_0 (by simp)).trans hm_0_0))).mono ?_)))
    rintro e w ⟨P26, N26, C26, rfl, h26a, h26b, K⟩
    refine ⟨_, rfl, fun a F => ?_⟩
    have O : Own w0 [] [.row 3 1 (.slice P26 N26 C26) N26 ((LT es18 t18 es218).flatMap encInt), .row 3 1 (.slice (some ⟨b18, 0, none⟩) N18 C18) N18 (es18.flatMap encInt), .row 39 3 (.slice (some ⟨b218, 0, none⟩) N218 C218) N218 (es218.flatMap encUp)] w := O.call0 K
    clear K
    have O : Own w0 [] [.row 3 1 (.slice P26 N26 C26) N26 ((LT es18 t18 es218).flatMap encInt), .row 3 1 (.slice (some ⟨b18, 0, none⟩) N18 C18) N18 (es18.flatMap encInt), .row 39 3 (.slice (some ⟨b218, 0, none⟩) N218 C218) N218 (es218.flatMap encUp)] w := O
    refine sp F (p_move rfl) rfl rfl fun a F => sp F (p_extract rfl rfl) rfl rfl fun a F => sp F (p_extract rfl rfl) rfl rfl fun a F => sp F (p_assign rfl) rfl rfl fun a F => sp F (p_assign rfl) rfl rfl fun a F => c_nil (hK5 _ _ (?_))
    try clear hK5 K5
    refine c_seq fun K6 hK6 => c_region (sp F (p_move rfl) rfl rfl fun a F => sp F (p_move rfl) rfl rfl fun a F => sp F (p_move rfl) rfl rfl fun a F => so F rfl (o_call (vs := #[.slice (some ⟨b18, 0, none⟩) N18 C18, .int .i64 (t18), .slice (some ⟨b218, 0, none⟩) N218 C218]) F Tryd.en_7 rfl rfl ((sLocksTake_ok (some ⟨b18, 0, none⟩) N18 C18 es18 t18 (some ⟨b218, 0, none⟩) N218 C218 es218 w (O.arr 1 (es := es18) rfl encInt_len (by decide)) (by first | omega | (simp; done) | (simp; omega) | (simp at *; omega)) (by omega) (O.arr 2 (es := es218) rfl encUp_len (by decide)) (by first | omega | (simp; done) | (simp; omega) | (simp at *; omega)) (by omega)).mono ?_)))
    rintro e w ⟨P33, N33, C33, rfl, h33a, h33b, K⟩
    refine ⟨_, rfl, fun a F => ?_⟩
    have O : Own w0 [] [.row 3 1 (.slice P33 N33 C33) N33 ((LT es18 t18 es218).flatMap encInt), .row 3 1 (.slice P26 N26 C26) N26 ((LT es18 t18 es218).flatMap encInt), .row 3 1 (.slice (some ⟨b18, 0, none⟩) N18 C18) N18 (es18.flatMap encInt), .row 39 3 (.slice (some ⟨b218, 0, none⟩) N218 C218) N218 (es218.flatMap encUp)] w := O.call0 K
    clear K
    have O : Own w0 [] [.row 3 1 (.slice P33 N33 C33) N33 ((LT es18 t18 es218).flatMap encInt), .row 3 1 (.slice P26 N26 C26) N26 ((LT es18 t18 es218).flatMap encInt), .row 3 1 (.slice (some ⟨b18, 0, none⟩) N18 C18) N18 (es18.flatMap encInt), .row 39 3 (.slice (some ⟨b218, 0, none⟩) N218 C218) N218 (es218.flatMap encUp)] w := O
    refine sp F (p_move rfl) rfl rfl fun a F => sp F (p_extract rfl rfl) rfl rfl fun a F => sp F (p_extract rfl rfl) rfl rfl fun a F => sp F (p_assign rfl) rfl rfl fun a F => sp F (p_assign rfl) rfl rfl fun a F => c_nil (hK6 _ _ (?_))
    try clear hK6 K6
    refine c_seq fun K7 hK7 => c_seq fun K8 hK8 => c_region (sp F (p_move rfl) rfl rfl fun a F => sp F (p_move rfl) rfl rfl fun a F => sp F (p_bneL rfl rfl Tryd.underlying4 false (by simp)) rfl rfl fun a F => sp F (p_move rfl) rfl rfl fun a F => sp F (p_move rfl) rfl rfl fun a F => sp F (p_move rfl) rfl rfl fun a F => so F rfl (o_call (vs := #[.slice P26 N26 C26, .slice P33 N33 C33]) F Tryd.en_17 rfl rfl ((sameInts_ok P26 N26 C26 (LT es18 t18 es218) P33 N33 C33 (LT es18 t18 es218) w (O.arr 1 (es := LT es18 t18 es218) rfl encInt_len (by decide)) (by first | omega | (simp; done) | (simp; omega) | (simp at *; omega)) (by omega) (O.arr 0 (es := LT es18 t18 es218) rfl encInt_len (by decide)) (by first | omega | (simp; done) | (simp; omega) | (simp at *; omega)) (by omega)).mono ?_)))
    rintro e w ⟨rfl, K⟩
    refine ⟨_, rfl, fun a F => ?_⟩
    have O : Own w0 [] [.row 3 1 (.slice P33 N33 C33) N33 ((LT es18 t18 es218).flatMap encInt), .row 3 1 (.slice P26 N26 C26) N26 ((LT es18 t18 es218).flatMap encInt), .row 3 1 (.slice (some ⟨b18, 0, none⟩) N18 C18) N18 (es18.flatMap encInt), .row 39 3 (.slice (some ⟨b218, 0, none⟩) N218 C218) N218 (es218.flatMap encUp)] w := O.call0 K
    clear K
    have c42 : (LT es18 t18 es218) = (LT es18 t18 es218) := by rfl
    have F := F.setB (d := 42) rfl (decide_eq_true c42)
    have O : Own w0 [] [.row 3 1 (.slice P33 N33 C33) N33 ((LT es18 t18 es218).flatMap encInt), .row 3 1 (.slice P26 N26 C26) N26 ((LT es18 t18 es218).flatMap encInt), .row 3 1 (.slice (some ⟨b18, 0, none⟩) N18 C18) N18 (es18.flatMap encInt), .row 39 3 (.slice (some ⟨b218, 0, none⟩) N218 C218) N218 (es218.flatMap encUp)] w := O
    refine sp F (p_not rfl) rfl rfl fun a F => sp F (p_pick (t := false) rfl rfl) rfl rfl fun a F => sp F (p_move rfl) rfl rfl fun a F => sp F (p_move rfl) rfl rfl fun a F => ?_
    by_cases c46 : (((es18.length = 4 ∧ okIn (-1) (11) es18 = true) ∧ (0 ≤ t18 ∧ t18 ≤ 11)) ∧ (0 < es218.length ∧ upsB es218 = true)) ∧ FreeAll es18 es218 = true
    · have F := F.setB (d := 28) rfl (decide_eq_true c46)
      have F := F.setB (d := 7) rfl (decide_eq_true c46)
      have F := F.setB (d := 35) rfl (decide_eq_true c46)
      have F := F.setB (d := 9) rfl (decide_eq_true c46)
      have F := F.setB (d := 36) rfl (decide_eq_true c46)
      have F := F.setB (d := 37) rfl (decide_eq_true c46)
      have F := F.setB (d := 46) rfl (decide_eq_true c46)
      refine sp F (p_not rfl) rfl rfl fun a F => sp F (p_pick (t := false) rfl rfl) rfl rfl fun a F => c_nil (hK8 _ _ (?_))
      try clear hK8 K8
      refine c_iff F rfl (wp_skip (hK7 _ _ (?_)))
      try clear hK7 K7
      refine c_seq fun K9 hK9 => c_seq fun K10 hK10 => ?_
      have hLl := LT_len c46.1
      have h4 := c46.1.1.1.1
      refine c_region (sp F (p_assign rfl) rfl rfl fun a F => c_nil (hK10 _ _ (?_)))
      try clear hK10 K10
      refine wp_block (?_)
      refine c_loop (fun mm a w => ∃ (r : Int), mm = ((4 : Int) - r).toNat ∧ Has 110 [(0, .slice A cn cc), (15, .bool false), (3, .slice (some ⟨b18, 0, none⟩) N18 C18), (4, .int .i64 (t18)), (5, .slice (some ⟨b218, 0, none⟩) N218 C218), (6, .slice P26 N26 C26), (7, .bool true), (8, .slice P33 N33 C33), (9, .bool true), (48, .bool false), (10, .int .i64 (r))] a ∧ Own w0 [] [.row 3 1 (.slice P33 N33 C33) N33 ((LT es18 t18 es218).flatMap encInt), .row 3 1 (.slice P26 N26 C26) N26 ((LT es18 t18 es218).flatMap encInt), .row 3 1 (.slice (some ⟨b18, 0, none⟩) N18 C18) N18 (es18.flatMap encInt), .row 39 3 (.slice (some ⟨b218, 0, none⟩) N218 C218) N218 (es218.flatMap encUp)] w ∧ (0 ≤ r) ∧ (r ≤ 4)) ?_ ?_
      · have F : Has 110 [(0, .slice A cn cc), (15, .bool false), (3, .slice (some ⟨b18, 0, none⟩) N18 C18), (4, .int .i64 (t18)), (5, .slice (some ⟨b218, 0, none⟩) N218 C218), (6, .slice P26 N26 C26), (7, .bool true), (8, .slice P33 N33 C33), (9, .bool true), (48, .bool false), (10, .int .i64 (0))] a := F.pick ⟨rfl, rfl, rfl, rfl, rfl, rfl, rfl, rfl, rfl, rfl, rfl, trivial⟩
        exact ⟨((4 : Int) - 0).toNat, 0, rfl, F, O, by first | assumption | omega, by first | assumption | omega⟩
      · rintro mm a w ⟨r, rfl, F, O, hi0a, hi0b⟩
        refine c_seq fun K11 hK11 => c_seq fun K12 hK12 => c_region (sp F (p_move rfl) rfl rfl fun a F => sp F (p_lss rfl rfl) rfl rfl fun a F => c_nil (hK12 _ _ (?_)))
        try clear hK12 K12
        by_cases c58 : r < 4
        · have F := F.setB (d := 58) rfl (decide_eq_true c58)
          refine c_ift F rfl (wp_skip (hK11 _ _ (?_)))
          try clear hK11 K11
          refine c_seq fun K13 hK13 => wp_block (c_seq fun K14 hK14 => c_region (sp F (p_assign rfl) rfl rfl fun a F => c_nil (hK14 _ _ (?_))))
          try clear hK14 K14
          refine c_seq fun K15 hK15 => c_seq fun K16 hK16 => c_region (sp F (p_assign rfl) rfl rfl fun a F => c_nil (hK16 _ _ (?_)))
          try clear hK16 K16
          refine wp_block (?_)
          refine c_loop (fun mm a w => ∃ (j : Int), ∃ (bv : Bool), mm = ((N218 : Int) - j).toNat ∧ Has 110 [(0, .slice A cn cc), (15, .bool false), (3, .slice (some ⟨b18, 0, none⟩) N18 C18), (4, .int .i64 (t18)), (5, .slice (some ⟨b218, 0, none⟩) N218 C218), (6, .slice P26 N26 C26), (7, .bool true), (8, .slice P33 N33 C33), (9, .bool true), (48, .bool false), (10, .int .i64 (r)), (58, .bool true), (12, .int .i64 (j)), (11, .bool (bv))] a ∧ Own w0 [] [.row 3 1 (.slice P33 N33 C33) N33 ((LT es18 t18 es218).flatMap encInt), .row 3 1 (.slice P26 N26 C26) N26 ((LT es18 t18 es218).flatMap encInt), .row 3 1 (.slice (some ⟨b18, 0, none⟩) N18 C18) N18 (es18.flatMap encInt), .row 39 3 (.slice (some ⟨b218, 0, none⟩) N218 C218) N218 (es218.flatMap encUp)] w ∧ (0 ≤ j) ∧ (j ≤ N218) ∧ (bv = hasRef r (es218.take (j : Int).toNat))) ?_ ?_
          · have F := F.setV (d := 11) rfl (show Value.bool false = .bool (false) from by rfl)
            have F : Has 110 [(0, .slice A cn cc), (15, .bool false), (3, .slice (some ⟨b18, 0, none⟩) N18 C18), (4, .int .i64 (t18)), (5, .slice (some ⟨b218, 0, none⟩) N218 C218), (6, .slice P26 N26 C26), (7, .bool true), (8, .slice P33 N33 C33), (9, .bool true), (48, .bool false), (10, .int .i64 (r)), (58, .bool true), (12, .int .i64 (0)), (11, .bool (false))] a := F.pick ⟨rfl, rfl, rfl, rfl, rfl, rfl, rfl, rfl, rfl, rfl, rfl, rfl, rfl, rfl, trivial⟩
            exact ⟨((N218 : Int) - 0).toNat, 0, false, rfl, F, O, by first | assumption | omega, by first | assumption | omega, by rfl⟩
          · rintro mm a w ⟨j, bv, rfl, F, O, hi2a, hi2b, hi2c⟩
            refine c_seq fun K17 hK17 => c_seq fun K18 hK18 => c_region (sp F (p_move rfl) rfl rfl fun a F => sp F (p_move rfl) rfl rfl fun a F => sp F (p_len_l rfl Tryd.underlying28) rfl rfl fun a F => sp F (p_lss rfl rfl) rfl rfl fun a F => c_nil (hK18 _ _ (?_)))
            try clear hK18 K18
            by_cases c64 : j < (N218 : Int)
            · have F := F.setB (d := 64) rfl (decide_eq_true c64)
              refine c_ift F rfl (wp_skip (hK17 _ _ (?_)))
              try clear hK17 K17
              refine c_seq fun K19 hK19 => wp_block (c_region (sp F (p_move rfl) rfl rfl fun a F => sp F (p_move rfl) rfl rfl fun a F => ?_))
              by_cases c68 : bv = true
              · have F := F.setB (d := 11) rfl c68
                have F := F.setB (d := 67) rfl c68
                have F := F.setB (d := 68) rfl c68
                refine ss F rfl rfl fun a F => ss F rfl rfl fun a F => ss F rfl rfl fun a F => ss F rfl rfl fun a F => ss F rfl rfl fun a F => ss F rfl rfl fun a F => ss F rfl rfl fun a F => sp F (p_pick (t := true) rfl rfl) rfl rfl fun a F => sp F (p_assign rfl) rfl rfl fun a F => c_nil (hK19 _ _ (?_))
                try clear hK19 K19
                refine c_region (sp F (p_move rfl) rfl rfl fun a F => sp F (p_add rfl rfl (by omega) (by omega)) rfl rfl fun a F => sp F (p_assign rfl) rfl rfl fun a F => c_nil (?_))
                obtain ⟨v0, hv0⟩ := get_some (l := es218) (i := j) (by omega) (by omega)
                have F := F.setV (d := 11) rfl (show Value.bool true = .bool (true) from by rfl)
                have F : Has 110 [(0, .slice A cn cc), (15, .bool false), (3, .slice (some ⟨b18, 0, none⟩) N18 C18), (4, .int .i64 (t18)), (5, .slice (some ⟨b218, 0, none⟩) N218 C218), (6, .slice P26 N26 C26), (7, .bool true), (8, .slice P33 N33 C33), (9, .bool true), (48, .bool false), (10, .int .i64 (r)), (58, .bool true), (12, .int .i64 (j + 1)), (11, .bool (true))] a := F.pick ⟨rfl, rfl, rfl, rfl, rfl, rfl, rfl, rfl, rfl, rfl, rfl, rfl, rfl, rfl, trivial⟩
                exact ⟨((N218 : Int) - (j + 1)).toNat, by omega, (j + 1), true, rfl, F, O, by first | assumption | omega, by first | assumption | omega, by rw [hasRef_step hi2a hv0, ← hi2c]; first | (simp only [c68, Bool.true_or]; done) | (rw [hv0] at he71; injection he71 with h5; subst h5; rw [Bool.eq_false_iff.2 c68, Bool.false_or]; exact decide_eq_decide.2 ⟨Eq.symm, Eq.symm⟩)⟩
              · have F := F.setB (d := 11) rfl (Bool.eq_false_iff.2 c68)
                have F := F.setB (d := 67) rfl (Bool.eq_false_iff.2 c68)
                have F := F.setB (d := 68) rfl (Bool.eq_false_iff.2 c68)
                refine sp F (p_move rfl) rfl rfl fun a F => sp F (p_move rfl) rfl rfl fun a F => ?_
                obtain ⟨e71, he71⟩ := get_some (l := es218) (i := j) (by omega) (by first | omega | (simp; omega))
                refine sp F (p_iaddr rfl rfl Tryd.underlying28 Tryd.sz_39 (by omega) (by omega)) rfl rfl fun a F => sp F (p_faddr rfl Tryd.foff_39_0) rfl rfl fun a F => sp F (p_load rfl Tryd.agg_3 (fun _ h => (ld1 ((O.loadRow 3 rfl (flat_get0 encUp_len he71 rfl))) h))) rfl rfl fun a F => sp F (p_move rfl) rfl rfl fun a F => sp F (p_eql rfl rfl) rfl rfl fun a F => sp F (p_pick (t := false) rfl rfl) rfl rfl fun a F => sp F (p_assign rfl) rfl rfl fun a F => c_nil (hK19 _ _ (?_))
                try clear hK19 K19
                refine c_region (sp F (p_move rfl) rfl rfl fun a F => sp F (p_add rfl rfl (by omega) (by omega)) rfl rfl fun a F => sp F (p_assign rfl) rfl rfl fun a F => c_nil (?_))
                obtain ⟨v0, hv0⟩ := get_some (l := es218) (i := j) (by omega) (by omega)
                have F : Has 110 [(0, .slice A cn cc), (15, .bool false), (3, .slice (some ⟨b18, 0, none⟩) N18 C18), (4, .int .i64 (t18)), (5, .slice (some ⟨b218, 0, none⟩) N218 C218), (6, .slice P26 N26 C26), (7, .bool true), (8, .slice P33 N33 C33), (9, .bool true), (48, .bool false), (10, .int .i64 (r)), (58, .bool true), (12, .int .i64 (j + 1)), (11, .bool (decide (e71.1 = r)))] a := F.pick ⟨rfl, rfl, rfl, rfl, rfl, rfl, rfl, rfl, rfl, rfl, rfl, rfl, rfl, rfl, trivial⟩
                exact ⟨((N218 : Int) - (j + 1)).toNat, by omega, (j + 1), (decide (e71.1 = r)), rfl, F, O, by first | assumption | omega, by first | assumption | omega, by rw [hasRef_step hi2a hv0, ← hi2c]; first | (simp only [c68, Bool.true_or]; done) | (rw [hv0] at he71; injection he71 with h5; subst h5; rw [Bool.eq_false_iff.2 c68, Bool.false_or]; exact decide_eq_decide.2 ⟨Eq.symm, Eq.symm⟩)⟩
            · have F := F.setB (d := 64) rfl (decide_eq_false c64)
              refine c_iff F rfl (wp_exit (e_then (e_then (e_here (hK15 _ _ (?_))))))
              try clear hK15 K15
              refine c_seq fun K19 hK19 => ?_
              by_cases cc1 : bv = true
              · obtain ⟨e81, he81⟩ := get_some (l := es18) (i := r) (by omega) (by first | omega | (simp; omega))
                obtain ⟨b87, hp87⟩ := O.rowSome 1 rfl (by omega)
                rw [hp87] at O
                try rw [hp87] at F
                obtain ⟨e87, he87⟩ := get_some (l := LT es18 t18 es218) (i := r) (by omega) (by first | omega | (simp; omega))
                refine c_draw Tryd.mixed (SC [(b18, 0 + (r : Int).toNat * 1, .int .i64 (e81)), (b87, 0 + (r : Int).toNat * 1, .int .i64 (e87))]) [] _ (fun a w h => h) ?_
                have O := O.drawn (w.drawn + 1)
                generalize { w with drawn := w.drawn + 1 } = w at O ⊢
                have hS : SC [(b18, 0 + (r : Int).toNat * 1, .int .i64 (e81)), (b87, 0 + (r : Int).toNat * 1, .int .i64 (e87))] w := (SC.cons ((O.loadRow 2 rfl (flat_get0 encInt_len he81 rfl))) (SC.cons ((O.loadRow 1 rfl (flat_get0 encInt_len he87 rfl))) SC.nil))
                refine d_take 0 rfl (by kernel_rfl) F (p_move rfl) rfl rfl hS fun a F => ?_
                have F := F.setB (d := 11) rfl cc1
                have F := F.setB (d := 77) rfl cc1
                refine d_take 1 rfl (by kernel_rfl) F (p_move rfl) rfl rfl hS fun a F => d_take 2 rfl (by kernel_rfl) F (p_move rfl) rfl rfl hS fun a F => d_take 3 rfl (by kernel_rfl) F (p_move rfl) rfl rfl hS fun a F => d_take 4 rfl (by kernel_rfl) F (p_iaddr rfl rfl Tryd.underlying22 Tryd.sz_3 (by omega) (by omega)) rfl rfl hS fun a F => d_take 5 rfl (by kernel_rfl) F (p_load rfl Tryd.agg_3 (fun _ h => (SC.get h 0 rfl))) rfl rfl hS fun a F => d_take 6 rfl (by kernel_rfl) F (p_neq rfl rfl) rfl rfl hS fun a F => ?_
                have c83 : e81 = (-1) := by exact free_ref c46.2 he81 (by rw [take_all (by omega)] at hi2c; rw [← hi2c]; exact cc1)
                have F := F.setB (d := 83) rfl (decide_eq_false (fun h => h c83))
                refine d_take 7 rfl (by kernel_rfl) F (p_move rfl) rfl rfl hS fun a F => d_take 8 rfl (by kernel_rfl) F (p_move rfl) rfl rfl hS fun a F => d_take 9 rfl (by kernel_rfl) F (p_move rfl) rfl rfl hS fun a F => d_take 10 rfl (by kernel_rfl) F (p_iaddr rfl rfl Tryd.underlying22 Tryd.sz_3 (by omega) (by omega)) rfl rfl hS fun a F => d_take 11 rfl (by kernel_rfl) F (p_load rfl Tryd.agg_3 (fun _ h => (SC.get h 1 rfl))) rfl rfl hS fun a F => d_take 12 rfl (by kernel_rfl) F (p_move rfl) rfl rfl hS fun a F => d_take 13 rfl (by kernel_rfl) F (p_neq rfl rfl) rfl rfl hS fun a F => ?_
                have c90 : e87 = t18 := by exact LT_in c46.1 c46.2 hi0a he81 he87 (by rw [take_all (by omega)] at hi2c; rw [← hi2c]; exact cc1)
                have F := F.setB (d := 90) rfl (decide_eq_false (fun h => h c90))
                refine d_take 14 rfl (by kernel_rfl) F (p_pick (t := false) rfl rfl) rfl rfl hS fun a F => d_take 15 rfl (by kernel_rfl) F (p_pick (t := true) rfl rfl) rfl rfl hS fun a F => d_take 16 rfl (by kernel_rfl) F (p_move rfl) rfl rfl hS fun a F => d_take 17 rfl (by kernel_rfl) F (p_move rfl) rfl rfl hS fun a F => d_take 18 rfl (by kernel_rfl) F (p_not rfl) rfl rfl hS fun a F => d_take 19 rfl (by kernel_rfl) F (p_move rfl) rfl rfl hS fun a F => d_skip 20 rfl (by kernel_rfl) F rfl rfl hS fun a F => d_skip 21 rfl (by kernel_rfl) F rfl rfl hS fun a F => d_skip 22 rfl (by kernel_rfl) F rfl rfl hS fun a F => d_skip 23 rfl (by kernel_rfl) F rfl rfl hS fun a F => d_skip 24 rfl (by kernel_rfl) F rfl rfl hS fun a F => d_skip 25 rfl (by kernel_rfl) F rfl rfl hS fun a F => d_skip 26 rfl (by kernel_rfl) F rfl rfl hS fun a F => ?_
                refine d_skip 27 rfl (by kernel_rfl) F rfl rfl hS fun a F => d_skip 28 rfl (by kernel_rfl) F rfl rfl hS fun a F => d_take 29 rfl (by kernel_rfl) F (p_pick (t := false) rfl rfl) rfl rfl hS fun a F => d_take 30 rfl (by kernel_rfl) F (p_pick (t := false) rfl rfl) rfl rfl hS fun a F => d_done (by kernel_rfl) (hK19 _ _ (?_))
                try clear hK19 K19
                refine c_iff F rfl (wp_skip (hK13 _ _ (?_)))
                try clear hK13 K13
                refine c_region (sp F (p_move rfl) rfl rfl fun a F => sp F (p_add rfl rfl (by omega) (by omega)) rfl rfl fun a F => sp F (p_assign rfl) rfl rfl fun a F => c_nil (?_))
                try rw [← hp87] at F
                try rw [← hp87] at O
                have F : Has 110 [(0, .slice A cn cc), (15, .bool false), (3, .slice (some ⟨b18, 0, none⟩) N18 C18), (4, .int .i64 (t18)), (5, .slice (some ⟨b218, 0, none⟩) N218 C218), (6, .slice P26 N26 C26), (7, .bool true), (8, .slice P33 N33 C33), (9, .bool true), (48, .bool false), (10, .int .i64 (r + 1))] a := F.pick ⟨rfl, rfl, rfl, rfl, rfl, rfl, rfl, rfl, rfl, rfl, rfl, trivial⟩
                exact ⟨((4 : Int) - (r + 1)).toNat, by omega, (r + 1), rfl, F, O, by first | assumption | omega, by first | assumption | omega⟩
              · obtain ⟨b99, hp99⟩ := O.rowSome 1 rfl (by omega)
                rw [hp99] at O
                try rw [hp99] at F
                obtain ⟨e99, he99⟩ := get_some (l := LT es18 t18 es218) (i := r) (by omega) (by first | omega | (simp; omega))
                obtain ⟨e103, he103⟩ := get_some (l := es18) (i := r) (by omega) (by first | omega | (simp; omega))
                refine c_draw Tryd.mixed (SC [(b99, 0 + (r : Int).toNat * 1, .int .i64 (e99)), (b18, 0 + (r : Int).toNat * 1, .int .i64 (e103))]) [] _ (fun a w h => h) ?_
                have O := O.drawn (w.drawn + 1)
                generalize { w with drawn := w.drawn + 1 } = w at O ⊢
                have hS : SC [(b99, 0 + (r : Int).toNat * 1, .int .i64 (e99)), (b18, 0 + (r : Int).toNat * 1, .int .i64 (e103))] w := (SC.cons ((O.loadRow 1 rfl (flat_get0 encInt_len he99 rfl))) (SC.cons ((O.loadRow 2 rfl (flat_get0 encInt_len he103 rfl))) SC.nil))
                refine d_take 0 rfl (by kernel_rfl) F (p_move rfl) rfl rfl hS fun a F => ?_
                have F := F.setB (d := 11) rfl (Bool.eq_false_iff.2 cc1)
                have F := F.setB (d := 77) rfl (Bool.eq_false_iff.2 cc1)
                refine d_take 1 rfl (by kernel_rfl) F (p_move rfl) rfl rfl hS fun a F => d_skip 2 rfl (by kernel_rfl) F rfl rfl hS fun a F => d_skip 3 rfl (by kernel_rfl) F rfl rfl hS fun a F => d_skip 4 rfl (by kernel_rfl) F rfl rfl hS fun a F => d_skip 5 rfl (by kernel_rfl) F rfl rfl hS fun a F => d_skip 6 rfl (by kernel_rfl) F rfl rfl hS fun a F => d_skip 7 rfl (by kernel_rfl) F rfl rfl hS fun a F => d_skip 8 rfl (by kernel_rfl) F rfl rfl hS fun a F => d_skip 9 rfl (by kernel_rfl) F rfl rfl hS fun a F => d_skip 10 rfl (by kernel_rfl) F rfl rfl hS fun a F => d_skip 11 rfl (by kernel_rfl) F rfl rfl hS fun a F => d_skip 12 rfl (by kernel_rfl) F rfl rfl hS fun a F => d_skip 13 rfl (by kernel_rfl) F rfl rfl hS fun a F => ?_
                refine d_skip 14 rfl (by kernel_rfl) F rfl rfl hS fun a F => d_take 15 rfl (by kernel_rfl) F (p_pick (t := false) rfl rfl) rfl rfl hS fun a F => d_take 16 rfl (by kernel_rfl) F (p_move rfl) rfl rfl hS fun a F => d_take 17 rfl (by kernel_rfl) F (p_move rfl) rfl rfl hS fun a F => d_take 18 rfl (by kernel_rfl) F (p_not rfl) rfl rfl hS fun a F => d_take 19 rfl (by kernel_rfl) F (p_move rfl) rfl rfl hS fun a F => d_take 20 rfl (by kernel_rfl) F (p_move rfl) rfl rfl hS fun a F => d_take 21 rfl (by kernel_rfl) F (p_move rfl) rfl rfl hS fun a F => d_take 22 rfl (by kernel_rfl) F (p_iaddr rfl rfl Tryd.underlying22 Tryd.sz_3 (by omega) (by omega)) rfl rfl hS fun a F => d_take 23 rfl (by kernel_rfl) F (p_load rfl Tryd.agg_3 (fun _ h => (SC.get h 0 rfl))) rfl rfl hS fun a F => d_take 24 rfl (by kernel_rfl) F (p_move rfl) rfl rfl hS fun a F => d_take 25 rfl (by kernel_rfl) F (p_move rfl) rfl rfl hS fun a F => d_take 26 rfl (by kernel_rfl) F (p_iaddr rfl rfl Tryd.underlying22 Tryd.sz_3 (by omega) (by omega)) rfl rfl hS fun a F => ?_
                refine d_take 27 rfl (by kernel_rfl) F (p_load rfl Tryd.agg_3 (fun _ h => (SC.get h 1 rfl))) rfl rfl hS fun a F => d_take 28 rfl (by kernel_rfl) F (p_neq rfl rfl) rfl rfl hS fun a F => ?_
                have c105 : e99 = e103 := by exact LT_out c46.1 c46.2 hi0a he103 he99 (by rw [take_all (by omega)] at hi2c; rw [← hi2c]; exact cc1)
                have F := F.setB (d := 105) rfl (decide_eq_false (fun h => h c105))
                refine d_take 29 rfl (by kernel_rfl) F (p_pick (t := true) rfl rfl) rfl rfl hS fun a F => d_take 30 rfl (by kernel_rfl) F (p_pick (t := false) rfl rfl) rfl rfl hS fun a F => d_done (by kernel_rfl) (hK19 _ _ (?_))
                try clear hK19 K19
                refine c_iff F rfl (wp_skip (hK13 _ _ (?_)))
                try clear hK13 K13
                refine c_region (sp F (p_move rfl) rfl rfl fun a F => sp F (p_add rfl rfl (by omega) (by omega)) rfl rfl fun a F => sp F (p_assign rfl) rfl rfl fun a F => c_nil (?_))
                try rw [← hp99] at F
                try rw [← hp99] at O
                have F : Has 110 [(0, .slice A cn cc), (15, .bool false), (3, .slice (some ⟨b18, 0, none⟩) N18 C18), (4, .int .i64 (t18)), (5, .slice (some ⟨b218, 0, none⟩) N218 C218), (6, .slice P26 N26 C26), (7, .bool true), (8, .slice P33 N33 C33), (9, .bool true), (48, .bool false), (10, .int .i64 (r + 1))] a := F.pick ⟨rfl, rfl, rfl, rfl, rfl, rfl, rfl, rfl, rfl, rfl, rfl, trivial⟩
                exact ⟨((4 : Int) - (r + 1)).toNat, by omega, (r + 1), rfl, F, O, by first | assumption | omega, by first | assumption | omega⟩
        · have F := F.setB (d := 58) rfl (decide_eq_false c58)
          refine c_iff F rfl (wp_exit (e_then (e_then (e_here (hK9 _ _ (?_))))))
          try clear hK9 K9
          refine c_seq fun K13 hK13 => c_region (sp F (p_move rfl) rfl rfl fun a F => so F rfl (o_call (vs := #[.slice P26 N26 C26]) F Tryd.en_18 rfl rfl ((iLocksValid_ok P26 N26 C26 (LT es18 t18 es218) w (O.arr 1 (es := LT es18 t18 es218) rfl encInt_len (by decide)) (by first | omega | (simp; done) | (simp; omega) | (simp at *; omega)) (by omega)).mono ?_)))
          rintro e w ⟨rfl, K⟩
          refine ⟨_, rfl, fun a F => ?_⟩
          have O : Own w0 [] [.row 3 1 (.slice P33 N33 C33) N33 ((LT es18 t18 es218).flatMap encInt), .row 3 1 (.slice P26 N26 C26) N26 ((LT es18 t18 es218).flatMap encInt), .row 3 1 (.slice (some ⟨b18, 0, none⟩) N18 C18) N18 (es18.flatMap encInt), .row 39 3 (.slice (some ⟨b218, 0, none⟩) N218 C218) N218 (es218.flatMap encUp)] w := O.call0 K
          clear K
          have c109 : (LT es18 t18 es218).length = 4 ∧ okIn (-1) (11) (LT es18 t18 es218) = true := by exact LT_valid c46.1 c46.2
          have F := F.setB (d := 109) rfl (decide_eq_true c109)
          have O : Own w0 [] [.row 3 1 (.slice P33 N33 C33) N33 ((LT es18 t18 es218).flatMap encInt), .row 3 1 (.slice P26 N26 C26) N26 ((LT es18 t18 es218).flatMap encInt), .row 3 1 (.slice (some ⟨b18, 0, none⟩) N18 C18) N18 (es18.flatMap encInt), .row 39 3 (.slice (some ⟨b218, 0, none⟩) N218 C218) N218 (es218.flatMap encUp)] w := O
          refine sp F (p_assign rfl) rfl rfl fun a F => c_nil (hK13 _ _ (?_))
          try clear hK13 K13
          refine wp_ret (ret1 F rfl rfl (?_))
          have O : Own w0 [] [] w := (O.take 0)
          exact ⟨rfl, O⟩
    · have F := F.setB (d := 28) rfl (decide_eq_false c46)
      have F := F.setB (d := 7) rfl (decide_eq_false c46)
      have F := F.setB (d := 35) rfl (decide_eq_false c46)
      have F := F.setB (d := 9) rfl (decide_eq_false c46)
      have F := F.setB (d := 36) rfl (decide_eq_false c46)
      have F := F.setB (d := 37) rfl (decide_eq_false c46)
      have F := F.setB (d := 46) rfl (decide_eq_false c46)
      refine sp F (p_not rfl) rfl rfl fun a F => sp F (p_pick (t := false) rfl rfl) rfl rfl fun a F => c_nil (hK8 _ _ (?_))
      try clear hK8 K8
      refine c_ift F rfl (c_seq fun K9 hK9 => c_region (sp F (p_move rfl) rfl rfl fun a F => sp F (p_move rfl) rfl rfl fun a F => sp F (p_beqL rfl rfl Tryd.underlying4 true (by rfl)) rfl rfl fun a F => sp F (p_move rfl) rfl rfl fun a F => sp F (p_move rfl) rfl rfl fun a F => sp F (p_move rfl) rfl rfl fun a F => so F rfl (o_call (vs := #[.slice P26 N26 C26, .slice P33 N33 C33]) F Tryd.en_17 rfl rfl ((sameInts_ok P26 N26 C26 (LT es18 t18 es218) P33 N33 C33 (LT es18 t18 es218) w (O.arr 1 (es := LT es18 t18 es218) rfl encInt_len (by decide)) (by first | omega | (simp; done) | (simp; omega) | (simp at *; omega)) (by omega) (O.arr 0 (es := LT es18 t18 es218) rfl encInt_len (by decide)) (by first | omega | (simp; done) | (simp; omega) | (simp at *; omega)) (by omega)).mono ?_))))
      rintro e w ⟨rfl, K⟩
      refine ⟨_, rfl, fun a F => ?_⟩
      have O : Own w0 [] [.row 3 1 (.slice P33 N33 C33) N33 ((LT es18 t18 es218).flatMap encInt), .row 3 1 (.slice P26 N26 C26) N26 ((LT es18 t18 es218).flatMap encInt), .row 3 1 (.slice (some ⟨b18, 0, none⟩) N18 C18) N18 (es18.flatMap encInt), .row 39 3 (.slice (some ⟨b218, 0, none⟩) N218 C218) N218 (es218.flatMap encUp)] w := O.call0 K
      clear K
      have F := F.setB (d := 55) rfl (decide_eq_true c42)
      have O : Own w0 [] [.row 3 1 (.slice P33 N33 C33) N33 ((LT es18 t18 es218).flatMap encInt), .row 3 1 (.slice P26 N26 C26) N26 ((LT es18 t18 es218).flatMap encInt), .row 3 1 (.slice (some ⟨b18, 0, none⟩) N18 C18) N18 (es18.flatMap encInt), .row 39 3 (.slice (some ⟨b218, 0, none⟩) N218 C218) N218 (es218.flatMap encUp)] w := O
      refine sp F (p_pick (t := true) rfl rfl) rfl rfl fun a F => sp F (p_assign rfl) rfl rfl fun a F => c_nil (hK9 _ _ (?_))
      try clear hK9 K9
      refine wp_ret (r_then (ret1 F rfl rfl (?_)))
      have O : Own w0 [] [] w := (O.take 0)
      exact ⟨rfl, O⟩

set_option maxRecDepth 100000 in
theorem take_lifted (os : Os) (started : os.Started) (H : Type) (enc : TypeId × Value → H) :
    ReturnsInHanded {} Tryd.checked os 4 .any (fun w args => (Rows.fnTakeSpec.pre enc Tryd.prog Tryd.f4 [] false w args ∧ laidMet Tryd.prog laidList w) ∧ sizedMet enc Tryd.prog Tryd.f4 (OpenSpec.ofChange Rows.fnTakeSpec) false w args)
      (Rows.fnTakeSpec.post enc Tryd.prog Tryd.f4 false true false false) := by
  refine lifted_laid started (by kernel_rfl) Tryd.func4 rfl ?_ (by kernel_rfl) (by kernel_rfl)
    (ChangeSpec.witness_at (enc := enc) (C := Tryd.checked) (os := os) (X := fun w _ => laidMet Tryd.prog laidList w) false (laidWorld os) #[.slice none 0 0] 8 rfl (by kernel_rfl) (by kernel_rfl) (by kernel_rfl) (by kernel_rfl) (by kernel_rfl) (laidWorld_met os _)) ?_
  · intro ds g hds
    match ds, hds with
    | [_], _ => rfl
  intro W base args ds p a0 hval0 hA0 hm hl
  have hval : ∀ (j : Nat) t v, Tryd.f4.params[j]? = some t → args[j]? = some v → Value.okWide Tryd.prog W .any base t v := hval0
  have hA : DataW.TrodAll enc Tryd.prog W 0 (fun _ => true) true Tryd.f4.params.toList args.toList ds p := hA0
  clear hA0 hval0
  show Calls Tryd.prog 4 args W _
  rw [Tryd.params4] at hA hval
  obtain ⟨v0, d0, hargs, rfl, h0⟩ := trodAll_one hA
  obtain rfl : args = #[v0] := by cases args; simp_all
  obtain ⟨a, n, c, rfl, hC⟩ := open_codeIn (hval 0 35 v0 rfl rfl) h0
  exact (take_ok a n c a0 W hC hl hm).mono fun e w' h => ⟨h.1, h.2.below⟩

theorem take_pkg : ¬ Check.packageOf Tryd.f4.name = "main" := by
  intro h
  have h2 := congrArg String.toList h
  simp only [Check.packageOf, Tryd.f4] at h2
  simp at h2
theorem take_closed : lawFacts Tryd.prog 4 Tryd.f4 Rows.fnTakeSpec Rows.fnTakeRow = true := by kernel_rfl
theorem take_facts : joinedFacts Tryd.pinned.checked.prog 4 Tryd.f4 Rows.fnTakeSpec Rows.fnTakeRow = true := facts_of (P := Tryd.prog) Tryd.facts take_closed
theorem take_wrap : Func.isWrapper Tryd.pinned.checked.prog Tryd.f4 Rows.fnTakeRow.wrapper Rows.fnTakeRow.mainSum := by
  have e1 : Rows.fnTakeRow.wrapper = false := rfl
  have e2 : Rows.fnTakeRow.mainSum = "" := rfl
  rw [e1, e2]
  exact wrapper_of Tryd.pinned.checked.prog Tryd.f4 take_pkg

/-- The row's statement. -/
theorem take_row : Rows.FnTakeSaid :=
  OpenClaim.holds_of_wide 4 Tryd.f4 rfl rfl rfl rfl rfl rfl rfl ⟨rfl, rfl, rfl, rfl, rfl⟩ rfl rfl rfl rfl rfl (by kernel_rfl) Tryd.func4 take_facts
    (of_decide_eq_true (by kernel_rfl)) take_wrap
    (fun os started H enc _ => take_lifted os started H enc)

/-- The card. -/
theorem take_card : Rows.FnTakeCardSaid :=
  Claim7.holds_tied_plain_at .later [] [.sentinel] true (true, "c717c8195f219aaf927d0a0cab96f2e152b24509bb0c3ef00b87cd3ed97c83eb") true
    take_row (fun _ h => by cases h) (by kernel_rfl) (fun _ h => by cases h) fnTake_row_tie rfl ⟨rfl, rfl⟩ (by kernel_rfl) rfl
    (fun f fn hf hfn => by
      obtain rfl : f = 4 := Option.some.inj ((show Tryd.prog.funcNamed "loop.example/atomicpush/laws.FnTake" = some 4 by kernel_rfl).symm.trans hf) |>.symm
      obtain rfl : fn = Tryd.f4 := (Option.some.inj (Tryd.func4.symm.trans hfn)).symm
      exact ⟨by kernel_rfl, fun j t ht => by
        rw [Tryd.params4] at ht
        rcases j with _ | _ | _ | j <;> simp at ht <;> subst ht <;> kernel_rfl⟩)
    (by kernel_rfl)
#print axioms take_card
end Go.Proofs.YtilpbddeijolbaaDoor
