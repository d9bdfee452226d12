/- Every locked ref has one owner: the law FnLocksOf returns true. No conditions. -/
import Derived.Test.YtilpbddeijolbaaRefE
import Derived.Test.YtilpbddeijolbaaRefL
import Derived.Test.YtilpbddeijolbaaOpenC
namespace Go.Proofs.Ytilpbddeijolbaa
open Go.ChangeShapes Go.WideShapes Go.ChangeAt Go.RowKit
set_option linter.unusedVariables false
set_option linter.unusedSimpArgs false

set_option maxRecDepth 100000 in
/-- laws.FnLocksOf -/
theorem locksOf_ok (A : Option Addr) (cn : Nat) (cc : Nat) (w0 : World) (hC : CodeIn w0 A cn cc) :
    Calls Try.prog 8 #[.slice A cn cc] w0 fun e w => e = .returned (.bool true) ∧ Own w0 [] [] w := by
  have O := Own.start w0
  have hcc : (cn : Int) ≤ cc := by have := hC.1; omega
  have hcm : (cc : Int) ≤ 9223372036854775807 := by have := hC.2.1; unfold maxLen at this; omega
  refine enterO (n := 57) Try.func8 rfl rfl rfl O fun a w F O => ?_
  refine c_seq fun K1 hK1 => c_region (sp F (p_assign rfl) rfl rfl fun a F => c_nil (hK1 _ _ (?_)))
  try clear hK1 K1
  refine c_seq fun K2 hK2 => c_seq fun K3 hK3 => c_region (sp F (p_move rfl) rfl rfl fun a F => sp F (p_len_l rfl Try.underlying26) rfl rfl fun a F => sp F (p_gtr rfl rfl) rfl rfl fun a F => c_nil (hK3 _ _ (?_)))
  try clear hK3 K3
  by_cases c11 : 1048576 < (cn : Int)
  · have F := F.setB (d := 11) rfl (decide_eq_true c11)
    refine c_ift F rfl (c_seq fun K4 hK4 => c_region (sp F (p_assign rfl) rfl rfl fun a F => c_nil (hK4 _ _ (?_))))
    try clear hK4 K4
    refine wp_ret (r_then (ret1 F rfl rfl (?_)))
    exact ⟨rfl, O⟩
  · have F := F.setB (d := 11) rfl (decide_eq_false c11)
    refine c_iff F rfl (wp_skip (hK2 _ _ (?_)))
    try clear hK2 K2
    refine c_seq fun K4 hK4 => c_region (sp F (p_move rfl) rfl rfl fun a F => so F rfl (o_call (vs := #[.slice A cn cc]) F Try.en_33 rfl rfl ((dLocksValid_ok A cn cc w (hC.keep O)).mono ?_)))
    rintro e w ⟨b13, N13, C13, es13, rfl, h13a, h13b, K⟩
    refine ⟨_, rfl, fun a F => ?_⟩
    have O : Own w0 [] [.row 3 1 (.slice (some ⟨b13, 0, none⟩) N13 C13) N13 (es13.flatMap encInt)] w := O.call0 K
    clear K
    have O : Own w0 [] [.row 3 1 (.slice (some ⟨b13, 0, none⟩) N13 C13) N13 (es13.flatMap encInt)] w := O
    refine sp F (p_assign rfl) rfl rfl fun a F => c_nil (hK4 _ _ (?_))
    try clear hK4 K4
    refine c_seq fun K5 hK5 => c_region (sp F (p_move rfl) rfl rfl fun a F => so F rfl (o_call (vs := #[.slice (some ⟨b13, 0, none⟩) N13 C13]) F Try.en_19 rfl rfl ((iLocksValid_ok (some ⟨b13, 0, none⟩) N13 C13 es13 w (O.arr 0 (es := es13) rfl encInt_len (by decide)) (by first | omega | (simp; done) | (simp; omega) | (simp at *; omega)) (by omega)).mono ?_)))
    rintro e w ⟨rfl, K⟩
    refine ⟨_, rfl, fun a F => ?_⟩
    have O : Own w0 [] [.row 3 1 (.slice (some ⟨b13, 0, none⟩) N13 C13) N13 (es13.flatMap encInt)] w := O.call0 K
    clear K
    have O : Own w0 [] [.row 3 1 (.slice (some ⟨b13, 0, none⟩) N13 C13) N13 (es13.flatMap encInt)] w := O
    refine sp F (p_assign rfl) rfl rfl fun a F => c_nil (hK5 _ _ (?_))
    try clear hK5 K5
    refine c_seq fun K6 hK6 => c_region (sp F (p_move rfl) rfl rfl fun a F => so F rfl (o_call (vs := #[.slice (some ⟨b13, 0, none⟩) N13 C13]) F Try.en_17 rfl rfl ((sLocksValid_ok (some ⟨b13, 0, none⟩) N13 C13 es13 w (O.arr 0 (es := es13) rfl encInt_len (by decide)) (by first | omega | (simp; done) | (simp; omega) | (simp at *; omega)) (by omega)).mono ?_)))
    rintro e w ⟨rfl, K⟩
    refine ⟨_, rfl, fun a F => ?_⟩
    have O : Own w0 [] [.row 3 1 (.slice (some ⟨b13, 0, none⟩) N13 C13) N13 (es13.flatMap encInt)] w := O.call0 K
    clear K
    have O : Own w0 [] [.row 3 1 (.slice (some ⟨b13, 0, none⟩) N13 C13) N13 (es13.flatMap encInt)] w := O
    refine sp F (p_assign rfl) rfl rfl fun a F => c_nil (hK6 _ _ (?_))
    try clear hK6 K6
    refine c_seq fun K7 hK7 => c_seq fun K8 hK8 => c_region (sp F (p_move rfl) rfl rfl fun a F => sp F (p_move rfl) rfl rfl fun a F => sp F (p_bneL rfl rfl Try.underlying4 false (by simp)) rfl rfl fun a F => sp F (p_move rfl) rfl rfl fun a F => sp F (p_move rfl) rfl rfl fun a F => ?_)
    by_cases c22 : es13.length = 4 ∧ okIn (-1) (11) es13 = true
    · have F := F.setB (d := 15) rfl (decide_eq_true c22)
      have F := F.setB (d := 4) rfl (decide_eq_true c22)
      have F := F.setB (d := 17) rfl (decide_eq_true c22)
      have F := F.setB (d := 5) rfl (decide_eq_true c22)
      have F := F.setB (d := 18) rfl (decide_eq_true c22)
      have F := F.setB (d := 19) rfl (decide_eq_true c22)
      have F := F.setB (d := 22) rfl (decide_eq_true c22)
      refine sp F (p_not rfl) rfl rfl fun a F => sp F (p_pick (t := false) rfl rfl) rfl rfl fun a F => c_nil (hK8 _ _ (?_))
      try clear hK8 K8
      refine c_iff F rfl (wp_skip (hK7 _ _ (?_)))
      try clear hK7 K7
      refine c_seq fun K9 hK9 => c_seq fun K10 hK10 => c_region (sp F (p_assign rfl) rfl rfl fun a F => c_nil (hK10 _ _ (?_)))
      try clear hK10 K10
      refine wp_block (?_)
      refine c_loop (fun mm a w => ∃ (r : Int), mm = ((N13 : Int) - r).toNat ∧ Has 57 [(0, .slice A cn cc), (11, .bool false), (3, .slice (some ⟨b13, 0, none⟩) N13 C13), (4, .bool true), (5, .bool true), (24, .bool false), (6, .int .i64 (r))] a ∧ Own w0 [] [.row 3 1 (.slice (some ⟨b13, 0, none⟩) N13 C13) N13 (es13.flatMap encInt)] w ∧ (0 ≤ r) ∧ (r ≤ N13)) ?_ ?_
      · have F : Has 57 [(0, .slice A cn cc), (11, .bool false), (3, .slice (some ⟨b13, 0, none⟩) N13 C13), (4, .bool true), (5, .bool true), (24, .bool false), (6, .int .i64 (0))] a := F.pick ⟨rfl, rfl, rfl, rfl, rfl, rfl, rfl, trivial⟩
        exact ⟨((N13 : Int) - 0).toNat, 0, rfl, F, O, by first | assumption | omega, by first | assumption | omega⟩
      · rintro mm a w ⟨r, rfl, F, O, hi0a, hi0b⟩
        refine c_seq fun K11 hK11 => c_seq fun K12 hK12 => c_region (sp F (p_move rfl) rfl rfl fun a F => sp F (p_move rfl) rfl rfl fun a F => sp F (p_len_l rfl Try.underlying22) rfl rfl fun a F => sp F (p_lss rfl rfl) rfl rfl fun a F => c_nil (hK12 _ _ (?_)))
        try clear hK12 K12
        by_cases c31 : r < (N13 : Int)
        · have F := F.setB (d := 31) rfl (decide_eq_true c31)
          refine c_ift F rfl (wp_skip (hK11 _ _ (?_)))
          try clear hK11 K11
          refine c_seq fun K13 hK13 => wp_block (c_seq fun K14 hK14 => c_region (sp F (p_assign rfl) rfl rfl fun a F => c_nil (hK14 _ _ (?_))))
          try clear hK14 K14
          refine c_seq fun K15 hK15 => c_seq fun K16 hK16 => c_region (sp F (p_assign rfl) rfl rfl fun a F => c_nil (hK16 _ _ (?_)))
          try clear hK16 K16
          refine wp_block (?_)
          refine c_loop (fun mm a w => ∃ (j : Int), ∃ (m : Int), mm = ((12 : Int) - j).toNat ∧ Has 57 [(0, .slice A cn cc), (11, .bool false), (3, .slice (some ⟨b13, 0, none⟩) N13 C13), (4, .bool true), (5, .bool true), (24, .bool false), (6, .int .i64 (r)), (31, .bool true), (8, .int .i64 (j)), (7, .int .i64 (m))] a ∧ Own w0 [] [.row 3 1 (.slice (some ⟨b13, 0, none⟩) N13 C13) N13 (es13.flatMap encInt)] w ∧ (0 ≤ j) ∧ (j ≤ 12) ∧ (0 ≤ m ∧ m ≤ 1) ∧ (∀ e0, es13[(r : Int).toNat]? = some e0 → (m = 1 ↔ 0 ≤ e0 ∧ e0 < j))) ?_ ?_
          · have F : Has 57 [(0, .slice A cn cc), (11, .bool false), (3, .slice (some ⟨b13, 0, none⟩) N13 C13), (4, .bool true), (5, .bool true), (24, .bool false), (6, .int .i64 (r)), (31, .bool true), (8, .int .i64 (0)), (7, .int .i64 (0))] a := F.pick ⟨rfl, rfl, rfl, rfl, rfl, rfl, rfl, rfl, rfl, rfl, trivial⟩
            exact ⟨((12 : Int) - 0).toNat, 0, 0, rfl, F, O, by first | assumption | omega, by first | assumption | omega, by first | assumption | omega, by exact fun e0 _ => by omega⟩
          · rintro mm a w ⟨j, m, rfl, F, O, hi2a, hi2b, hi2c, hi2d⟩
            refine c_seq fun K17 hK17 => c_seq fun K18 hK18 => c_region (sp F (p_move rfl) rfl rfl fun a F => sp F (p_lss rfl rfl) rfl rfl fun a F => c_nil (hK18 _ _ (?_)))
            try clear hK18 K18
            by_cases c35 : j < 12
            · have F := F.setB (d := 35) rfl (decide_eq_true c35)
              refine c_ift F rfl (wp_skip (hK17 _ _ (?_)))
              try clear hK17 K17
              refine c_seq fun K19 hK19 => wp_block (c_seq fun K20 hK20 => c_region (sp F (p_move rfl) rfl rfl fun a F => sp F (p_move rfl) rfl rfl fun a F => so F rfl (o_call (vs := #[.slice (some ⟨b13, 0, none⟩) N13 C13, .int .i64 (j)]) F Try.en_30 rfl rfl ((iLocksOf_ok (some ⟨b13, 0, none⟩) N13 C13 es13 j w (O.arr 0 (es := es13) rfl encInt_len (by decide)) (by first | omega | (simp; done) | (simp; omega) | (simp at *; omega)) (by omega)).mono ?_))))
              rintro e w ⟨P40, N40, C40, rfl, h40a, h40b, K⟩
              refine ⟨_, rfl, fun a F => ?_⟩
              have O : Own w0 [] [.row 3 1 (.slice P40 N40 C40) N40 ((LO es13 j).flatMap encInt), .row 3 1 (.slice (some ⟨b13, 0, none⟩) N13 C13) N13 (es13.flatMap encInt)] w := O.call0 K
              clear K
              have O : Own w0 [] [.row 3 1 (.slice P40 N40 C40) N40 ((LO es13 j).flatMap encInt), .row 3 1 (.slice (some ⟨b13, 0, none⟩) N13 C13) N13 (es13.flatMap encInt)] w := O
              refine sp F (p_move rfl) rfl rfl fun a F => so F rfl (o_call (vs := #[.slice P40 N40 C40, .int .i64 (r)]) F Try.en_34 rfl rfl ((hasInt_ok P40 N40 C40 (LO es13 j) r w (O.arr 0 (es := LO es13 j) rfl encInt_len (by decide)) (by first | omega | (simp; done) | (simp; omega) | (simp at *; omega)) (by omega)).mono ?_))
              rintro e w ⟨rfl, K⟩
              refine ⟨_, rfl, fun a F => ?_⟩
              have O : Own w0 [] [.row 3 1 (.slice P40 N40 C40) N40 ((LO es13 j).flatMap encInt), .row 3 1 (.slice (some ⟨b13, 0, none⟩) N13 C13) N13 (es13.flatMap encInt)] w := O.call0 K
              clear K
              have O : Own w0 [] [.row 3 1 (.slice P40 N40 C40) N40 ((LO es13 j).flatMap encInt), .row 3 1 (.slice (some ⟨b13, 0, none⟩) N13 C13) N13 (es13.flatMap encInt)] w := O
              refine c_nil (hK20 _ _ (?_))
              try clear hK20 K20
              by_cases c42 : hasI r (LO es13 j) = true
              · have F := F.setB (d := 42) rfl (decide_eq_true c42)
                refine c_ift F rfl (c_region (sp F (p_move rfl) rfl rfl fun a F => sp F (p_add rfl rfl (by omega) (by omega)) rfl rfl fun a F => sp F (p_assign rfl) rfl rfl fun a F => c_nil (hK19 _ _ (?_))))
                try clear hK19 K19
                refine c_region (sp F (p_move rfl) rfl rfl fun a F => sp F (p_add rfl rfl (by omega) (by omega)) rfl rfl fun a F => sp F (p_assign rfl) rfl rfl fun a F => c_nil (?_))
                obtain ⟨e0, he0⟩ := get_some (l := es13) (i := r) (by omega) (by omega)
                have hV : LVal es13 j := ⟨c22, by omega⟩
                have hLO := LO_has' hV hi0a he0
                have hme := hi2d e0 he0
                have F : Has 57 [(0, .slice A cn cc), (11, .bool false), (3, .slice (some ⟨b13, 0, none⟩) N13 C13), (4, .bool true), (5, .bool true), (24, .bool false), (6, .int .i64 (r)), (31, .bool true), (8, .int .i64 (j + 1)), (7, .int .i64 (m + 1))] a := F.pick ⟨rfl, rfl, rfl, rfl, rfl, rfl, rfl, rfl, rfl, rfl, trivial⟩
                have O : Own w0 [] [.row 3 1 (.slice (some ⟨b13, 0, none⟩) N13 C13) N13 (es13.flatMap encInt)] w := ((O.pull 1 rfl).take 1)
                exact ⟨((12 : Int) - (j + 1)).toNat, by omega, (j + 1), (m + 1), rfl, F, O, by first | assumption | omega, by first | assumption | omega, by first | (have h5 := hLO.1 c42; omega) | omega, by intro e1 he1; rw [he0] at he1; injection he1 with he1; subst he1; first | (have h5 := hLO.1 c42; omega) | (have h5 := mt hLO.2 c42; omega)⟩
              · have F := F.setB (d := 42) rfl (decide_eq_false c42)
                refine c_iff F rfl (wp_skip (hK19 _ _ (?_)))
                try clear hK19 K19
                refine c_region (sp F (p_move rfl) rfl rfl fun a F => sp F (p_add rfl rfl (by omega) (by omega)) rfl rfl fun a F => sp F (p_assign rfl) rfl rfl fun a F => c_nil (?_))
                obtain ⟨e0, he0⟩ := get_some (l := es13) (i := r) (by omega) (by omega)
                have hV : LVal es13 j := ⟨c22, by omega⟩
                have hLO := LO_has' hV hi0a he0
                have hme := hi2d e0 he0
                have F : Has 57 [(0, .slice A cn cc), (11, .bool false), (3, .slice (some ⟨b13, 0, none⟩) N13 C13), (4, .bool true), (5, .bool true), (24, .bool false), (6, .int .i64 (r)), (31, .bool true), (8, .int .i64 (j + 1)), (7, .int .i64 (m))] a := F.pick ⟨rfl, rfl, rfl, rfl, rfl, rfl, rfl, rfl, rfl, rfl, trivial⟩
                have O : Own w0 [] [.row 3 1 (.slice (some ⟨b13, 0, none⟩) N13 C13) N13 (es13.flatMap encInt)] w := ((O.pull 1 rfl).take 1)
                exact ⟨((12 : Int) - (j + 1)).toNat, by omega, (j + 1), m, rfl, F, O, by first | assumption | omega, by first | assumption | omega, by first | (have h5 := hLO.1 c42; omega) | omega, by intro e1 he1; rw [he0] at he1; injection he1 with he1; subst he1; first | (have h5 := hLO.1 c42; omega) | (have h5 := mt hLO.2 c42; omega)⟩
            · have F := F.setB (d := 35) rfl (decide_eq_false c35)
              refine c_iff F rfl (wp_exit (e_then (e_then (e_here (hK15 _ _ (?_))))))
              try clear hK15 K15
              refine c_seq fun K19 hK19 => c_region (sp F (p_move rfl) rfl rfl fun a F => sp F (p_eql rfl rfl) rfl rfl fun a F => sp F (p_move rfl) rfl rfl fun a F => sp F (p_move rfl) rfl rfl fun a F => ?_)
              obtain ⟨e49, he49⟩ := get_some (l := es13) (i := r) (by omega) (by first | omega | (simp; omega))
              refine sp F (p_iaddr rfl rfl Try.underlying22 Try.sz_3 (by omega) (by omega)) rfl rfl fun a F => sp F (p_load rfl Try.agg_3 (fun _ h => (ld1 ((O.loadRow 0 rfl (flat_get0 encInt_len he49 rfl))) h))) rfl rfl fun a F => sp F (p_geq rfl rfl) rfl rfl fun a F => ?_
              by_cases c46 : m = 1
              · have F := F.setB (d := 46) rfl (decide_eq_true c46)
                have c51 : 0 ≤ e49 := by have h1 := hi2d e49 he49; have h2 := okIn_get c22.2 he49; omega
                have F := F.setB (d := 51) rfl (decide_eq_true c51)
                refine sp F (p_bneL rfl rfl Try.underlying4 false (by rfl)) rfl rfl fun a F => sp F (p_move rfl) rfl rfl fun a F => sp F (p_move rfl) rfl rfl fun a F => sp F (p_gtr rfl rfl) rfl rfl fun a F => ?_
                have c55 : ¬ (1 < m) := by omega
                have F := F.setB (d := 55) rfl (decide_eq_false c55)
                refine sp F (p_pick (t := false) rfl rfl) rfl rfl fun a F => c_nil (hK19 _ _ (?_))
                try clear hK19 K19
                refine c_iff F rfl (wp_skip (hK13 _ _ (?_)))
                try clear hK13 K13
                refine c_region (sp F (p_move rfl) rfl rfl fun a F => sp F (p_add rfl rfl (by omega) (by omega)) rfl rfl fun a F => sp F (p_assign rfl) rfl rfl fun a F => c_nil (?_))
                have F : Has 57 [(0, .slice A cn cc), (11, .bool false), (3, .slice (some ⟨b13, 0, none⟩) N13 C13), (4, .bool true), (5, .bool true), (24, .bool false), (6, .int .i64 (r + 1))] a := F.pick ⟨rfl, rfl, rfl, rfl, rfl, rfl, rfl, trivial⟩
                exact ⟨((N13 : Int) - (r + 1)).toNat, by omega, (r + 1), rfl, F, O, by first | assumption | omega, by first | assumption | omega⟩
              · have F := F.setB (d := 46) rfl (decide_eq_false c46)
                have c51 : ¬ (0 ≤ e49) := by have h1 := hi2d e49 he49; have h2 := okIn_get c22.2 he49; omega
                have F := F.setB (d := 51) rfl (decide_eq_false c51)
                refine sp F (p_bneL rfl rfl Try.underlying4 false (by rfl)) rfl rfl fun a F => sp F (p_move rfl) rfl rfl fun a F => sp F (p_move rfl) rfl rfl fun a F => sp F (p_gtr rfl rfl) rfl rfl fun a F => ?_
                have c55 : ¬ (1 < m) := by omega
                have F := F.setB (d := 55) rfl (decide_eq_false c55)
                refine sp F (p_pick (t := false) rfl rfl) rfl rfl fun a F => c_nil (hK19 _ _ (?_))
                try clear hK19 K19
                refine c_iff F rfl (wp_skip (hK13 _ _ (?_)))
                try clear hK13 K13
                refine c_region (sp F (p_move rfl) rfl rfl fun a F => sp F (p_add rfl rfl (by omega) (by omega)) rfl rfl fun a F => sp F (p_assign rfl) rfl rfl fun a F => c_nil (?_))
                have F : Has 57 [(0, .slice A cn cc), (11, .bool false), (3, .slice (some ⟨b13, 0, none⟩) N13 C13), (4, .bool true), (5, .bool true), (24, .bool false), (6, .int .i64 (r + 1))] a := F.pick ⟨rfl, rfl, rfl, rfl, rfl, rfl, rfl, trivial⟩
                exact ⟨((N13 : Int) - (r + 1)).toNat, by omega, (r + 1), rfl, F, O, by first | assumption | omega, by first | assumption | omega⟩
        · have F := F.setB (d := 31) rfl (decide_eq_false c31)
          refine c_iff F rfl (wp_exit (e_then (e_then (e_here (hK9 _ _ (?_))))))
          try clear hK9 K9
          refine c_seq fun K13 hK13 => c_region (sp F (p_assign rfl) rfl rfl fun a F => c_nil (hK13 _ _ (?_)))
          try clear hK13 K13
          refine wp_ret (ret1 F rfl rfl (?_))
          have O : Own w0 [] [] w := (O.take 0)
          exact ⟨rfl, O⟩
    · have F := F.setB (d := 15) rfl (decide_eq_false c22)
      have F := F.setB (d := 4) rfl (decide_eq_false c22)
      have F := F.setB (d := 17) rfl (decide_eq_false c22)
      have F := F.setB (d := 5) rfl (decide_eq_false c22)
      have F := F.setB (d := 18) rfl (decide_eq_false c22)
      have F := F.setB (d := 19) rfl (decide_eq_false c22)
      have F := F.setB (d := 22) rfl (decide_eq_false c22)
      refine sp F (p_not rfl) rfl rfl fun a F => sp F (p_pick (t := false) rfl rfl) rfl rfl fun a F => c_nil (hK8 _ _ (?_))
      try clear hK8 K8
      refine c_ift F rfl (c_seq fun K9 hK9 => c_region (sp F (p_move rfl) rfl rfl fun a F => sp F (p_move rfl) rfl rfl fun a F => sp F (p_beqL rfl rfl Try.underlying4 true (by rfl)) rfl rfl fun a F => sp F (p_assign rfl) rfl rfl fun a F => c_nil (hK9 _ _ (?_))))
      try clear hK9 K9
      refine wp_ret (r_then (ret1 F rfl rfl (?_)))
      have O : Own w0 [] [] w := (O.take 0)
      exact ⟨rfl, O⟩

set_option maxRecDepth 100000 in
theorem locksOf_lifted (os : Os) (started : os.Started) (H : Type) (enc : TypeId × Value → H) :
    ReturnsInHanded {} Try.checked os 8 .any (Rows.fnLocksOfSpec.pre6 enc Try.prog Try.f8 Rows.fnLocksOfRow.domain false) (Rows.fnLocksOfSpec.post enc Try.prog Try.f8 false true false false) := by
  have e0 : Rows.fnLocksOfRow.domain = [] := rfl
  rw [e0]
  refine lifted_of (C := Try.checked) Try.facts started (by kernel_rfl) Try.func8 rfl ?_ (tb := 4) (by kernel_rfl) Try.underlying4 (by kernel_rfl)
    (ChangeSpec.witness6 (enc := enc) (C := Try.checked) false ⟨#[], #[.slice none 0 0], []⟩ 8 (by kernel_rfl) (by kernel_rfl) (by kernel_rfl) (by kernel_rfl)) ?_
  · intro ds hds
    match ds, hds with
    | [_], _ => rfl
  intro W base args ds p hval0 hA0
  have hval : ∀ (j : Nat) t v, Try.f8.params[j]? = some t → args[j]? = some v → Value.okWide Try.prog W .any base t v := hval0
  have hA : DataW.TrodAll enc Try.prog W 0 (fun _ => true) true Try.f8.params.toList args.toList ds p := hA0
  clear hA0 hval0
  show Calls Try.prog 8 args W _
  rw [Try.params8] at hA hval
  obtain ⟨v0, d0, hargs, rfl, h0⟩ := trodAll_one hA
  obtain rfl : args = #[v0] := by cases args; simp_all
  obtain ⟨a, n, c, rfl, hC⟩ := open_codeIn (hval 0 26 v0 rfl rfl) h0
  exact (locksOf_ok a n c W hC).mono fun e w' h => ⟨h.1, h.2.below⟩

theorem locksOf_pkg : ¬ Check.packageOf Try.f8.name = "main" := by
  intro h
  have h2 := congrArg String.toList h
  simp only [Check.packageOf, Try.f8] at h2
  simp at h2

theorem locksOf_closed : lawFacts Try.prog 8 Try.f8 Rows.fnLocksOfSpec Rows.fnLocksOfRow = true := by kernel_rfl
theorem locksOf_facts : joinedFacts Try.pinned.checked.prog 8 Try.f8 Rows.fnLocksOfSpec Rows.fnLocksOfRow = true := facts_of (P := Try.prog) Try.facts locksOf_closed

theorem locksOf_wrap : Func.isWrapper Try.pinned.checked.prog Try.f8 Rows.fnLocksOfRow.wrapper Rows.fnLocksOfRow.mainSum := by
  have e1 : Rows.fnLocksOfRow.wrapper = false := rfl
  have e2 : Rows.fnLocksOfRow.mainSum = "" := rfl
  rw [e1, e2]
  exact wrapper_of Try.pinned.checked.prog Try.f8 locksOf_pkg

/-- The statement. -/
theorem locksOf_over : Rows.fnLocksOfRow.holds Try.pinned (OpenSpec.ofChange Rows.fnLocksOfSpec) :=
  OpenClaim.holds_of_wide 8 Try.f8 rfl rfl rfl rfl rfl rfl rfl ⟨rfl, rfl, rfl, rfl, rfl⟩ rfl rfl rfl rfl rfl (by kernel_rfl) Try.func8 locksOf_facts
    (of_decide_eq_true (by kernel_rfl)) locksOf_wrap
    (fun os started H enc _ => locksOf_lifted os started H enc)
theorem locksOf_holds : Rows.FnLocksOfSaid := locksOf_over
#print axioms locksOf_holds

end Go.Proofs.Ytilpbddeijolbaa
