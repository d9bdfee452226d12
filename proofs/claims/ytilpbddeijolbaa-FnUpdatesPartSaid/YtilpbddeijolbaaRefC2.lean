/- Contracts of functions on locks: what a transaction has locked, freeing. No conditions but those on lengths. -/
import Derived.Test.YtilpbddeijolbaaRefC
namespace Go.Proofs.Ytilpbddeijolbaa
open Go.ChangeShapes Go.WideShapes Go.ChangeAt Go.RowKit
set_option linter.unusedVariables false
set_option linter.unusedSimpArgs false

set_option maxRecDepth 100000 in
/-- spec.LocksOf -/
theorem sLocksOf_ok (A : Option Addr) (n : Nat) (c : Nat) (es : List (Int)) (t : Int) (w0 : World) (hA : Arr w0 encInt 1 A es) (hn : (n : Int) = es.length) (hb : (n : Int) ≤ 1048600) :
    Calls Try.prog 29 #[.slice A n c, .int .i64 (t)] w0 fun e w => ∃ (P : Option Addr), ∃ (N : Nat), ∃ (C : Nat), e = .returned (.slice P N C) ∧ ((N : Int) = (LO es t).length) ∧ ((N : Int) ≤ 1048600) ∧ Own w0 [] [.row 3 1 (.slice P N C) N ((LO es t).flatMap encInt)] w := by
  have O := Own.start w0
  refine enterO (n := 33) Try.func29 rfl rfl rfl O fun a w F O => ?_
  refine c_seq fun K1 hK1 => c_region (sp F (p_assign rfl) rfl rfl fun a F => c_nil (hK1 _ _ (?_)))
  try clear hK1 K1
  refine c_seq fun K2 hK2 => c_region (so F rfl (o_bslice (cs := []) F O rfl Try.underlying22 Try.sz_3 Try.zero_3 rfl rfl rfl fun b7 w O a F => ?_))
  have O : Own w0 [] [.cells b7 [] 3] w := O
  refine sp F (p_assign rfl) rfl rfl fun a F => c_nil (hK2 _ _ (?_))
  try clear hK2 K2
  refine c_seq fun K3 hK3 => c_seq fun K4 hK4 => c_region (sp F (p_assign rfl) rfl rfl fun a F => c_nil (hK4 _ _ (?_)))
  try clear hK4 K4
  refine wp_block (?_)
  refine c_loop (fun mm a w => ∃ (k : Int), ∃ (P : Option Addr), ∃ (N : Nat), ∃ (C : Nat), ∃ (L1 : List Int), mm = ((n : Int) - k).toNat ∧ Has 33 [(0, .slice A n c), (1, .int .i64 (t)), (4, .slice none 0 0), (6, .int .i64 (k)), (5, .slice P N C)] a ∧ Own w0 [] [.row 3 1 (.slice P N C) N (L1.flatMap encInt)] w ∧ (0 ≤ k) ∧ (k ≤ (n : Int)) ∧ ((N : Int) = L1.length) ∧ ((N : Int) ≤ k) ∧ (L1 = idx es t k) ∧ (0 < k → LVal es t)) ?_ ?_
  · have F : Has 33 [(0, .slice A n c), (1, .int .i64 (t)), (4, .slice none 0 0), (6, .int .i64 (0)), (5, .slice (some ⟨b7, 0, none⟩) 0 0)] a := F.pick ⟨rfl, rfl, rfl, rfl, rfl, trivial⟩
    have O := O.asRow 0 (q := 0) (sz := 1) rfl rfl (by unfold maxLen; omega)
    have O : Own w0 [] [.row 3 1 (.slice (some ⟨b7, 0, none⟩) 0 0) 0 ([])] w := O
    have O := O.setR 0 rfl (show Res.row 3 1 (.slice (some ⟨b7, 0, none⟩) 0 0) 0 ([]) = .row 3 1 (.slice (some ⟨b7, 0, none⟩) 0 0) 0 (([]).flatMap encInt) from by rfl)
    have O : Own w0 [] [.row 3 1 (.slice (some ⟨b7, 0, none⟩) 0 0) 0 (([]).flatMap encInt)] w := O
    exact ⟨((n : Int) - 0).toNat, 0, (some ⟨b7, 0, none⟩), 0, 0, ([]), rfl, F, O, by first | assumption | omega, by first | assumption | omega, by rfl, by first | assumption | omega, by rfl, by omega⟩
  · rintro mm a w ⟨k, P, N, C, L1, rfl, F, O, hi0a, hi0b, hi0c, hi0d, hi0e, hi0f⟩
    refine c_seq fun K5 hK5 => c_seq fun K6 hK6 => c_region (sp F (p_move rfl) rfl rfl fun a F => sp F (p_move rfl) rfl rfl fun a F => sp F (p_len_l rfl Try.underlying22) rfl rfl fun a F => sp F (p_lss rfl rfl) rfl rfl fun a F => sp F (p_move rfl) rfl rfl fun a F => ?_)
    by_cases c12 : k < (n : Int)
    · have F := F.setB (d := 11) rfl (decide_eq_true c12)
      have F := F.setB (d := 12) rfl (decide_eq_true c12)
      refine sp F (p_move rfl) rfl rfl fun a F => so F rfl (o_call (vs := #[.slice A n c]) F Try.en_17 rfl rfl ((sLocksValid_ok A n c es w (hA.keep O) (by first | omega | (simp; done) | (simp; omega) | (simp at *; omega)) (by omega)).mono ?_))
      rintro e w ⟨rfl, K⟩
      refine ⟨_, rfl, fun a F => ?_⟩
      have O : Own w0 [] [.row 3 1 (.slice P N C) N (L1.flatMap encInt)] w := O.call0 K
      clear K
      have O : Own w0 [] [.row 3 1 (.slice P N C) N (L1.flatMap encInt)] w := O
      refine sp F (p_pick (t := true) rfl rfl) rfl rfl fun a F => sp F (p_move rfl) rfl rfl fun a F => ?_
      by_cases c16 : es.length = 4 ∧ okIn (-1) (11) es = true
      · have F := F.setB (d := 14) rfl (decide_eq_true c16)
        have F := F.setB (d := 15) rfl (decide_eq_true c16)
        have F := F.setB (d := 16) rfl (decide_eq_true c16)
        refine sp F (p_move rfl) rfl rfl fun a F => so F rfl (o_call (vs := #[.int .i64 (t)]) F Try.en_62 rfl rfl ((l12Txn_ok t w).mono ?_))
        rintro e w ⟨rfl, K⟩
        refine ⟨_, rfl, fun a F => ?_⟩
        have O : Own w0 [] [.row 3 1 (.slice P N C) N (L1.flatMap encInt)] w := O.call0 K
        clear K
        have O : Own w0 [] [.row 3 1 (.slice P N C) N (L1.flatMap encInt)] w := O
        refine sp F (p_pick (t := true) rfl rfl) rfl rfl fun a F => c_nil (hK6 _ _ (?_))
        try clear hK6 K6
        by_cases c19 : 0 ≤ t ∧ t ≤ 11
        · have F := F.setB (d := 18) rfl (decide_eq_true c19)
          have F := F.setB (d := 19) rfl (decide_eq_true c19)
          refine c_ift F rfl (wp_skip (hK5 _ _ (?_)))
          try clear hK5 K5
          refine c_seq fun K7 hK7 => wp_block (c_seq fun K8 hK8 => c_region (sp F (p_move rfl) rfl rfl fun a F => sp F (p_move rfl) rfl rfl fun a F => ?_))
          obtain ⟨b24, o24, hp24, hb24, hc24⟩ := Arr.out hA (by omega)
          have hA24 := hA; rw [hp24] at hA24 F
          obtain ⟨e24, he24⟩ := get_some (l := es) (i := k) (by omega) (by first | omega | (simp; omega))
          refine sp F (p_iaddr rfl rfl Try.underlying22 Try.sz_3 (by omega) (by omega)) rfl rfl fun a F => sp F (p_load rfl Try.agg_3 (fun _ h => (ld1 (((O.old hb24 (by simp)).trans (hc24 _ _ he24 0 _ rfl))) h))) rfl rfl fun a F => sp F (p_move rfl) rfl rfl fun a F => sp F (p_eql rfl rfl) rfl rfl fun a F => c_nil (hK8 _ _ (?_))
          try clear hK8 K8
          by_cases c27 : e24 = t
          · have F := F.setB (d := 27) rfl (decide_eq_true c27)
            refine c_ift F rfl (c_region (sp F (p_move rfl) rfl rfl fun a F => sp F (p_move rfl) rfl rfl fun a F => so F rfl (o_bslice (cs := [.int .i64 (k)]) F O rfl Try.underlying22 Try.sz_3 Try.zero_3 rfl rfl rfl fun b30 w O a F => ?_)))
            have O : Own w0 [] [.cells b30 [.int .i64 (k)] 3, .row 3 1 (.slice P N C) N (L1.flatMap encInt)] w := O
            refine so F rfl (o_append F O rfl rfl Try.underlying22 Try.elem_3 (by decide) 1 0 rfl rfl rfl rfl (by unfold maxLen; omega) (by omega) rfl fun p31 k31 w O a F => ?_)
            have O : Own w0 [] [.cells b30 [.int .i64 (k)] 3, .row 3 1 (.slice p31 (N + 1) k31) (N + 1) ((L1.flatMap encInt) ++ [.int .i64 (k)])] w := O
            have O := O.setR 1 rfl (show Res.row 3 1 (.slice p31 (N + 1) k31) (N + 1) ((L1.flatMap encInt) ++ [.int .i64 (k)]) = .row 3 1 (.slice p31 (N + 1) k31) (N + 1) ((L1 ++ [k]).flatMap encInt) from by simp [encInt])
            have O : Own w0 [] [.cells b30 [.int .i64 (k)] 3, .row 3 1 (.slice p31 (N + 1) k31) (N + 1) ((L1 ++ [k]).flatMap encInt)] w := O
            refine sp F (p_assign rfl) rfl rfl fun a F => c_nil (hK7 _ _ (?_))
            try clear hK7 K7
            refine c_region (sp F (p_move rfl) rfl rfl fun a F => sp F (p_add rfl rfl (by omega) (by omega)) rfl rfl fun a F => sp F (p_assign rfl) rfl rfl fun a F => c_nil (?_))
            try rw [← hp24] at F
            try rw [← hp24] at O
            have F : Has 33 [(0, .slice A n c), (1, .int .i64 (t)), (4, .slice none 0 0), (6, .int .i64 (k + 1)), (5, .slice p31 (N + 1) k31)] a := F.pick ⟨rfl, rfl, rfl, rfl, rfl, trivial⟩
            have O : Own w0 [] [.row 3 1 (.slice p31 (N + 1) k31) (N + 1) ((L1 ++ [k]).flatMap encInt)] w := ((O.pull 1 rfl).take 1)
            exact ⟨((n : Int) - (k + 1)).toNat, by omega, (k + 1), p31, (N + 1), k31, (L1 ++ [k]), rfl, F, O, by first | assumption | omega, by first | assumption | omega, by first | omega | (simp; omega), by first | assumption | omega, by first | (rw [idx_eq hi0a he24 c27, ← hi0e]; done) | (rw [idx_ne hi0a he24 c27, ← hi0e]; done), by exact fun _ => ⟨by assumption, by omega⟩⟩
          · have F := F.setB (d := 27) rfl (decide_eq_false c27)
            refine c_iff F rfl (wp_skip (hK7 _ _ (?_)))
            try clear hK7 K7
            refine c_region (sp F (p_move rfl) rfl rfl fun a F => sp F (p_add rfl rfl (by omega) (by omega)) rfl rfl fun a F => sp F (p_assign rfl) rfl rfl fun a F => c_nil (?_))
            try rw [← hp24] at F
            try rw [← hp24] at O
            have F : Has 33 [(0, .slice A n c), (1, .int .i64 (t)), (4, .slice none 0 0), (6, .int .i64 (k + 1)), (5, .slice P N C)] a := F.pick ⟨rfl, rfl, rfl, rfl, rfl, trivial⟩
            exact ⟨((n : Int) - (k + 1)).toNat, by omega, (k + 1), P, N, C, L1, rfl, F, O, by first | assumption | omega, by first | assumption | omega, by first | omega | (simp; omega), by first | assumption | omega, by first | (rw [idx_eq hi0a he24 c27, ← hi0e]; done) | (rw [idx_ne hi0a he24 c27, ← hi0e]; done), by exact fun _ => ⟨by assumption, by omega⟩⟩
        · have F := F.setB (d := 18) rfl (decide_eq_false c19)
          have F := F.setB (d := 19) rfl (decide_eq_false c19)
          refine c_iff F rfl (wp_exit (e_then (e_then (e_here (hK3 _ _ (?_))))))
          try clear hK3 K3
          refine c_seq fun K7 hK7 => ?_
          obtain rfl : L1 = LO es t := by exact LO_exit hi0f hi0e (fun hV => by first | omega | exact absurd hV.1 c16 | exact absurd hV.2 c19) (by omega) hi0a
          refine c_region (sp F (p_move rfl) rfl rfl fun a F => sp F (p_assign rfl) rfl rfl fun a F => c_nil (hK7 _ _ (?_)))
          try clear hK7 K7
          refine wp_ret (ret1 F rfl rfl (?_))
          exact ⟨P, N, C, rfl, by first | assumption | omega, by first | assumption | omega, O⟩
      · have F := F.setB (d := 14) rfl (decide_eq_false c16)
        have F := F.setB (d := 15) rfl (decide_eq_false c16)
        have F := F.setB (d := 16) rfl (decide_eq_false c16)
        refine ss F rfl rfl fun a F => ss F rfl rfl fun a F => sp F (p_pick (t := false) rfl rfl) rfl rfl fun a F => c_nil (hK6 _ _ (?_))
        try clear hK6 K6
        refine c_iff F rfl (wp_exit (e_then (e_then (e_here (hK3 _ _ (?_))))))
        try clear hK3 K3
        refine c_seq fun K7 hK7 => ?_
        obtain rfl : L1 = LO es t := by exact LO_exit hi0f hi0e (fun hV => by first | omega | exact absurd hV.1 c16 | exact absurd hV.2 c19) (by omega) hi0a
        refine c_region (sp F (p_move rfl) rfl rfl fun a F => sp F (p_assign rfl) rfl rfl fun a F => c_nil (hK7 _ _ (?_)))
        try clear hK7 K7
        refine wp_ret (ret1 F rfl rfl (?_))
        exact ⟨P, N, C, rfl, by first | assumption | omega, by first | assumption | omega, O⟩
    · have F := F.setB (d := 11) rfl (decide_eq_false c12)
      have F := F.setB (d := 12) rfl (decide_eq_false c12)
      refine ss F rfl rfl fun a F => ss F rfl rfl fun a F => sp F (p_pick (t := false) rfl rfl) rfl rfl fun a F => sp F (p_move rfl) rfl rfl fun a F => ss F rfl rfl fun a F => ss F rfl rfl fun a F => sp F (p_pick (t := false) rfl rfl) rfl rfl fun a F => c_nil (hK6 _ _ (?_))
      try clear hK6 K6
      refine c_iff F rfl (wp_exit (e_then (e_then (e_here (hK3 _ _ (?_))))))
      try clear hK3 K3
      refine c_seq fun K7 hK7 => ?_
      obtain rfl : L1 = LO es t := by exact LO_exit hi0f hi0e (fun hV => by first | omega | exact absurd hV.1 c16 | exact absurd hV.2 c19) (by omega) hi0a
      refine c_region (sp F (p_move rfl) rfl rfl fun a F => sp F (p_assign rfl) rfl rfl fun a F => c_nil (hK7 _ _ (?_)))
      try clear hK7 K7
      refine wp_ret (ret1 F rfl rfl (?_))
      exact ⟨P, N, C, rfl, by first | assumption | omega, by first | assumption | omega, O⟩

set_option maxRecDepth 100000 in
/-- impl.LocksOf -/
theorem iLocksOf_ok (A : Option Addr) (n : Nat) (c : Nat) (es : List (Int)) (t : Int) (w0 : World) (hA : Arr w0 encInt 1 A es) (hn : (n : Int) = es.length) (hb : (n : Int) ≤ 1048600) :
    Calls Try.prog 30 #[.slice A n c, .int .i64 (t)] w0 fun e w => ∃ (P : Option Addr), ∃ (N : Nat), ∃ (C : Nat), e = .returned (.slice P N C) ∧ ((N : Int) = (LO es t).length) ∧ ((N : Int) ≤ 1048600) ∧ Own w0 [] [.row 3 1 (.slice P N C) N ((LO es t).flatMap encInt)] w := by
  have O := Own.start w0
  refine enterO (n := 32) Try.func30 rfl rfl rfl O fun a w F O => ?_
  refine c_seq fun K1 hK1 => c_region (sp F (p_assign rfl) rfl rfl fun a F => c_nil (hK1 _ _ (?_)))
  try clear hK1 K1
  refine c_seq fun K2 hK2 => c_seq fun K3 hK3 => c_region (sp F (p_move rfl) rfl rfl fun a F => so F rfl (o_call (vs := #[.slice A n c]) F Try.en_19 rfl rfl ((iLocksValid_ok A n c es w (hA.keep O) (by first | omega | (simp; done) | (simp; omega) | (simp at *; omega)) (by omega)).mono ?_)))
  rintro e w ⟨rfl, K⟩
  refine ⟨_, rfl, fun a F => ?_⟩
  have O : Own w0 [] [] w := O.call0 K
  clear K
  have O : Own w0 [] [] w := O
  by_cases c9 : es.length = 4 ∧ okIn (-1) (11) es = true
  · have F := F.setB (d := 9) rfl (decide_eq_true c9)
    refine sp F (p_not rfl) rfl rfl fun a F => sp F (p_move rfl) rfl rfl fun a F => sp F (p_move rfl) rfl rfl fun a F => so F rfl (o_call (vs := #[.int .i64 (t)]) F Try.en_53 rfl rfl ((isTxn_ok t w).mono ?_))
    rintro e w ⟨rfl, K⟩
    refine ⟨_, rfl, fun a F => ?_⟩
    have O : Own w0 [] [] w := O.call0 K
    clear K
    have O : Own w0 [] [] w := O
    by_cases c13 : 0 ≤ t ∧ t ≤ 11
    · have F := F.setB (d := 13) rfl (decide_eq_true c13)
      refine sp F (p_not rfl) rfl rfl fun a F => sp F (p_pick (t := false) rfl rfl) rfl rfl fun a F => c_nil (hK3 _ _ (?_))
      try clear hK3 K3
      refine c_iff F rfl (wp_skip (hK2 _ _ (?_)))
      try clear hK2 K2
      refine c_seq fun K4 hK4 => c_region (sp F (p_assign rfl) rfl rfl fun a F => c_nil (hK4 _ _ (?_)))
      try clear hK4 K4
      refine c_seq fun K5 hK5 => c_seq fun K6 hK6 => c_region (sp F (p_move rfl) rfl rfl fun a F => sp F (p_len_l rfl Try.underlying22) rfl rfl fun a F => sp F (p_move rfl) rfl rfl fun a F => c_nil (hK6 _ _ (?_)))
      try clear hK6 K6
      refine wp_block (?_)
      refine c_loop (fun mm a w => ∃ (k : Int), ∃ (P : Option Addr), ∃ (N : Nat), ∃ (C : Nat), ∃ (L1 : List Int), mm = ((n : Int) - k).toNat ∧ Has 32 [(0, .slice A n c), (1, .int .i64 (t)), (4, .slice none 0 0), (15, .bool false), (16, .slice A n c), (17, .int .i64 ((n : Int))), (18, .int .i64 (k)), (5, .slice P N C)] a ∧ Own w0 [] [.row 3 1 (.slice P N C) N (L1.flatMap encInt)] w ∧ (0 ≤ k) ∧ (k ≤ (n : Int)) ∧ ((N : Int) = L1.length) ∧ ((N : Int) ≤ k) ∧ (L1 = idx es t k)) ?_ ?_
      · have F : Has 32 [(0, .slice A n c), (1, .int .i64 (t)), (4, .slice none 0 0), (15, .bool false), (16, .slice A n c), (17, .int .i64 ((n : Int))), (18, .int .i64 (0)), (5, .slice none 0 0)] a := F.pick ⟨rfl, rfl, rfl, rfl, rfl, rfl, rfl, rfl, trivial⟩
        have O := O.addNil 3 1
        have O : Own w0 [] [.row 3 1 (.slice none 0 0) 0 ([])] w := O
        have O := O.setR 0 rfl (show Res.row 3 1 (.slice none 0 0) 0 ([]) = .row 3 1 (.slice none 0 0) 0 (([]).flatMap encInt) from by rfl)
        have O : Own w0 [] [.row 3 1 (.slice none 0 0) 0 (([]).flatMap encInt)] w := O
        exact ⟨((n : Int) - 0).toNat, 0, none, 0, 0, ([]), rfl, F, O, by first | assumption | omega, by first | assumption | omega, by rfl, by first | assumption | omega, by rfl⟩
      · rintro mm a w ⟨k, P, N, C, L1, rfl, F, O, hi0a, hi0b, hi0c, hi0d, hi0e⟩
        refine c_seq fun K7 hK7 => c_region (sp F (p_lss rfl rfl) rfl rfl fun a F => c_nil (hK7 _ _ (?_)))
        try clear hK7 K7
        refine c_seq fun K8 hK8 => ?_
        by_cases c19 : k < (n : Int)
        · have F := F.setB (d := 19) rfl (decide_eq_true c19)
          refine c_ift F rfl (wp_skip (hK8 _ _ (?_)))
          try clear hK8 K8
          refine c_seq fun K9 hK9 => wp_block (c_seq fun K10 hK10 => c_region (sp F (p_move rfl) rfl rfl fun a F => ?_))
          obtain ⟨b21, o21, hp21, hb21, hc21⟩ := Arr.out hA (by omega)
          have hA21 := hA; rw [hp21] at hA21 F
          obtain ⟨e21, he21⟩ := get_some (l := es) (i := k) (by omega) (by first | omega | (simp; omega))
          refine sp F (p_iaddr rfl rfl Try.underlying22 Try.sz_3 (by omega) (by omega)) rfl rfl fun a F => sp F (p_load rfl Try.agg_3 (fun _ h => (ld1 (((O.old hb21 (by simp)).trans (hc21 _ _ he21 0 _ rfl))) h))) rfl rfl fun a F => sp F (p_assign rfl) rfl rfl fun a F => sp F (p_assign rfl) rfl rfl fun a F => c_nil (hK10 _ _ (?_))
          try clear hK10 K10
          refine c_seq fun K11 hK11 => c_region (sp F (p_move rfl) rfl rfl fun a F => sp F (p_move rfl) rfl rfl fun a F => sp F (p_eql rfl rfl) rfl rfl fun a F => c_nil (hK11 _ _ (?_)))
          try clear hK11 K11
          by_cases c25 : e21 = t
          · have F := F.setB (d := 25) rfl (decide_eq_true c25)
            refine c_ift F rfl (c_region (sp F (p_move rfl) rfl rfl fun a F => sp F (p_move rfl) rfl rfl fun a F => so F rfl (o_bslice (cs := [.int .i64 (k)]) F O rfl Try.underlying22 Try.sz_3 Try.zero_3 rfl rfl rfl fun b28 w O a F => ?_)))
            have O : Own w0 [] [.cells b28 [.int .i64 (k)] 3, .row 3 1 (.slice P N C) N (L1.flatMap encInt)] w := O
            refine so F rfl (o_append F O rfl rfl Try.underlying22 Try.elem_3 (by decide) 1 0 rfl rfl rfl rfl (by unfold maxLen; omega) (by omega) rfl fun p29 k29 w O a F => ?_)
            have O : Own w0 [] [.cells b28 [.int .i64 (k)] 3, .row 3 1 (.slice p29 (N + 1) k29) (N + 1) ((L1.flatMap encInt) ++ [.int .i64 (k)])] w := O
            have O := O.setR 1 rfl (show Res.row 3 1 (.slice p29 (N + 1) k29) (N + 1) ((L1.flatMap encInt) ++ [.int .i64 (k)]) = .row 3 1 (.slice p29 (N + 1) k29) (N + 1) ((L1 ++ [k]).flatMap encInt) from by simp [encInt])
            have O : Own w0 [] [.cells b28 [.int .i64 (k)] 3, .row 3 1 (.slice p29 (N + 1) k29) (N + 1) ((L1 ++ [k]).flatMap encInt)] w := O
            refine sp F (p_assign rfl) rfl rfl fun a F => c_nil (hK9 _ _ (?_))
            try clear hK9 K9
            refine c_region (sp F (p_add rfl rfl (by omega) (by omega)) rfl rfl fun a F => sp F (p_move rfl) rfl rfl fun a F => c_nil (?_))
            try rw [← hp21] at F
            try rw [← hp21] at O
            have F : Has 32 [(0, .slice A n c), (1, .int .i64 (t)), (4, .slice none 0 0), (15, .bool false), (16, .slice A n c), (17, .int .i64 ((n : Int))), (18, .int .i64 (k + 1)), (5, .slice p29 (N + 1) k29)] a := F.pick ⟨rfl, rfl, rfl, rfl, rfl, rfl, rfl, rfl, trivial⟩
            have O : Own w0 [] [.row 3 1 (.slice p29 (N + 1) k29) (N + 1) ((L1 ++ [k]).flatMap encInt)] w := ((O.pull 1 rfl).take 1)
            exact ⟨((n : Int) - (k + 1)).toNat, by omega, (k + 1), p29, (N + 1), k29, (L1 ++ [k]), rfl, F, O, by first | assumption | omega, by first | assumption | omega, by first | omega | (simp; omega), by first | assumption | omega, by first | (rw [idx_eq hi0a he21 c25, ← hi0e]; done) | (rw [idx_ne hi0a he21 c25, ← hi0e]; done)⟩
          · have F := F.setB (d := 25) rfl (decide_eq_false c25)
            refine c_iff F rfl (wp_skip (hK9 _ _ (?_)))
            try clear hK9 K9
            refine c_region (sp F (p_add rfl rfl (by omega) (by omega)) rfl rfl fun a F => sp F (p_move rfl) rfl rfl fun a F => c_nil (?_))
            try rw [← hp21] at F
            try rw [← hp21] at O
            have F : Has 32 [(0, .slice A n c), (1, .int .i64 (t)), (4, .slice none 0 0), (15, .bool false), (16, .slice A n c), (17, .int .i64 ((n : Int))), (18, .int .i64 (k + 1)), (5, .slice P N C)] a := F.pick ⟨rfl, rfl, rfl, rfl, rfl, rfl, rfl, rfl, trivial⟩
            exact ⟨((n : Int) - (k + 1)).toNat, by omega, (k + 1), P, N, C, L1, rfl, F, O, by first | assumption | omega, by first | assumption | omega, by first | omega | (simp; omega), by first | assumption | omega, by first | (rw [idx_eq hi0a he21 c25, ← hi0e]; done) | (rw [idx_ne hi0a he21 c25, ← hi0e]; done)⟩
        · have F := F.setB (d := 19) rfl (decide_eq_false c19)
          refine c_iff F rfl (wp_exit (e_then (e_then (e_here (hK5 _ _ (?_))))))
          try clear hK5 K5
          refine c_seq fun K9 hK9 => ?_
          obtain rfl : L1 = LO es t := by rw [LO_ok ⟨c9, c13⟩, hi0e]; congr 1; omega
          refine c_region (sp F (p_move rfl) rfl rfl fun a F => sp F (p_assign rfl) rfl rfl fun a F => c_nil (hK9 _ _ (?_)))
          try clear hK9 K9
          refine wp_ret (ret1 F rfl rfl (?_))
          exact ⟨P, N, C, rfl, by first | assumption | omega, by first | assumption | omega, O⟩
    · have F := F.setB (d := 13) rfl (decide_eq_false c13)
      refine sp F (p_not rfl) rfl rfl fun a F => sp F (p_pick (t := false) rfl rfl) rfl rfl fun a F => c_nil (hK3 _ _ (?_))
      try clear hK3 K3
      refine c_ift F rfl (c_seq fun K4 hK4 => c_region (sp F (p_assign rfl) rfl rfl fun a F => c_nil (hK4 _ _ (?_))))
      try clear hK4 K4
      refine wp_ret (r_then (ret1 F rfl rfl (?_)))
      have O := O.addNil 3 1
      have O : Own w0 [] [.row 3 1 (.slice none 0 0) 0 ([])] w := O
      have O := O.setR 0 rfl (show Res.row 3 1 (.slice none 0 0) 0 ([]) = .row 3 1 (.slice none 0 0) 0 ((LO es t).flatMap encInt) from by rw [LO_bad (by first | exact fun h => c9 h.1 | exact fun h => c13 h.2)]; rfl)
      have O : Own w0 [] [.row 3 1 (.slice none 0 0) 0 ((LO es t).flatMap encInt)] w := O
      exact ⟨none, 0, 0, rfl, by rw [LO_bad (by first | exact fun h => c9 h.1 | exact fun h => c13 h.2)]; rfl, by first | assumption | omega, O⟩
  · have F := F.setB (d := 9) rfl (decide_eq_false c9)
    refine sp F (p_not rfl) rfl rfl fun a F => sp F (p_move rfl) rfl rfl fun a F => ss F rfl rfl fun a F => ss F rfl rfl fun a F => ss F rfl rfl fun a F => sp F (p_pick (t := true) rfl rfl) rfl rfl fun a F => c_nil (hK3 _ _ (?_))
    try clear hK3 K3
    refine c_ift F rfl (c_seq fun K4 hK4 => c_region (sp F (p_assign rfl) rfl rfl fun a F => c_nil (hK4 _ _ (?_))))
    try clear hK4 K4
    refine wp_ret (r_then (ret1 F rfl rfl (?_)))
    have O := O.addNil 3 1
    have O : Own w0 [] [.row 3 1 (.slice none 0 0) 0 ([])] w := O
    have O := O.setR 0 rfl (show Res.row 3 1 (.slice none 0 0) 0 ([]) = .row 3 1 (.slice none 0 0) 0 ((LO es t).flatMap encInt) from by rw [LO_bad (by first | exact fun h => c9 h.1 | exact fun h => c13 h.2)]; rfl)
    have O : Own w0 [] [.row 3 1 (.slice none 0 0) 0 ((LO es t).flatMap encInt)] w := O
    exact ⟨none, 0, 0, rfl, by rw [LO_bad (by first | exact fun h => c9 h.1 | exact fun h => c13 h.2)]; rfl, by first | assumption | omega, O⟩

set_option maxRecDepth 100000 in
/-- spec.l12Free -/
theorem l12Free_ok (A : Option Addr) (n : Nat) (c : Nat) (es : List (Int)) (t : Int) (w0 : World) (hA : Arr w0 encInt 1 A es) (hn : (n : Int) = es.length) (hb : (n : Int) ≤ 1048600) :
    Calls Try.prog 71 #[.slice A n c, .int .i64 (t)] w0 fun e w => ∃ (P : Option Addr), ∃ (N : Nat), ∃ (C : Nat), e = .returned (.slice P N C) ∧ ((N : Int) = (freeL t es).length) ∧ ((N : Int) ≤ 1048600) ∧ Own w0 [] [.row 3 1 (.slice P N C) N ((freeL t es).flatMap encInt)] w := by
  have O := Own.start w0
  refine enterO (n := 31) Try.func71 rfl rfl rfl O fun a w F O => ?_
  refine c_seq fun K1 hK1 => c_region (sp F (p_assign rfl) rfl rfl fun a F => c_nil (hK1 _ _ (?_)))
  try clear hK1 K1
  refine c_seq fun K2 hK2 => c_region (so F rfl (o_bslice (cs := []) F O rfl Try.underlying22 Try.sz_3 Try.zero_3 rfl rfl rfl fun b7 w O a F => ?_))
  have O : Own w0 [] [.cells b7 [] 3] w := O
  refine sp F (p_assign rfl) rfl rfl fun a F => c_nil (hK2 _ _ (?_))
  try clear hK2 K2
  refine c_seq fun K3 hK3 => c_seq fun K4 hK4 => c_region (sp F (p_assign rfl) rfl rfl fun a F => c_nil (hK4 _ _ (?_)))
  try clear hK4 K4
  refine wp_block (?_)
  refine c_loop (fun mm a w => ∃ (k : Int), ∃ (P : Option Addr), ∃ (N : Nat), ∃ (C : Nat), ∃ (L1 : List Int), mm = ((n : Int) - k).toNat ∧ Has 31 [(0, .slice A n c), (1, .int .i64 (t)), (4, .slice none 0 0), (6, .int .i64 (k)), (5, .slice P N C)] a ∧ Own w0 [] [.row 3 1 (.slice P N C) N (L1.flatMap encInt)] w ∧ (0 ≤ k) ∧ (k ≤ n) ∧ ((N : Int) = L1.length) ∧ ((N : Int) ≤ k) ∧ (L1 = freeL t (es.take (k : Int).toNat))) ?_ ?_
  · have F : Has 31 [(0, .slice A n c), (1, .int .i64 (t)), (4, .slice none 0 0), (6, .int .i64 (0)), (5, .slice (some ⟨b7, 0, none⟩) 0 0)] a := F.pick ⟨rfl, rfl, rfl, rfl, rfl, trivial⟩
    have O := O.asRow 0 (q := 0) (sz := 1) rfl rfl (by unfold maxLen; omega)
    have O : Own w0 [] [.row 3 1 (.slice (some ⟨b7, 0, none⟩) 0 0) 0 ([])] w := O
    have O := O.setR 0 rfl (show Res.row 3 1 (.slice (some ⟨b7, 0, none⟩) 0 0) 0 ([]) = .row 3 1 (.slice (some ⟨b7, 0, none⟩) 0 0) 0 (([]).flatMap encInt) from by rfl)
    have O : Own w0 [] [.row 3 1 (.slice (some ⟨b7, 0, none⟩) 0 0) 0 (([]).flatMap encInt)] w := O
    exact ⟨((n : Int) - 0).toNat, 0, (some ⟨b7, 0, none⟩), 0, 0, ([]), rfl, F, O, by first | assumption | omega, by first | assumption | omega, by rfl, by first | assumption | omega, by rfl⟩
  · rintro mm a w ⟨k, P, N, C, L1, rfl, F, O, hi0a, hi0b, hi0c, hi0d, hi0e⟩
    refine c_seq fun K5 hK5 => c_seq fun K6 hK6 => c_region (sp F (p_move rfl) rfl rfl fun a F => sp F (p_move rfl) rfl rfl fun a F => sp F (p_len_l rfl Try.underlying22) rfl rfl fun a F => sp F (p_lss rfl rfl) rfl rfl fun a F => c_nil (hK6 _ _ (?_)))
    try clear hK6 K6
    by_cases c11 : k < (n : Int)
    · have F := F.setB (d := 11) rfl (decide_eq_true c11)
      refine c_ift F rfl (wp_skip (hK5 _ _ (?_)))
      try clear hK5 K5
      refine c_seq fun K7 hK7 => wp_block (c_seq fun K8 hK8 => c_region (sp F (p_move rfl) rfl rfl fun a F => sp F (p_move rfl) rfl rfl fun a F => ?_))
      obtain ⟨b16, o16, hp16, hb16, hc16⟩ := Arr.out hA (by omega)
      have hA16 := hA; rw [hp16] at hA16 F
      obtain ⟨e16, he16⟩ := get_some (l := es) (i := k) (by omega) (by first | omega | (simp; omega))
      refine sp F (p_iaddr rfl rfl Try.underlying22 Try.sz_3 (by omega) (by omega)) rfl rfl fun a F => sp F (p_load rfl Try.agg_3 (fun _ h => (ld1 (((O.old hb16 (by simp)).trans (hc16 _ _ he16 0 _ rfl))) h))) rfl rfl fun a F => sp F (p_move rfl) rfl rfl fun a F => sp F (p_eql rfl rfl) rfl rfl fun a F => c_nil (hK8 _ _ (?_))
      try clear hK8 K8
      by_cases c19 : e16 = t
      · have F := F.setB (d := 19) rfl (decide_eq_true c19)
        refine c_ift F rfl (c_region (sp F (p_move rfl) rfl rfl fun a F => so F rfl (o_bslice (cs := [.int .i64 (-1)]) F O rfl Try.underlying22 Try.sz_3 Try.zero_3 rfl rfl rfl fun b21 w O a F => ?_)))
        have O : Own w0 [] [.cells b21 [.int .i64 (-1)] 3, .row 3 1 (.slice P N C) N (L1.flatMap encInt)] w := O
        refine so F rfl (o_append F O rfl rfl Try.underlying22 Try.elem_3 (by decide) 1 0 rfl rfl rfl rfl (by unfold maxLen; omega) (by omega) rfl fun p22 k22 w O a F => ?_)
        have O : Own w0 [] [.cells b21 [.int .i64 (-1)] 3, .row 3 1 (.slice p22 (N + 1) k22) (N + 1) ((L1.flatMap encInt) ++ [.int .i64 (-1)])] w := O
        have O := O.setR 1 rfl (show Res.row 3 1 (.slice p22 (N + 1) k22) (N + 1) ((L1.flatMap encInt) ++ [.int .i64 (-1)]) = .row 3 1 (.slice p22 (N + 1) k22) (N + 1) ((L1 ++ [-1]).flatMap encInt) from by simp [encInt])
        have O : Own w0 [] [.cells b21 [.int .i64 (-1)] 3, .row 3 1 (.slice p22 (N + 1) k22) (N + 1) ((L1 ++ [-1]).flatMap encInt)] w := O
        refine sp F (p_assign rfl) rfl rfl fun a F => c_nil (hK7 _ _ (?_))
        try clear hK7 K7
        refine c_region (sp F (p_move rfl) rfl rfl fun a F => sp F (p_add rfl rfl (by omega) (by omega)) rfl rfl fun a F => sp F (p_assign rfl) rfl rfl fun a F => c_nil (?_))
        try rw [← hp16] at F
        try rw [← hp16] at O
        have F : Has 31 [(0, .slice A n c), (1, .int .i64 (t)), (4, .slice none 0 0), (6, .int .i64 (k + 1)), (5, .slice p22 (N + 1) k22)] a := F.pick ⟨rfl, rfl, rfl, rfl, rfl, trivial⟩
        have O : Own w0 [] [.row 3 1 (.slice p22 (N + 1) k22) (N + 1) ((L1 ++ [-1]).flatMap encInt)] w := ((O.pull 1 rfl).take 1)
        exact ⟨((n : Int) - (k + 1)).toNat, by omega, (k + 1), p22, (N + 1), k22, (L1 ++ [-1]), rfl, F, O, by first | assumption | omega, by first | assumption | omega, by first | omega | (simp; omega), by first | assumption | omega, by rw [freeL_step hi0a he16, ← hi0e]; simp [c19]⟩
      · have F := F.setB (d := 19) rfl (decide_eq_false c19)
        refine c_iff F rfl (c_region (sp F (p_move rfl) rfl rfl fun a F => sp F (p_move rfl) rfl rfl fun a F => sp F (p_move rfl) rfl rfl fun a F => sp F (p_iaddr rfl rfl Try.underlying22 Try.sz_3 (by omega) (by omega)) rfl rfl fun a F => sp F (p_load rfl Try.agg_3 (fun _ h => (ld1 (((O.old hb16 (by simp)).trans (hc16 _ _ he16 0 _ rfl))) h))) rfl rfl fun a F => so F rfl (o_bslice (cs := [.int .i64 (e16)]) F O rfl Try.underlying22 Try.sz_3 Try.zero_3 rfl rfl rfl fun b28 w O a F => ?_)))
        have O : Own w0 [] [.cells b28 [.int .i64 (e16)] 3, .row 3 1 (.slice P N C) N (L1.flatMap encInt)] w := O
        refine so F rfl (o_append F O rfl rfl Try.underlying22 Try.elem_3 (by decide) 1 0 rfl rfl rfl rfl (by unfold maxLen; omega) (by omega) rfl fun p29 k29 w O a F => ?_)
        have O : Own w0 [] [.cells b28 [.int .i64 (e16)] 3, .row 3 1 (.slice p29 (N + 1) k29) (N + 1) ((L1.flatMap encInt) ++ [.int .i64 (e16)])] w := O
        have O := O.setR 1 rfl (show Res.row 3 1 (.slice p29 (N + 1) k29) (N + 1) ((L1.flatMap encInt) ++ [.int .i64 (e16)]) = .row 3 1 (.slice p29 (N + 1) k29) (N + 1) ((L1 ++ [e16]).flatMap encInt) from by simp [encInt])
        have O : Own w0 [] [.cells b28 [.int .i64 (e16)] 3, .row 3 1 (.slice p29 (N + 1) k29) (N + 1) ((L1 ++ [e16]).flatMap encInt)] w := O
        refine sp F (p_assign rfl) rfl rfl fun a F => c_nil (hK7 _ _ (?_))
        try clear hK7 K7
        refine c_region (sp F (p_move rfl) rfl rfl fun a F => sp F (p_add rfl rfl (by omega) (by omega)) rfl rfl fun a F => sp F (p_assign rfl) rfl rfl fun a F => c_nil (?_))
        try rw [← hp16] at F
        try rw [← hp16] at O
        have F : Has 31 [(0, .slice A n c), (1, .int .i64 (t)), (4, .slice none 0 0), (6, .int .i64 (k + 1)), (5, .slice p29 (N + 1) k29)] a := F.pick ⟨rfl, rfl, rfl, rfl, rfl, trivial⟩
        have O : Own w0 [] [.row 3 1 (.slice p29 (N + 1) k29) (N + 1) ((L1 ++ [e16]).flatMap encInt)] w := ((O.pull 1 rfl).take 1)
        exact ⟨((n : Int) - (k + 1)).toNat, by omega, (k + 1), p29, (N + 1), k29, (L1 ++ [e16]), rfl, F, O, by first | assumption | omega, by first | assumption | omega, by first | omega | (simp; omega), by first | assumption | omega, by rw [freeL_step hi0a he16, ← hi0e]; simp [c19]⟩
    · have F := F.setB (d := 11) rfl (decide_eq_false c11)
      refine c_iff F rfl (wp_exit (e_then (e_then (e_here (hK3 _ _ (?_))))))
      try clear hK3 K3
      refine c_seq fun K7 hK7 => ?_
      obtain rfl : L1 = freeL t es := by rw [hi0e, take_all (by omega)]
      refine c_region (sp F (p_move rfl) rfl rfl fun a F => sp F (p_assign rfl) rfl rfl fun a F => c_nil (hK7 _ _ (?_)))
      try clear hK7 K7
      refine wp_ret (ret1 F rfl rfl (?_))
      exact ⟨P, N, C, rfl, by first | assumption | omega, by first | assumption | omega, O⟩

set_option maxRecDepth 100000 in
/-- impl.release -/
theorem release_ok (b : Nat) (n : Nat) (c : Nat) (es : List Int) (t : Int) (w0 : World) (hn : (n : Int) = es.length) (hb : (n : Int) ≤ 1048600) (O : Own w0 [b] [.row 3 1 (.slice (some ⟨b, 0, none⟩) n c) n (es.flatMap encInt)] w0) :
    Calls Try.prog 69 #[.slice (some ⟨b, 0, none⟩) n c, .int .i64 (t)] w0 fun e w => e = .returned (.bool (decide (hasI t es = true))) ∧ Own w0 [b] [.row 3 1 (.slice (some ⟨b, 0, none⟩) n c) n ((freeL t es).flatMap encInt)] w := by
  refine enterO (n := 23) Try.func69 rfl rfl rfl O fun a w F O => ?_
  refine c_seq fun K1 hK1 => c_region (sp F (p_assign rfl) rfl rfl fun a F => c_nil (hK1 _ _ (?_)))
  try clear hK1 K1
  refine c_seq fun K2 hK2 => c_region (sp F (p_assign rfl) rfl rfl fun a F => c_nil (hK2 _ _ (?_)))
  try clear hK2 K2
  refine c_seq fun K3 hK3 => c_seq fun K4 hK4 => c_region (sp F (p_move rfl) rfl rfl fun a F => sp F (p_len_l rfl Try.underlying22) rfl rfl fun a F => sp F (p_move rfl) rfl rfl fun a F => c_nil (hK4 _ _ (?_)))
  try clear hK4 K4
  refine wp_block (?_)
  refine c_loop (fun mm a w => ∃ (k : Int), ∃ (bv : Bool), ∃ (es1 : List Int), mm = ((n : Int) - k).toNat ∧ Has 23 [(0, .slice (some ⟨b, 0, none⟩) n c), (1, .int .i64 (t)), (4, .bool false), (8, .slice (some ⟨b, 0, none⟩) n c), (9, .int .i64 ((n : Int))), (10, .int .i64 (k)), (5, .bool (bv))] a ∧ Own w0 [b] [.row 3 1 (.slice (some ⟨b, 0, none⟩) n c) n (es1.flatMap encInt)] w ∧ (0 ≤ k) ∧ (k ≤ n) ∧ ((es1.length : Int) = n) ∧ (FreeTo t k es1 es) ∧ (bv = hasI t (es.take (k : Int).toNat))) ?_ ?_
  · have F := F.setV (d := 5) rfl (show Value.bool false = .bool (false) from by rfl)
    have F : Has 23 [(0, .slice (some ⟨b, 0, none⟩) n c), (1, .int .i64 (t)), (4, .bool false), (8, .slice (some ⟨b, 0, none⟩) n c), (9, .int .i64 ((n : Int))), (10, .int .i64 (0)), (5, .bool (false))] a := F.pick ⟨rfl, rfl, rfl, rfl, rfl, rfl, rfl, trivial⟩
    exact ⟨((n : Int) - 0).toNat, 0, false, es, rfl, F, O, by first | assumption | omega, by first | assumption | omega, by first | assumption | omega, by exact freeTo_zero, by rfl⟩
  · rintro mm a w ⟨k, bv, es1, rfl, F, O, hi0a, hi0b, hi0c, hi0d, hi0e⟩
    refine c_seq fun K5 hK5 => c_region (sp F (p_lss rfl rfl) rfl rfl fun a F => c_nil (hK5 _ _ (?_)))
    try clear hK5 K5
    refine c_seq fun K6 hK6 => ?_
    by_cases c11 : k < (n : Int)
    · have F := F.setB (d := 11) rfl (decide_eq_true c11)
      refine c_ift F rfl (wp_skip (hK6 _ _ (?_)))
      try clear hK6 K6
      refine c_seq fun K7 hK7 => wp_block (c_seq fun K8 hK8 => c_region (sp F (p_move rfl) rfl rfl fun a F => ?_))
      obtain ⟨e13, he13⟩ := get_some (l := es1) (i := k) (by omega) (by first | omega | (simp; omega))
      refine sp F (p_iaddr rfl rfl Try.underlying22 Try.sz_3 (by omega) (by omega)) rfl rfl fun a F => sp F (p_load rfl Try.agg_3 (fun _ h => (ld1 ((O.loadRow 0 rfl (flat_get0 encInt_len he13 rfl))) h))) rfl rfl fun a F => sp F (p_assign rfl) rfl rfl fun a F => sp F (p_assign rfl) rfl rfl fun a F => c_nil (hK8 _ _ (?_))
      try clear hK8 K8
      refine c_seq fun K9 hK9 => c_region (sp F (p_move rfl) rfl rfl fun a F => sp F (p_move rfl) rfl rfl fun a F => sp F (p_eql rfl rfl) rfl rfl fun a F => c_nil (hK9 _ _ (?_)))
      try clear hK9 K9
      by_cases c17 : e13 = t
      · have F := F.setB (d := 17) rfl (decide_eq_true c17)
        refine c_ift F rfl (c_region (sp F (p_move rfl) rfl rfl fun a F => sp F (p_move rfl) rfl rfl fun a F => sp F (p_iaddr rfl rfl Try.underlying22 Try.sz_3 (by omega) (by omega)) rfl rfl fun a F => so F rfl (o_storeRow F O rfl rfl Try.sz_3 rfl rfl 0 rfl (by rw [flat_len encInt_len]; first | omega | (simp; omega)) fun w O => ?_)))
        have hst : (es1.flatMap encInt).set (0 + (k : Int).toNat * 1) (.int .i64 (-1)) = (es1.set (k : Int).toNat (-1)).flatMap encInt := flat_set encInt_len he13 (j := 0) rfl (by decide)
        have O := O.setR 0 rfl (congrArg (Res.row 3 1 (.slice (some ⟨b, 0, none⟩) n c) n) hst)
        have O : Own w0 [b] [.row 3 1 (.slice (some ⟨b, 0, none⟩) n c) n ((es1.set (k : Int).toNat (-1)).flatMap encInt)] w := O
        refine sp F (p_assign rfl) rfl rfl fun a F => c_nil (hK7 _ _ (?_))
        try clear hK7 K7
        refine c_region (sp F (p_add rfl rfl (by omega) (by omega)) rfl rfl fun a F => sp F (p_move rfl) rfl rfl fun a F => c_nil (?_))
        have hes := freeTo_get hi0d hi0a
        rw [he13] at hes
        have F := F.setV (d := 5) rfl (show Value.bool true = .bool (true) from by rfl)
        have F : Has 23 [(0, .slice (some ⟨b, 0, none⟩) n c), (1, .int .i64 (t)), (4, .bool false), (8, .slice (some ⟨b, 0, none⟩) n c), (9, .int .i64 ((n : Int))), (10, .int .i64 (k + 1)), (5, .bool (true))] a := F.pick ⟨rfl, rfl, rfl, rfl, rfl, rfl, rfl, trivial⟩
        exact ⟨((n : Int) - (k + 1)).toNat, by omega, (k + 1), true, (es1.set (k : Int).toNat (-1)), rfl, F, O, by first | assumption | omega, by first | assumption | omega, by first | omega | (simp; omega), by first | exact freeTo_eq hi0d hi0a he13 c17 | exact freeTo_ne hi0d hi0a he13 c17, by rw [hasI_step hi0a hes.symm]; simp [c17, hi0e]⟩
      · have F := F.setB (d := 17) rfl (decide_eq_false c17)
        refine c_iff F rfl (wp_skip (hK7 _ _ (?_)))
        try clear hK7 K7
        refine c_region (sp F (p_add rfl rfl (by omega) (by omega)) rfl rfl fun a F => sp F (p_move rfl) rfl rfl fun a F => c_nil (?_))
        have hes := freeTo_get hi0d hi0a
        rw [he13] at hes
        have F : Has 23 [(0, .slice (some ⟨b, 0, none⟩) n c), (1, .int .i64 (t)), (4, .bool false), (8, .slice (some ⟨b, 0, none⟩) n c), (9, .int .i64 ((n : Int))), (10, .int .i64 (k + 1)), (5, .bool (bv))] a := F.pick ⟨rfl, rfl, rfl, rfl, rfl, rfl, rfl, trivial⟩
        exact ⟨((n : Int) - (k + 1)).toNat, by omega, (k + 1), bv, es1, rfl, F, O, by first | assumption | omega, by first | assumption | omega, by first | omega | (simp; omega), by first | exact freeTo_eq hi0d hi0a he13 c17 | exact freeTo_ne hi0d hi0a he13 c17, by rw [hasI_step hi0a hes.symm]; simp [c17, hi0e]⟩
    · have F := F.setB (d := 11) rfl (decide_eq_false c11)
      refine c_iff F rfl (wp_exit (e_then (e_then (e_here (hK3 _ _ (?_))))))
      try clear hK3 K3
      refine c_seq fun K7 hK7 => ?_
      obtain rfl : es1 = freeL t es := by exact freeTo_all hi0d (by omega)
      refine c_region (sp F (p_move rfl) rfl rfl fun a F => sp F (p_assign rfl) rfl rfl fun a F => c_nil (hK7 _ _ (?_)))
      try clear hK7 K7
      refine wp_ret (ret1 F rfl rfl (?_))
      exact ⟨congrArg Ending.returned (show Value.bool (bv) = .bool (decide (hasI t es = true)) from by rw [hi0e, take_all (by omega)]; simp), O⟩

set_option maxRecDepth 100000 in
/-- slices.Clone[[]int,int] -/
theorem clone_ok (A : Option Addr) (n : Nat) (c : Nat) (es : List (Int)) (w0 : World) (hA : Arr w0 encInt 1 A es) (hn : (n : Int) = es.length) (hb : (n : Int) ≤ 1048600) (hp : 0 < es.length) :
    Calls Try.prog 68 #[.slice A n c] w0 fun e w => ∃ (P : Option Addr), ∃ (N : Nat), ∃ (C : Nat), e = .returned (.slice P N C) ∧ ((N : Int) = es.length) ∧ ((N : Int) ≤ 1048600) ∧ Own w0 [] [.row 3 1 (.slice P N C) N (es.flatMap encInt)] w := by
  have O := Own.start w0
  refine enterO (n := 8) Try.func68 rfl rfl rfl O fun a w F O => ?_
  obtain ⟨b900, o900, hp900, hb900, hc900⟩ := Arr.out hA (by exact hp)
  have hA900 := hA; rw [hp900] at hA900 F
  refine c_seq fun K1 hK1 => c_region (sp F (p_assign rfl) rfl rfl fun a F => c_nil (hK1 _ _ (?_)))
  try clear hK1 K1
  refine c_seq fun K2 hK2 => c_seq fun K3 hK3 => c_region (sp F (p_move rfl) rfl rfl fun a F => sp F (p_eqnilF rfl Try.underlying22) rfl rfl fun a F => c_nil (hK3 _ _ (?_)))
  try clear hK3 K3
  refine c_iff F rfl (wp_skip (hK2 _ _ (?_)))
  try clear hK2 K2
  refine c_seq fun K4 hK4 => c_region (so F rfl (o_bslice (cs := []) F O rfl Try.underlying22 Try.sz_3 Try.zero_3 rfl rfl rfl fun b5 w O a F => ?_))
  have O : Own w0 [] [.cells b5 [] 3] w := O
  refine sp F (p_move rfl) rfl rfl fun a F => ?_
  have O := O.asRow 0 (q := 0) (sz := 1) rfl rfl (by unfold maxLen; omega)
  have O : Own w0 [] [.row 3 1 (.slice (some ⟨b5, 0, none⟩) 0 0) 0 ([])] w := O
  refine so F rfl (o_appendX F O rfl rfl Try.underlying22 Try.elem_3 (by decide) 0 rfl (hA900.keep O) ⟨_, _, rfl⟩ encInt_len (by first | omega | (simp; omega)) (fun _ => rfl) (by unfold maxLen; omega) (by omega) rfl fun p7 k7 w O a F => ?_)
  have hst : ([]) ++ (es).flatMap encInt = (es).flatMap encInt := by simp
  have O := O.setR 0 rfl (congrArg (Res.row 3 1 (.slice p7 (0 + n) k7) (0 + n)) hst)
  have O : Own w0 [] [.row 3 1 (.slice p7 (0 + n) k7) (0 + n) ((es).flatMap encInt)] w := O
  refine sp F (p_assign rfl) rfl rfl fun a F => c_nil (hK4 _ _ (?_))
  try clear hK4 K4
  refine wp_ret (ret1 F rfl rfl (?_))
  have O := O.setR 0 rfl (show Res.row 3 1 (.slice p7 (0 + n) k7) (0 + n) ((es).flatMap encInt) = .row 3 1 (.slice p7 (0 + n) k7) (0 + n) (es.flatMap encInt) from by simp <;> omega)
  have O : Own w0 [] [.row 3 1 (.slice p7 (0 + n) k7) (0 + n) (es.flatMap encInt)] w := O
  exact ⟨p7, (0 + n), k7, rfl, by first | assumption | omega, by first | assumption | omega, O⟩

set_option maxRecDepth 100000 in
/-- spec.LocksFree -/
theorem sLocksFree_ok (A : Option Addr) (n : Nat) (c : Nat) (es : List (Int)) (t : Int) (w0 : World) (hA : Arr w0 encInt 1 A es) (hn : (n : Int) = es.length) (hb : (n : Int) ≤ 1048600) :
    Calls Try.prog 45 #[.slice A n c, .int .i64 (t)] w0 fun e w => ∃ (P : Option Addr), ∃ (N : Nat), ∃ (C : Nat), e = .returned (.tuple #[.slice P N C, .bool (decide (((es.length = 4 ∧ okIn (-1) (11) es = true) ∧ (0 ≤ t ∧ t ≤ 11)) ∧ hasI t es = true))]) ∧ ((N : Int) = (LF es t).length) ∧ ((N : Int) ≤ 1048600) ∧ Own w0 [] [.row 3 1 (.slice P N C) N ((LF es t).flatMap encInt)] w := by
  have O := Own.start w0
  refine enterO (n := 21) Try.func45 rfl rfl rfl O fun a w F O => ?_
  refine c_seq fun K1 hK1 => c_region (sp F (p_assign rfl) rfl rfl fun a F => sp F (p_assign rfl) rfl rfl fun a F => c_nil (hK1 _ _ (?_)))
  try clear hK1 K1
  refine c_seq fun K2 hK2 => c_seq fun K3 hK3 => c_region (sp F (p_move rfl) rfl rfl fun a F => so F rfl (o_call (vs := #[.slice A n c]) F Try.en_17 rfl rfl ((sLocksValid_ok A n c es w (hA.keep O) (by first | omega | (simp; done) | (simp; omega) | (simp at *; omega)) (by omega)).mono ?_)))
  rintro e w ⟨rfl, K⟩
  refine ⟨_, rfl, fun a F => ?_⟩
  have O : Own w0 [] [] w := O.call0 K
  clear K
  have O : Own w0 [] [] w := O
  by_cases c7 : es.length = 4 ∧ okIn (-1) (11) es = true
  · have F := F.setB (d := 7) rfl (decide_eq_true c7)
    refine sp F (p_not rfl) rfl rfl fun a F => sp F (p_move rfl) rfl rfl fun a F => sp F (p_move rfl) rfl rfl fun a F => so F rfl (o_call (vs := #[.int .i64 (t)]) F Try.en_62 rfl rfl ((l12Txn_ok t w).mono ?_))
    rintro e w ⟨rfl, K⟩
    refine ⟨_, rfl, fun a F => ?_⟩
    have O : Own w0 [] [] w := O.call0 K
    clear K
    have O : Own w0 [] [] w := O
    by_cases c11 : 0 ≤ t ∧ t ≤ 11
    · have F := F.setB (d := 11) rfl (decide_eq_true c11)
      refine sp F (p_not rfl) rfl rfl fun a F => sp F (p_pick (t := false) rfl rfl) rfl rfl fun a F => c_nil (hK3 _ _ (?_))
      try clear hK3 K3
      refine c_iff F rfl (wp_skip (hK2 _ _ (?_)))
      try clear hK2 K2
      refine c_seq fun K4 hK4 => c_region (sp F (p_move rfl) rfl rfl fun a F => sp F (p_move rfl) rfl rfl fun a F => so F rfl (o_call (vs := #[.slice A n c, .int .i64 (t)]) F Try.en_71 rfl rfl ((l12Free_ok A n c es t w (hA.keep O) (by first | omega | (simp; done) | (simp; omega) | (simp at *; omega)) (by omega)).mono ?_)))
      rintro e w ⟨P17, N17, C17, rfl, h17a, h17b, K⟩
      refine ⟨_, rfl, fun a F => ?_⟩
      have O : Own w0 [] [.row 3 1 (.slice P17 N17 C17) N17 ((freeL t es).flatMap encInt)] w := O.call0 K
      clear K
      have O : Own w0 [] [.row 3 1 (.slice P17 N17 C17) N17 ((freeL t es).flatMap encInt)] w := O
      refine sp F (p_move rfl) rfl rfl fun a F => sp F (p_move rfl) rfl rfl fun a F => so F rfl (o_call (vs := #[.slice A n c, .int .i64 (t)]) F Try.en_72 rfl rfl ((l1Has_ok A n c es t w (hA.keep O) (by first | omega | (simp; done) | (simp; omega) | (simp at *; omega)) (by omega)).mono ?_))
      rintro e w ⟨rfl, K⟩
      refine ⟨_, rfl, fun a F => ?_⟩
      have O : Own w0 [] [.row 3 1 (.slice P17 N17 C17) N17 ((freeL t es).flatMap encInt)] w := O.call0 K
      clear K
      have O : Own w0 [] [.row 3 1 (.slice P17 N17 C17) N17 ((freeL t es).flatMap encInt)] w := O
      refine sp F (p_assign rfl) rfl rfl fun a F => sp F (p_assign rfl) rfl rfl fun a F => c_nil (hK4 _ _ (?_))
      try clear hK4 K4
      refine wp_ret (ret2 F rfl rfl rfl (?_))
      have O := O.setR 0 rfl (show Res.row 3 1 (.slice P17 N17 C17) N17 ((freeL t es).flatMap encInt) = .row 3 1 (.slice P17 N17 C17) N17 ((LF es t).flatMap encInt) from by first | (rw [LF_bad (by first | exact fun h => c7 h.1 | exact fun h => c11 h.2)]; rfl; done) | (rw [LF_ok ⟨c7, c11⟩]; done))
      have O : Own w0 [] [.row 3 1 (.slice P17 N17 C17) N17 ((LF es t).flatMap encInt)] w := O
      exact ⟨P17, N17, C17, congrArg Ending.returned (show Value.tuple #[.slice P17 N17 C17, .bool (decide (hasI t es = true))] = .tuple #[.slice P17 N17 C17, .bool (decide (((es.length = 4 ∧ okIn (-1) (11) es = true) ∧ (0 ≤ t ∧ t ≤ 11)) ∧ hasI t es = true))] from by rw [show decide (((es.length = 4 ∧ okIn (-1) (11) es = true) ∧ (0 ≤ t ∧ t ≤ 11)) ∧ hasI t es = true) = decide (hasI t es = true) from decide_eq_decide.2 ⟨fun h => h.2, fun h => ⟨⟨c7, c11⟩, h⟩⟩]), by first | (rw [LF_bad (by first | exact fun h => c7 h.1 | exact fun h => c11 h.2)]; rfl; done) | (rw [LF_ok ⟨c7, c11⟩]; first | omega | (rw [freeL_len]; omega)), by first | assumption | omega, O⟩
    · have F := F.setB (d := 11) rfl (decide_eq_false c11)
      refine sp F (p_not rfl) rfl rfl fun a F => sp F (p_pick (t := false) rfl rfl) rfl rfl fun a F => c_nil (hK3 _ _ (?_))
      try clear hK3 K3
      refine c_ift F rfl (c_seq fun K4 hK4 => c_region (so F rfl (o_bslice (cs := []) F O rfl Try.underlying22 Try.sz_3 Try.zero_3 rfl rfl rfl fun b14 w O a F => ?_)))
      have O : Own w0 [] [.cells b14 [] 3] w := O
      refine sp F (p_assign rfl) rfl rfl fun a F => sp F (p_assign rfl) rfl rfl fun a F => c_nil (hK4 _ _ (?_))
      try clear hK4 K4
      refine wp_ret (r_then (ret2 F rfl rfl rfl (?_)))
      have O := O.asRow 0 (q := 0) (sz := 1) rfl rfl (by unfold maxLen; omega)
      have O : Own w0 [] [.row 3 1 (.slice (some ⟨b14, 0, none⟩) 0 0) 0 ([])] w := O
      have O := O.setR 0 rfl (show Res.row 3 1 (.slice (some ⟨b14, 0, none⟩) 0 0) 0 ([]) = .row 3 1 (.slice (some ⟨b14, 0, none⟩) 0 0) 0 ((LF es t).flatMap encInt) from by first | (rw [LF_bad (by first | exact fun h => c7 h.1 | exact fun h => c11 h.2)]; rfl; done) | (rw [LF_ok ⟨c7, c11⟩]; done))
      have O : Own w0 [] [.row 3 1 (.slice (some ⟨b14, 0, none⟩) 0 0) 0 ((LF es t).flatMap encInt)] w := O
      exact ⟨(some ⟨b14, 0, none⟩), 0, 0, congrArg Ending.returned (show Value.tuple #[.slice (some ⟨b14, 0, none⟩) 0 0, .bool false] = .tuple #[.slice (some ⟨b14, 0, none⟩) 0 0, .bool (decide (((es.length = 4 ∧ okIn (-1) (11) es = true) ∧ (0 ≤ t ∧ t ≤ 11)) ∧ hasI t es = true))] from by rw [show decide (((es.length = 4 ∧ okIn (-1) (11) es = true) ∧ (0 ≤ t ∧ t ≤ 11)) ∧ hasI t es = true) = false from decide_eq_false (fun h => by first | exact c7 h.1.1 | exact c11 h.1.2)]), by first | (rw [LF_bad (by first | exact fun h => c7 h.1 | exact fun h => c11 h.2)]; rfl; done) | (rw [LF_ok ⟨c7, c11⟩]; first | omega | (rw [freeL_len]; omega)), by first | assumption | omega, O⟩
  · have F := F.setB (d := 7) rfl (decide_eq_false c7)
    refine sp F (p_not rfl) rfl rfl fun a F => sp F (p_move rfl) rfl rfl fun a F => ss F rfl rfl fun a F => ss F rfl rfl fun a F => ss F rfl rfl fun a F => sp F (p_pick (t := true) rfl rfl) rfl rfl fun a F => c_nil (hK3 _ _ (?_))
    try clear hK3 K3
    refine c_ift F rfl (c_seq fun K4 hK4 => c_region (so F rfl (o_bslice (cs := []) F O rfl Try.underlying22 Try.sz_3 Try.zero_3 rfl rfl rfl fun b14 w O a F => ?_)))
    have O : Own w0 [] [.cells b14 [] 3] w := O
    refine sp F (p_assign rfl) rfl rfl fun a F => sp F (p_assign rfl) rfl rfl fun a F => c_nil (hK4 _ _ (?_))
    try clear hK4 K4
    refine wp_ret (r_then (ret2 F rfl rfl rfl (?_)))
    have O := O.asRow 0 (q := 0) (sz := 1) rfl rfl (by unfold maxLen; omega)
    have O : Own w0 [] [.row 3 1 (.slice (some ⟨b14, 0, none⟩) 0 0) 0 ([])] w := O
    have O := O.setR 0 rfl (show Res.row 3 1 (.slice (some ⟨b14, 0, none⟩) 0 0) 0 ([]) = .row 3 1 (.slice (some ⟨b14, 0, none⟩) 0 0) 0 ((LF es t).flatMap encInt) from by first | (rw [LF_bad (by first | exact fun h => c7 h.1 | exact fun h => c11 h.2)]; rfl; done) | (rw [LF_ok ⟨c7, c11⟩]; done))
    have O : Own w0 [] [.row 3 1 (.slice (some ⟨b14, 0, none⟩) 0 0) 0 ((LF es t).flatMap encInt)] w := O
    exact ⟨(some ⟨b14, 0, none⟩), 0, 0, congrArg Ending.returned (show Value.tuple #[.slice (some ⟨b14, 0, none⟩) 0 0, .bool false] = .tuple #[.slice (some ⟨b14, 0, none⟩) 0 0, .bool (decide (((es.length = 4 ∧ okIn (-1) (11) es = true) ∧ (0 ≤ t ∧ t ≤ 11)) ∧ hasI t es = true))] from by rw [show decide (((es.length = 4 ∧ okIn (-1) (11) es = true) ∧ (0 ≤ t ∧ t ≤ 11)) ∧ hasI t es = true) = false from decide_eq_false (fun h => by first | exact c7 h.1.1 | exact c11 h.1.2)]), by first | (rw [LF_bad (by first | exact fun h => c7 h.1 | exact fun h => c11 h.2)]; rfl; done) | (rw [LF_ok ⟨c7, c11⟩]; first | omega | (rw [freeL_len]; omega)), by first | assumption | omega, O⟩

set_option maxRecDepth 100000 in
/-- impl.LocksFree -/
theorem iLocksFree_ok (A : Option Addr) (n : Nat) (c : Nat) (es : List (Int)) (t : Int) (w0 : World) (hA : Arr w0 encInt 1 A es) (hn : (n : Int) = es.length) (hb : (n : Int) ≤ 1048600) :
    Calls Try.prog 38 #[.slice A n c, .int .i64 (t)] w0 fun e w => ∃ (P : Option Addr), ∃ (N : Nat), ∃ (C : Nat), e = .returned (.tuple #[.slice P N C, .bool (decide (((es.length = 4 ∧ okIn (-1) (11) es = true) ∧ (0 ≤ t ∧ t ≤ 11)) ∧ hasI t es = true))]) ∧ ((N : Int) = (LF es t).length) ∧ ((N : Int) ≤ 1048600) ∧ Own w0 [] [.row 3 1 (.slice P N C) N ((LF es t).flatMap encInt)] w := by
  have O := Own.start w0
  refine enterO (n := 21) Try.func38 rfl rfl rfl O fun a w F O => ?_
  refine c_seq fun K1 hK1 => c_region (sp F (p_assign rfl) rfl rfl fun a F => sp F (p_assign rfl) rfl rfl fun a F => c_nil (hK1 _ _ (?_)))
  try clear hK1 K1
  refine c_seq fun K2 hK2 => c_seq fun K3 hK3 => c_region (sp F (p_move rfl) rfl rfl fun a F => so F rfl (o_call (vs := #[.slice A n c]) F Try.en_19 rfl rfl ((iLocksValid_ok A n c es w (hA.keep O) (by first | omega | (simp; done) | (simp; omega) | (simp at *; omega)) (by omega)).mono ?_)))
  rintro e w ⟨rfl, K⟩
  refine ⟨_, rfl, fun a F => ?_⟩
  have O : Own w0 [] [] w := O.call0 K
  clear K
  have O : Own w0 [] [] w := O
  by_cases c8 : es.length = 4 ∧ okIn (-1) (11) es = true
  · have F := F.setB (d := 8) rfl (decide_eq_true c8)
    refine sp F (p_not rfl) rfl rfl fun a F => sp F (p_move rfl) rfl rfl fun a F => sp F (p_move rfl) rfl rfl fun a F => so F rfl (o_call (vs := #[.int .i64 (t)]) F Try.en_53 rfl rfl ((isTxn_ok t w).mono ?_))
    rintro e w ⟨rfl, K⟩
    refine ⟨_, rfl, fun a F => ?_⟩
    have O : Own w0 [] [] w := O.call0 K
    clear K
    have O : Own w0 [] [] w := O
    by_cases c12 : 0 ≤ t ∧ t ≤ 11
    · have F := F.setB (d := 12) rfl (decide_eq_true c12)
      refine sp F (p_not rfl) rfl rfl fun a F => sp F (p_pick (t := false) rfl rfl) rfl rfl fun a F => c_nil (hK3 _ _ (?_))
      try clear hK3 K3
      refine c_iff F rfl (wp_skip (hK2 _ _ (?_)))
      try clear hK2 K2
      refine c_seq fun K4 hK4 => c_region (sp F (p_move rfl) rfl rfl fun a F => so F rfl (o_call (vs := #[.slice A n c]) F Try.en_68 rfl rfl ((clone_ok A n c es w (hA.keep O) (by first | omega | (simp; done) | (simp; omega) | (simp at *; omega)) (by omega) (by first | omega | (simp; done) | (simp; omega) | (simp at *; omega))).mono ?_)))
      rintro e w ⟨P16, N16, C16, rfl, h16a, h16b, K⟩
      refine ⟨_, rfl, fun a F => ?_⟩
      have O : Own w0 [] [.row 3 1 (.slice P16 N16 C16) N16 (es.flatMap encInt)] w := O.call0 K
      clear K
      have O : Own w0 [] [.row 3 1 (.slice P16 N16 C16) N16 (es.flatMap encInt)] w := O
      refine sp F (p_assign rfl) rfl rfl fun a F => c_nil (hK4 _ _ (?_))
      try clear hK4 K4
      refine c_seq fun K5 hK5 => c_region (sp F (p_move rfl) rfl rfl fun a F => sp F (p_move rfl) rfl rfl fun a F => sp F (p_move rfl) rfl rfl fun a F => ?_)
      obtain ⟨b20, hp20⟩ := O.rowSome 0 rfl (by omega)
      rw [hp20] at O
      try rw [hp20] at F
      refine so F rfl (o_call (vs := #[.slice (some ⟨b20, 0, none⟩) N16 C16, .int .i64 (t)]) F Try.en_69 rfl rfl ((release_ok b20 N16 C16 es t w (by first | omega | (simp; done) | (simp; omega) | (simp at *; omega)) (by omega) (O.hand1 rfl)).mono ?_))
      rintro e w ⟨rfl, K⟩
      refine ⟨_, rfl, fun a F => ?_⟩
      have O : Own w0 [] [.row 3 1 (.slice (some ⟨b20, 0, none⟩) N16 C16) N16 ((freeL t es).flatMap encInt)] w := O.call1 K rfl
      clear K
      have O : Own w0 [] [.row 3 1 (.slice (some ⟨b20, 0, none⟩) N16 C16) N16 ((freeL t es).flatMap encInt)] w := O
      refine sp F (p_assign rfl) rfl rfl fun a F => sp F (p_assign rfl) rfl rfl fun a F => c_nil (hK5 _ _ (?_))
      try clear hK5 K5
      refine wp_ret (ret2 F rfl rfl rfl (?_))
      have O := O.setR 0 rfl (show Res.row 3 1 (.slice (some ⟨b20, 0, none⟩) N16 C16) N16 ((freeL t es).flatMap encInt) = .row 3 1 (.slice (some ⟨b20, 0, none⟩) N16 C16) N16 ((LF es t).flatMap encInt) from by first | (rw [LF_bad (by first | exact fun h => c8 h.1 | exact fun h => c12 h.2)]; rfl; done) | (rw [LF_ok ⟨c8, c12⟩]; done))
      have O : Own w0 [] [.row 3 1 (.slice (some ⟨b20, 0, none⟩) N16 C16) N16 ((LF es t).flatMap encInt)] w := O
      exact ⟨(some ⟨b20, 0, none⟩), N16, C16, congrArg Ending.returned (show Value.tuple #[.slice (some ⟨b20, 0, none⟩) N16 C16, .bool (decide (hasI t es = true))] = .tuple #[.slice (some ⟨b20, 0, none⟩) N16 C16, .bool (decide (((es.length = 4 ∧ okIn (-1) (11) es = true) ∧ (0 ≤ t ∧ t ≤ 11)) ∧ hasI t es = true))] from by rw [show decide (((es.length = 4 ∧ okIn (-1) (11) es = true) ∧ (0 ≤ t ∧ t ≤ 11)) ∧ hasI t es = true) = decide (hasI t es = true) from decide_eq_decide.2 ⟨fun h => h.2, fun h => ⟨⟨c8, c12⟩, h⟩⟩]), by first | (rw [LF_bad (by first | exact fun h => c8 h.1 | exact fun h => c12 h.2)]; rfl; done) | (rw [LF_ok ⟨c8, c12⟩]; first | omega | (rw [freeL_len]; omega)), by first | assumption | omega, O⟩
    · have F := F.setB (d := 12) rfl (decide_eq_false c12)
      refine sp F (p_not rfl) rfl rfl fun a F => sp F (p_pick (t := false) rfl rfl) rfl rfl fun a F => c_nil (hK3 _ _ (?_))
      try clear hK3 K3
      refine c_ift F rfl (c_seq fun K4 hK4 => c_region (sp F (p_assign rfl) rfl rfl fun a F => sp F (p_assign rfl) rfl rfl fun a F => c_nil (hK4 _ _ (?_))))
      try clear hK4 K4
      refine wp_ret (r_then (ret2 F rfl rfl rfl (?_)))
      have O := O.addNil 3 1
      have O : Own w0 [] [.row 3 1 (.slice none 0 0) 0 ([])] w := O
      have O := O.setR 0 rfl (show Res.row 3 1 (.slice none 0 0) 0 ([]) = .row 3 1 (.slice none 0 0) 0 ((LF es t).flatMap encInt) from by first | (rw [LF_bad (by first | exact fun h => c8 h.1 | exact fun h => c12 h.2)]; rfl; done) | (rw [LF_ok ⟨c8, c12⟩]; done))
      have O : Own w0 [] [.row 3 1 (.slice none 0 0) 0 ((LF es t).flatMap encInt)] w := O
      exact ⟨none, 0, 0, congrArg Ending.returned (show Value.tuple #[.slice none 0 0, .bool false] = .tuple #[.slice none 0 0, .bool (decide (((es.length = 4 ∧ okIn (-1) (11) es = true) ∧ (0 ≤ t ∧ t ≤ 11)) ∧ hasI t es = true))] from by rw [show decide (((es.length = 4 ∧ okIn (-1) (11) es = true) ∧ (0 ≤ t ∧ t ≤ 11)) ∧ hasI t es = true) = false from decide_eq_false (fun h => by first | exact c8 h.1.1 | exact c12 h.1.2)]), by first | (rw [LF_bad (by first | exact fun h => c8 h.1 | exact fun h => c12 h.2)]; rfl; done) | (rw [LF_ok ⟨c8, c12⟩]; first | omega | (rw [freeL_len]; omega)), by first | assumption | omega, O⟩
  · have F := F.setB (d := 8) rfl (decide_eq_false c8)
    refine sp F (p_not rfl) rfl rfl fun a F => sp F (p_move rfl) rfl rfl fun a F => ss F rfl rfl fun a F => ss F rfl rfl fun a F => ss F rfl rfl fun a F => sp F (p_pick (t := true) rfl rfl) rfl rfl fun a F => c_nil (hK3 _ _ (?_))
    try clear hK3 K3
    refine c_ift F rfl (c_seq fun K4 hK4 => c_region (sp F (p_assign rfl) rfl rfl fun a F => sp F (p_assign rfl) rfl rfl fun a F => c_nil (hK4 _ _ (?_))))
    try clear hK4 K4
    refine wp_ret (r_then (ret2 F rfl rfl rfl (?_)))
    have O := O.addNil 3 1
    have O : Own w0 [] [.row 3 1 (.slice none 0 0) 0 ([])] w := O
    have O := O.setR 0 rfl (show Res.row 3 1 (.slice none 0 0) 0 ([]) = .row 3 1 (.slice none 0 0) 0 ((LF es t).flatMap encInt) from by first | (rw [LF_bad (by first | exact fun h => c8 h.1 | exact fun h => c12 h.2)]; rfl; done) | (rw [LF_ok ⟨c8, c12⟩]; done))
    have O : Own w0 [] [.row 3 1 (.slice none 0 0) 0 ((LF es t).flatMap encInt)] w := O
    exact ⟨none, 0, 0, congrArg Ending.returned (show Value.tuple #[.slice none 0 0, .bool false] = .tuple #[.slice none 0 0, .bool (decide (((es.length = 4 ∧ okIn (-1) (11) es = true) ∧ (0 ≤ t ∧ t ≤ 11)) ∧ hasI t es = true))] from by rw [show decide (((es.length = 4 ∧ okIn (-1) (11) es = true) ∧ (0 ≤ t ∧ t ≤ 11)) ∧ hasI t es = true) = false from decide_eq_false (fun h => by first | exact c8 h.1.1 | exact c12 h.1.2)]), by first | (rw [LF_bad (by first | exact fun h => c8 h.1 | exact fun h => c12 h.2)]; rfl; done) | (rw [LF_ok ⟨c8, c12⟩]; first | omega | (rw [freeL_len]; omega)), by first | assumption | omega, O⟩

end Go.Proofs.Ytilpbddeijolbaa
