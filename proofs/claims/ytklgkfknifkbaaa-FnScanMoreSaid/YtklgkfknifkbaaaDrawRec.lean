/- The reader is opened over a code; a record is drawn. No conditions but those on the place and on the lengths. -/
import Derived.Test.YtklgkfknifkbaaaSmall
import Derived.Test.YtklgkfknifkbaaaPick
namespace Go.Proofs.Ytklgkfknifkbaaa
open Go.ChangeShapes Go.WideShapes Go.ChangeAt Go.RowKit
set_option linter.unusedVariables false
set_option linter.unusedSimpArgs false

set_option maxRecDepth 100000 in
/-- spec.l6Open -/
theorem l6Open_ok (A : Option Addr) (cn : Nat) (cc : Nat) (w0 : World) (hcc : (cn : Int) ≤ cc) (hcm : (cc : Int) ≤ 9223372036854775807) :
    Calls Try.prog 56 #[.slice A cn cc] w0 fun e w => ∃ (b : Nat), ∃ (m : Nat), e = .returned (.pointer (some ⟨b, 0, none⟩)) ∧ ((m : Int) ≤ 2000) ∧ ((m : Int) ≤ cn) ∧ Own w0 [] [.cells b [.slice A m cc, .int .i64 (0)] 67] w := by
  have O := Own.start w0
  refine enterO (n := 11) Try.func56 rfl rfl rfl O fun a w F O => ?_
  refine c_seq fun K1 hK1 => c_region (sp F (p_assign rfl) rfl rfl fun a F => c_nil (hK1 _ _ (?_)))
  try clear hK1 K1
  refine c_seq fun K2 hK2 => c_seq fun K3 hK3 => c_region (sp F (p_move rfl) rfl rfl fun a F => sp F (p_len_l rfl Try.underlying34) rfl rfl fun a F => sp F (p_gtr rfl rfl) rfl rfl fun a F => c_nil (hK3 _ _ (?_)))
  try clear hK3 K3
  by_cases c5 : 2000 < (cn : Int)
  · have F := F.setB (d := 5) rfl (decide_eq_true c5)
    refine c_ift F rfl (c_region (sp F (p_move rfl) rfl rfl fun a F => sp F (p_slto rfl rfl Try.underlying34 Try.sz_5 (by omega) (by omega)) rfl rfl fun a F => sp F (p_assign rfl) rfl rfl fun a F => c_nil (hK2 _ _ (?_))))
    try clear hK2 K2
    refine c_seq fun K4 hK4 => c_region (sp F (p_move rfl) rfl rfl fun a F => sp F (p_build (cs := [.slice A ((2000 : Int).toNat) cc, .int .i64 (0)]) rfl Try.places_67 rfl) rfl rfl fun a F => so F rfl (o_box F O rfl rfl fun b10 w O a F => ?_))
    have O : Own w0 [] [.cells b10 [.slice A ((2000 : Int).toNat) cc, .int .i64 (0)] 67] w := O
    refine sp F (p_assign rfl) rfl rfl fun a F => c_nil (hK4 _ _ (?_))
    try clear hK4 K4
    refine wp_ret (ret1 F rfl rfl (?_))
    exact ⟨b10, ((2000 : Int).toNat), rfl, by first | assumption | omega, by first | assumption | omega, O⟩
  · have F := F.setB (d := 5) rfl (decide_eq_false c5)
    refine c_iff F rfl (wp_skip (hK2 _ _ (?_)))
    try clear hK2 K2
    refine c_seq fun K4 hK4 => c_region (sp F (p_move rfl) rfl rfl fun a F => sp F (p_build (cs := [.slice A cn cc, .int .i64 (0)]) rfl Try.places_67 rfl) rfl rfl fun a F => so F rfl (o_box F O rfl rfl fun b10 w O a F => ?_))
    have O : Own w0 [] [.cells b10 [.slice A cn cc, .int .i64 (0)] 67] w := O
    refine sp F (p_assign rfl) rfl rfl fun a F => c_nil (hK4 _ _ (?_))
    try clear hK4 K4
    refine wp_ret (ret1 F rfl rfl (?_))
    exact ⟨b10, cn, rfl, by first | assumption | omega, by first | assumption | omega, O⟩

set_option maxRecDepth 100000 in
/-- spec.l91Record -/
theorem l91Record_ok (g : Nat) (A : Option Addr) (cn : Nat) (cc : Nat) (p : Int) (w0 : World) (hCode : Code w0 g A cn) (hp0 : 0 ≤ p) (hp : p ≤ 900000) (O : Own w0 [g] [.cells g [.slice A cn cc, .int .i64 (p)] 67] w0) :
    Calls Try.prog 55 #[.pointer (some ⟨g, 0, none⟩)] w0 fun e w => ∃ (L : List UInt8), ∃ (q : Int), e = .returned (.string (bs (L))) ∧ ((L.length : Int) ≤ 13) ∧ (p ≤ q) ∧ (q ≤ p + 40) ∧ Own w0 [g] [.cells g [.slice A cn cc, .int .i64 (q)] 67] w := by
  refine enterO (n := 34) Try.func55 rfl rfl rfl O fun a w F O => ?_
  refine c_seq fun K1 hK1 => c_region (sp F (p_assign rfl) rfl rfl fun a F => c_nil (hK1 _ _ (?_)))
  try clear hK1 K1
  refine c_seq fun K2 hK2 => c_region (sp F (p_move rfl) rfl rfl fun a F => so F rfl (o_call (vs := #[.pointer (some ⟨g, 0, none⟩), .int .i64 (8)]) F Try.en_61 rfl rfl ((pick_ok g A cn cc p 8 67 w (hCode.keep O (by simp)) (by omega) (by omega) (by omega) (by omega) (O.hand1 rfl)).mono ?_)))
  rintro e w ⟨r7, rfl, h7a, h7b, K⟩
  refine ⟨_, rfl, fun a F => ?_⟩
  have O : Own w0 [g] [.cells g [.slice A cn cc, .int .i64 (p + 1)] 67] w := O.call1 K rfl
  clear K
  have O : Own w0 [g] [.cells g [.slice A cn cc, .int .i64 (p + 1)] 67] w := O
  refine sp F (p_add rfl rfl (by omega) (by omega)) rfl rfl fun a F => sp F (p_assign rfl) rfl rfl fun a F => c_nil (hK2 _ _ (?_))
  try clear hK2 K2
  refine c_mid (fun a w => ∃ (m : Int), ∃ (q : Int), Has 34 [(0, .pointer (some ⟨g, 0, none⟩)), (2, .string (bs ([]))), (3, .int .i64 (m))] a ∧ Own w0 [g] [.cells g [.slice A cn cc, .int .i64 (q)] 67] w ∧ (0 ≤ m) ∧ (m ≤ 13) ∧ (p ≤ q) ∧ (q ≤ p + 3)) ?_ ?_
  · refine c_seq fun K3 hK3 => c_region (sp F (p_move rfl) rfl rfl fun a F => so F rfl (o_call (vs := #[.pointer (some ⟨g, 0, none⟩), .int .i64 (16)]) F Try.en_61 rfl rfl ((pick_ok g A cn cc (p + 1) 16 67 w (hCode.keep O (by simp)) (by omega) (by omega) (by omega) (by omega) (O.hand1 rfl)).mono ?_)))
    rintro e w ⟨r10, rfl, h10a, h10b, K⟩
    refine ⟨_, rfl, fun a F => ?_⟩
    have O : Own w0 [g] [.cells g [.slice A cn cc, .int .i64 ((p + 1) + 1)] 67] w := O.call1 K rfl
    clear K
    have O : Own w0 [g] [.cells g [.slice A cn cc, .int .i64 ((p + 1) + 1)] 67] w := O
    refine sp F (p_eql rfl rfl) rfl rfl fun a F => c_nil (hK3 _ _ (?_))
    try clear hK3 K3
    by_cases c11 : r10 = 0
    · have F := F.setB (d := 11) rfl (decide_eq_true c11)
      refine c_ift F rfl (c_region (so F rfl (o_bslice (cs := [.int .i64 (0), .int .i64 (11), .int .i64 (12), .int .i64 (13)]) F O rfl Try.underlying65 Try.sz_3 Try.zero_3 rfl rfl rfl fun b12 w O a F => ?_)))
      have O : Own w0 [g] [.cells b12 [.int .i64 (0), .int .i64 (11), .int .i64 (12), .int .i64 (13)] 3, .cells g [.slice A cn cc, .int .i64 ((p + 1) + 1)] 67] w := O
      refine sp F (p_move rfl) rfl rfl fun a F => ?_
      have O := O.pull 1 rfl
      have O : Own w0 [g] [.cells g [.slice A cn cc, .int .i64 ((p + 1) + 1)] 67, .cells b12 [.int .i64 (0), .int .i64 (11), .int .i64 (12), .int .i64 (13)] 3] w := O
      refine so F rfl (o_call (vs := #[.pointer (some ⟨g, 0, none⟩), .int .i64 (4)]) F Try.en_61 rfl rfl ((pick_ok g A cn cc ((p + 1) + 1) 4 67 w (hCode.keep O (by simp)) (by omega) (by omega) (by omega) (by omega) (O.hand1 rfl)).mono ?_))
      rintro e w ⟨r14, rfl, h14a, h14b, K⟩
      refine ⟨_, rfl, fun a F => ?_⟩
      have O : Own w0 [g] [.cells g [.slice A cn cc, .int .i64 (((p + 1) + 1) + 1)] 67, .cells b12 [.int .i64 (0), .int .i64 (11), .int .i64 (12), .int .i64 (13)] 3] w := O.call1 K rfl
      clear K
      have O : Own w0 [g] [.cells g [.slice A cn cc, .int .i64 (((p + 1) + 1) + 1)] 67, .cells b12 [.int .i64 (0), .int .i64 (11), .int .i64 (12), .int .i64 (13)] 3] w := O
      rcases (by omega : r14 = 0 ∨ r14 = 1 ∨ r14 = 2 ∨ r14 = 3) with rfl | rfl | rfl | rfl
      · refine sp F (p_iaddr rfl rfl Try.underlying65 Try.sz_3 (by omega) (by omega)) rfl rfl fun a F => sp F (p_load rfl Try.agg_3 (fun _ h => (ld1 (O.load 1 rfl rfl) h))) rfl rfl fun a F => sp F (p_assign rfl) rfl rfl fun a F => c_nil (?_)
        have F : Has 34 [(0, .pointer (some ⟨g, 0, none⟩)), (2, .string (bs ([]))), (3, .int .i64 (0))] a := F.pick ⟨rfl, rfl, rfl, trivial⟩
        have O : Own w0 [g] [.cells g [.slice A cn cc, .int .i64 (((p + 1) + 1) + 1)] 67] w := (O.take 1)
        exact ⟨0, (((p + 1) + 1) + 1), F, O, by first | assumption | omega, by first | assumption | omega, by first | assumption | omega, by first | assumption | omega⟩
      · refine sp F (p_iaddr rfl rfl Try.underlying65 Try.sz_3 (by omega) (by omega)) rfl rfl fun a F => sp F (p_load rfl Try.agg_3 (fun _ h => (ld1 (O.load 1 rfl rfl) h))) rfl rfl fun a F => sp F (p_assign rfl) rfl rfl fun a F => c_nil (?_)
        have F : Has 34 [(0, .pointer (some ⟨g, 0, none⟩)), (2, .string (bs ([]))), (3, .int .i64 (11))] a := F.pick ⟨rfl, rfl, rfl, trivial⟩
        have O : Own w0 [g] [.cells g [.slice A cn cc, .int .i64 (((p + 1) + 1) + 1)] 67] w := (O.take 1)
        exact ⟨11, (((p + 1) + 1) + 1), F, O, by first | assumption | omega, by first | assumption | omega, by first | assumption | omega, by first | assumption | omega⟩
      · refine sp F (p_iaddr rfl rfl Try.underlying65 Try.sz_3 (by omega) (by omega)) rfl rfl fun a F => sp F (p_load rfl Try.agg_3 (fun _ h => (ld1 (O.load 1 rfl rfl) h))) rfl rfl fun a F => sp F (p_assign rfl) rfl rfl fun a F => c_nil (?_)
        have F : Has 34 [(0, .pointer (some ⟨g, 0, none⟩)), (2, .string (bs ([]))), (3, .int .i64 (12))] a := F.pick ⟨rfl, rfl, rfl, trivial⟩
        have O : Own w0 [g] [.cells g [.slice A cn cc, .int .i64 (((p + 1) + 1) + 1)] 67] w := (O.take 1)
        exact ⟨12, (((p + 1) + 1) + 1), F, O, by first | assumption | omega, by first | assumption | omega, by first | assumption | omega, by first | assumption | omega⟩
      · refine sp F (p_iaddr rfl rfl Try.underlying65 Try.sz_3 (by omega) (by omega)) rfl rfl fun a F => sp F (p_load rfl Try.agg_3 (fun _ h => (ld1 (O.load 1 rfl rfl) h))) rfl rfl fun a F => sp F (p_assign rfl) rfl rfl fun a F => c_nil (?_)
        have F : Has 34 [(0, .pointer (some ⟨g, 0, none⟩)), (2, .string (bs ([]))), (3, .int .i64 (13))] a := F.pick ⟨rfl, rfl, rfl, trivial⟩
        have O : Own w0 [g] [.cells g [.slice A cn cc, .int .i64 (((p + 1) + 1) + 1)] 67] w := (O.take 1)
        exact ⟨13, (((p + 1) + 1) + 1), F, O, by first | assumption | omega, by first | assumption | omega, by first | assumption | omega, by first | assumption | omega⟩
    · have F := F.setB (d := 11) rfl (decide_eq_false c11)
      refine c_iff F rfl (wp_skip (?_))
      have F : Has 34 [(0, .pointer (some ⟨g, 0, none⟩)), (2, .string (bs ([]))), (3, .int .i64 (1 + r7))] a := F.pick ⟨rfl, rfl, rfl, trivial⟩
      exact ⟨(1 + r7), ((p + 1) + 1), F, O, by first | assumption | omega, by first | assumption | omega, by first | assumption | omega, by first | assumption | omega⟩
  · rintro a w ⟨m, q, F, O, hm11a, hm11b, hm11c, hm11d⟩
    refine c_seq fun K3 hK3 => c_region (so F rfl (o_bslice (cs := []) F O rfl Try.underlying34 Try.sz_5 Try.zero_5 rfl rfl rfl fun b17 w O a F => ?_))
    have O : Own w0 [g] [.cells b17 [] 5, .cells g [.slice A cn cc, .int .i64 (q)] 67] w := O
    refine sp F (p_assign rfl) rfl rfl fun a F => c_nil (hK3 _ _ (?_))
    try clear hK3 K3
    refine c_seq fun K4 hK4 => c_seq fun K5 hK5 => c_region (sp F (p_assign rfl) rfl rfl fun a F => c_nil (hK5 _ _ (?_)))
    try clear hK5 K5
    refine wp_block (?_)
    refine c_loop (fun mm a w => ∃ (k : Int), ∃ (q : Int), ∃ (P : Option Addr), ∃ (N : Nat), ∃ (C : Nat), ∃ (L : List UInt8), mm = (m - k).toNat ∧ Has 34 [(0, .pointer (some ⟨g, 0, none⟩)), (2, .string (bs ([]))), (3, .int .i64 (m)), (5, .int .i64 (k)), (4, .slice P N C)] a ∧ Own w0 [g] [.cells g [.slice A cn cc, .int .i64 (q)] 67, .row 5 1 (.slice P N C) N (L.flatMap encU8)] w ∧ (0 ≤ k) ∧ (k ≤ m) ∧ ((N : Int) = k) ∧ ((L.length : Int) = k) ∧ (p ≤ q) ∧ (q ≤ p + 3 + 2 * k)) ?_ ?_
    · have F : Has 34 [(0, .pointer (some ⟨g, 0, none⟩)), (2, .string (bs ([]))), (3, .int .i64 (m)), (5, .int .i64 (0)), (4, .slice (some ⟨b17, 0, none⟩) 0 0)] a := F.pick ⟨rfl, rfl, rfl, rfl, rfl, trivial⟩
      have O := O.asRow 0 (q := 0) (sz := 1) rfl rfl (by unfold maxLen; omega)
      have O : Own w0 [g] [.row 5 1 (.slice (some ⟨b17, 0, none⟩) 0 0) 0 ([]), .cells g [.slice A cn cc, .int .i64 (q)] 67] w := O
      have O := O.setR 0 rfl (show Res.row 5 1 (.slice (some ⟨b17, 0, none⟩) 0 0) 0 ([]) = .row 5 1 (.slice (some ⟨b17, 0, none⟩) 0 0) 0 (([]).flatMap encU8) from by rfl)
      have O : Own w0 [g] [.row 5 1 (.slice (some ⟨b17, 0, none⟩) 0 0) 0 (([]).flatMap encU8), .cells g [.slice A cn cc, .int .i64 (q)] 67] w := O
      have O : Own w0 [g] [.cells g [.slice A cn cc, .int .i64 (q)] 67, .row 5 1 (.slice (some ⟨b17, 0, none⟩) 0 0) 0 (([]).flatMap encU8)] w := ((O.pull 0 rfl).pull 1 rfl)
      exact ⟨(m - 0).toNat, 0, q, (some ⟨b17, 0, none⟩), 0, 0, ([]), rfl, F, O, by first | assumption | omega, by first | assumption | omega, by first | assumption | omega, by simp, by first | assumption | omega, by first | assumption | omega⟩
    · rintro mm a w ⟨k, q, P, N, C, L, rfl, F, O, hi0a, hi0b, hi0c, hi0d, hi0e, hi0f⟩
      refine c_seq fun K6 hK6 => c_seq fun K7 hK7 => c_region (sp F (p_move rfl) rfl rfl fun a F => sp F (p_move rfl) rfl rfl fun a F => sp F (p_lss rfl rfl) rfl rfl fun a F => c_nil (hK7 _ _ (?_)))
      try clear hK7 K7
      by_cases c20 : k < m
      · have F := F.setB (d := 20) rfl (decide_eq_true c20)
        refine c_ift F rfl (wp_skip (hK6 _ _ (?_)))
        try clear hK6 K6
        refine c_seq fun K8 hK8 => wp_block (c_region (sp F (p_move rfl) rfl rfl fun a F => sp F (p_move rfl) rfl rfl fun a F => so F rfl (o_call (vs := #[.pointer (some ⟨g, 0, none⟩), .int .i64 (16)]) F Try.en_61 rfl rfl ((pick_ok g A cn cc q 16 67 w (hCode.keep O (by simp)) (by omega) (by omega) (by omega) (by omega) (O.hand1 rfl)).mono ?_))))
        rintro e w ⟨r25, rfl, h25a, h25b, K⟩
        refine ⟨_, rfl, fun a F => ?_⟩
        have O : Own w0 [g] [.cells g [.slice A cn cc, .int .i64 (q + 1)] 67, .row 5 1 (.slice P N C) N (L.flatMap encU8)] w := O.call1 K rfl
        clear K
        have O : Own w0 [g] [.cells g [.slice A cn cc, .int .i64 (q + 1)] 67, .row 5 1 (.slice P N C) N (L.flatMap encU8)] w := O
        refine sp F (p_move rfl) rfl rfl fun a F => so F rfl (o_call (vs := #[.pointer (some ⟨g, 0, none⟩), .int .i64 (16)]) F Try.en_61 rfl rfl ((pick_ok g A cn cc (q + 1) 16 67 w (hCode.keep O (by simp)) (by omega) (by omega) (by omega) (by omega) (O.hand1 rfl)).mono ?_))
        rintro e w ⟨r27, rfl, h27a, h27b, K⟩
        refine ⟨_, rfl, fun a F => ?_⟩
        have O : Own w0 [g] [.cells g [.slice A cn cc, .int .i64 ((q + 1) + 1)] 67, .row 5 1 (.slice P N C) N (L.flatMap encU8)] w := O.call1 K rfl
        clear K
        have O : Own w0 [g] [.cells g [.slice A cn cc, .int .i64 ((q + 1) + 1)] 67, .row 5 1 (.slice P N C) N (L.flatMap encU8)] w := O
        obtain ⟨hx1, hx2⟩ := mul_bd (a := r25) (b := r27) (A := 15) (B := 15) (by omega) (by omega) (by omega) (by omega)
        refine sp F (p_mul rfl rfl (by omega) (by omega)) rfl rfl fun a F => sp F (p_convu8 rfl (by rw [Try.underlying3]; rfl) Try.underlying5) rfl rfl fun a F => so F rfl (o_bslice (cs := [.int .u8 ((r25 * r27) % 256)]) F O rfl Try.underlying34 Try.sz_5 Try.zero_5 rfl rfl rfl fun b30 w O a F => ?_)
        have O : Own w0 [g] [.cells b30 [.int .u8 ((r25 * r27) % 256)] 5, .cells g [.slice A cn cc, .int .i64 ((q + 1) + 1)] 67, .row 5 1 (.slice P N C) N (L.flatMap encU8)] w := O
        refine so F rfl (o_append F O rfl rfl Try.underlying34 Try.elem_5 (by decide) 2 0 rfl rfl rfl rfl (by unfold maxLen; omega) (by omega) rfl fun p31 k31 w O a F => ?_)
        have O : Own w0 [g] [.cells b30 [.int .u8 ((r25 * r27) % 256)] 5, .cells g [.slice A cn cc, .int .i64 ((q + 1) + 1)] 67, .row 5 1 (.slice p31 (N + 1) k31) (N + 1) ((L.flatMap encU8) ++ [.int .u8 ((r25 * r27) % 256)])] w := O
        have O := O.setR 2 rfl (show Res.row 5 1 (.slice p31 (N + 1) k31) (N + 1) ((L.flatMap encU8) ++ [.int .u8 ((r25 * r27) % 256)]) = .row 5 1 (.slice p31 (N + 1) k31) (N + 1) ((L ++ [UInt8.ofNat ((r25 * r27) % 256).toNat]).flatMap encU8) from by exact row_snoc (encU8_of (by omega) (by omega)).symm)
        have O : Own w0 [g] [.cells b30 [.int .u8 ((r25 * r27) % 256)] 5, .cells g [.slice A cn cc, .int .i64 ((q + 1) + 1)] 67, .row 5 1 (.slice p31 (N + 1) k31) (N + 1) ((L ++ [UInt8.ofNat ((r25 * r27) % 256).toNat]).flatMap encU8)] w := O
        refine sp F (p_assign rfl) rfl rfl fun a F => c_nil (hK8 _ _ (?_))
        try clear hK8 K8
        refine c_region (sp F (p_move rfl) rfl rfl fun a F => sp F (p_add rfl rfl (by omega) (by omega)) rfl rfl fun a F => sp F (p_assign rfl) rfl rfl fun a F => c_nil (?_))
        have F : Has 34 [(0, .pointer (some ⟨g, 0, none⟩)), (2, .string (bs ([]))), (3, .int .i64 (m)), (5, .int .i64 (k + 1)), (4, .slice p31 (N + 1) k31)] a := F.pick ⟨rfl, rfl, rfl, rfl, rfl, trivial⟩
        have O : Own w0 [g] [.cells g [.slice A cn cc, .int .i64 ((q + 1) + 1)] 67, .row 5 1 (.slice p31 (N + 1) k31) (N + 1) ((L ++ [UInt8.ofNat ((r25 * r27) % 256).toNat]).flatMap encU8)] w := (((O.pull 2 rfl).pull 2 rfl).take 2)
        exact ⟨(m - (k + 1)).toNat, by omega, (k + 1), ((q + 1) + 1), p31, (N + 1), k31, (L ++ [UInt8.ofNat ((r25 * r27) % 256).toNat]), rfl, F, O, by first | assumption | omega, by first | assumption | omega, by first | assumption | omega, by simp; omega, by first | assumption | omega, by first | assumption | omega⟩
      · have F := F.setB (d := 20) rfl (decide_eq_false c20)
        refine c_iff F rfl (wp_exit (e_then (e_then (e_here (hK4 _ _ (?_))))))
        try clear hK4 K4
        refine c_seq fun K8 hK8 => c_region (sp F (p_move rfl) rfl rfl fun a F => sp F (p_cbsRow (l := L) rfl Try.underlying34 Try.underlying5 Try.underlying9 1 O rfl) rfl rfl fun a F => sp F (p_assign rfl) rfl rfl fun a F => c_nil (hK8 _ _ (?_)))
        try clear hK8 K8
        refine wp_ret (ret1 F rfl rfl (?_))
        have O : Own w0 [g] [.cells g [.slice A cn cc, .int .i64 (q)] 67] w := (O.take 1)
        exact ⟨L, q, rfl, by first | assumption | omega, by first | assumption | omega, by first | assumption | omega, O⟩

end Go.Proofs.Ytklgkfknifkbaaa
