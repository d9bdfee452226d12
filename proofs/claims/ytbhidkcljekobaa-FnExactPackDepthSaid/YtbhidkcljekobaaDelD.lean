/- Operations drawn from a code. No conditions but that the place is small. -/
import Derived.Test.YtbhidkcljekobaaDelA
namespace Go.Proofs.Ytbhidkcljekobaa
open Go.ChangeShapes Go.WideShapes Go.ChangeAt Go.RowKit
set_option linter.unusedVariables false
set_option linter.unusedSimpArgs false

set_option maxRecDepth 100000 in
/-- spec.l6Open -/
theorem l6Open_ok (A : Option Addr) (cn : Nat) (cc : Nat) (w0 : World) (hcc : (cn : Int) ≤ cc) (hcm : (cc : Int) ≤ 9223372036854775807) :
    Calls Try.prog 29 #[.slice A cn cc] w0 fun e w => ∃ (b : Nat), ∃ (m : Nat), e = .returned (.pointer (some ⟨b, 0, none⟩)) ∧ ((m : Int) ≤ 2000) ∧ ((m : Int) ≤ cn) ∧ Own w0 [] [.cells b [.slice A m cc, .int .i64 (0)] 78] w := by
  have O := Own.start w0
  refine enterO (n := 11) Try.func29 rfl rfl rfl O fun a w F O => ?_
  refine c_seq fun K1 hK1 => c_region (sp F (p_assign rfl) rfl rfl fun a F => c_nil (hK1 _ _ (?_)))
  try clear hK1 K1
  refine c_seq fun K2 hK2 => c_seq fun K3 hK3 => c_region (sp F (p_move rfl) rfl rfl fun a F => sp F (p_len_l rfl Try.underlying22) rfl rfl fun a F => sp F (p_gtr rfl rfl) rfl rfl fun a F => c_nil (hK3 _ _ (?_)))
  try clear hK3 K3
  by_cases c5 : 2000 < (cn : Int)
  · have F := F.setB (d := 5) rfl (decide_eq_true c5)
    refine c_ift F rfl (c_region (sp F (p_move rfl) rfl rfl fun a F => sp F (p_slto rfl rfl Try.underlying22 Try.sz_5 (by omega) (by omega)) rfl rfl fun a F => sp F (p_assign rfl) rfl rfl fun a F => c_nil (hK2 _ _ (?_))))
    try clear hK2 K2
    refine c_seq fun K4 hK4 => c_region (sp F (p_move rfl) rfl rfl fun a F => sp F (p_build (cs := [.slice A ((2000 : Int).toNat) cc, .int .i64 (0)]) rfl Try.places_78 rfl) rfl rfl fun a F => so F rfl (o_box F O rfl rfl fun b10 w O a F => ?_))
    have O : Own w0 [] [.cells b10 [.slice A ((2000 : Int).toNat) cc, .int .i64 (0)] 78] w := O
    refine sp F (p_assign rfl) rfl rfl fun a F => c_nil (hK4 _ _ (?_))
    try clear hK4 K4
    refine wp_ret (ret1 F rfl rfl (?_))
    exact ⟨b10, ((2000 : Int).toNat), rfl, by first | assumption | omega, by first | assumption | omega, O⟩
  · have F := F.setB (d := 5) rfl (decide_eq_false c5)
    refine c_iff F rfl (wp_skip (hK2 _ _ (?_)))
    try clear hK2 K2
    refine c_seq fun K4 hK4 => c_region (sp F (p_move rfl) rfl rfl fun a F => sp F (p_build (cs := [.slice A cn cc, .int .i64 (0)]) rfl Try.places_78 rfl) rfl rfl fun a F => so F rfl (o_box F O rfl rfl fun b10 w O a F => ?_))
    have O : Own w0 [] [.cells b10 [.slice A cn cc, .int .i64 (0)] 78] w := O
    refine sp F (p_assign rfl) rfl rfl fun a F => c_nil (hK4 _ _ (?_))
    try clear hK4 K4
    refine wp_ret (ret1 F rfl rfl (?_))
    exact ⟨b10, cn, rfl, by first | assumption | omega, by first | assumption | omega, O⟩

set_option maxRecDepth 100000 in
/-- spec.l91Text -/
theorem l91Text_ok (g : Nat) (A : Option Addr) (cn : Nat) (cc : Nat) (p : Int) (w0 : World) (hCode : Code w0 g A cn) (hp0 : 0 ≤ p) (hp : p ≤ 900000) (O : Own w0 [g] [.cells g [.slice A cn cc, .int .i64 (p)] 78] w0) :
    Calls Try.prog 31 #[.pointer (some ⟨g, 0, none⟩)] w0 fun e w => ∃ (L : List UInt8), ∃ (q : Int), e = .returned (.string (bs (L))) ∧ ((L.length : Int) ≤ 9) ∧ (p ≤ q) ∧ (q ≤ p + 20) ∧ Own w0 [g] [.cells g [.slice A cn cc, .int .i64 (q)] 78] w := by
  refine enterO (n := 28) Try.func31 rfl rfl rfl O fun a w F O => ?_
  refine c_seq fun K1 hK1 => c_region (sp F (p_assign rfl) rfl rfl fun a F => c_nil (hK1 _ _ (?_)))
  try clear hK1 K1
  refine c_seq fun K2 hK2 => c_region (sp F (p_assign rfl) rfl rfl fun a F => c_nil (hK2 _ _ (?_)))
  try clear hK2 K2
  refine c_seq fun K3 hK3 => c_region (sp F (p_move rfl) rfl rfl fun a F => so F rfl (o_call (vs := #[.pointer (some ⟨g, 0, none⟩), .int .i64 (9)]) F Try.en_43 rfl rfl ((pick_ok g A cn cc p 9 78 w (hCode.keep O (by simp)) (by omega) (by omega) (by omega) (by omega) (O.hand1 rfl)).mono ?_)))
  rintro e w ⟨r7, rfl, h7a, h7b, K⟩
  refine ⟨_, rfl, fun a F => ?_⟩
  have O : Own w0 [g] [.cells g [.slice A cn cc, .int .i64 (p + 1)] 78] w := O.call1 K rfl
  clear K
  have O : Own w0 [g] [.cells g [.slice A cn cc, .int .i64 (p + 1)] 78] w := O
  refine sp F (p_assign rfl) rfl rfl fun a F => c_nil (hK3 _ _ (?_))
  try clear hK3 K3
  refine c_mid (fun a w => ∃ (m : Int), ∃ (q1 : Int), Has 28 [(0, .pointer (some ⟨g, 0, none⟩)), (2, .string (bs ([]))), (3, .string (bs ([]))), (4, .int .i64 (m))] a ∧ Own w0 [g] [.cells g [.slice A cn cc, .int .i64 (q1)] 78] w ∧ (0 ≤ m) ∧ (m ≤ 9) ∧ (p ≤ q1) ∧ (q1 ≤ p + 4)) ?_ ?_
  · refine c_seq fun K4 hK4 => c_region (sp F (p_move rfl) rfl rfl fun a F => so F rfl (o_call (vs := #[.pointer (some ⟨g, 0, none⟩), .int .i64 (24)]) F Try.en_43 rfl rfl ((pick_ok g A cn cc (p + 1) 24 78 w (hCode.keep O (by simp)) (by omega) (by omega) (by omega) (by omega) (O.hand1 rfl)).mono ?_)))
    rintro e w ⟨r9, rfl, h9a, h9b, K⟩
    refine ⟨_, rfl, fun a F => ?_⟩
    have O : Own w0 [g] [.cells g [.slice A cn cc, .int .i64 ((p + 1) + 1)] 78] w := O.call1 K rfl
    clear K
    have O : Own w0 [g] [.cells g [.slice A cn cc, .int .i64 ((p + 1) + 1)] 78] w := O
    refine sp F (p_eql rfl rfl) rfl rfl fun a F => c_nil (hK4 _ _ (?_))
    try clear hK4 K4
    by_cases c10 : r9 = 0
    · have F := F.setB (d := 10) rfl (decide_eq_true c10)
      refine c_ift F rfl (c_region (sp F (p_move rfl) rfl rfl fun a F => so F rfl (o_call (vs := #[.pointer (some ⟨g, 0, none⟩), .int .i64 (2)]) F Try.en_43 rfl rfl ((pick_ok g A cn cc ((p + 1) + 1) 2 78 w (hCode.keep O (by simp)) (by omega) (by omega) (by omega) (by omega) (O.hand1 rfl)).mono ?_))))
      rintro e w ⟨r12, rfl, h12a, h12b, K⟩
      refine ⟨_, rfl, fun a F => ?_⟩
      have O : Own w0 [g] [.cells g [.slice A cn cc, .int .i64 (((p + 1) + 1) + 1)] 78] w := O.call1 K rfl
      clear K
      have O : Own w0 [g] [.cells g [.slice A cn cc, .int .i64 (((p + 1) + 1) + 1)] 78] w := O
      refine sp F (p_add rfl rfl (by omega) (by omega)) rfl rfl fun a F => sp F (p_assign rfl) rfl rfl fun a F => c_nil (?_)
      have F : Has 28 [(0, .pointer (some ⟨g, 0, none⟩)), (2, .string (bs ([]))), (3, .string (bs ([]))), (4, .int .i64 (8 + r12))] a := F.pick ⟨rfl, rfl, rfl, rfl, trivial⟩
      exact ⟨(8 + r12), (((p + 1) + 1) + 1), F, O, by first | assumption | omega, by first | assumption | omega, by first | assumption | omega, by first | assumption | omega⟩
    · have F := F.setB (d := 10) rfl (decide_eq_false c10)
      refine c_iff F rfl (wp_skip (?_))
      have F : Has 28 [(0, .pointer (some ⟨g, 0, none⟩)), (2, .string (bs ([]))), (3, .string (bs ([]))), (4, .int .i64 (r7))] a := F.pick ⟨rfl, rfl, rfl, rfl, trivial⟩
      exact ⟨r7, ((p + 1) + 1), F, O, by first | assumption | omega, by first | assumption | omega, by first | assumption | omega, by first | assumption | omega⟩
  · rintro a w ⟨m, q1, F, O, hm10a, hm10b, hm10c, hm10d⟩
    refine c_seq fun K4 hK4 => c_seq fun K5 hK5 => c_region (sp F (p_assign rfl) rfl rfl fun a F => c_nil (hK5 _ _ (?_)))
    try clear hK5 K5
    refine wp_block (?_)
    refine c_loop (fun mm a w => ∃ (k : Int), ∃ (q : Int), ∃ (L1 : List UInt8), mm = (m - k).toNat ∧ Has 28 [(0, .pointer (some ⟨g, 0, none⟩)), (2, .string (bs ([]))), (4, .int .i64 (m)), (5, .int .i64 (k)), (3, .string (bs (L1)))] a ∧ Own w0 [g] [.cells g [.slice A cn cc, .int .i64 (q)] 78] w ∧ (0 ≤ k) ∧ (k ≤ m) ∧ (p ≤ q) ∧ (q ≤ p + 4 + k) ∧ ((L1.length : Int) = k)) ?_ ?_
    · have F : Has 28 [(0, .pointer (some ⟨g, 0, none⟩)), (2, .string (bs ([]))), (4, .int .i64 (m)), (5, .int .i64 (0)), (3, .string (bs ([])))] a := F.pick ⟨rfl, rfl, rfl, rfl, rfl, trivial⟩
      exact ⟨(m - 0).toNat, 0, q1, ([]), rfl, F, O, by first | assumption | omega, by first | assumption | omega, by first | assumption | omega, by first | assumption | omega, by rfl⟩
    · rintro mm a w ⟨k, q, L1, rfl, F, O, hi0a, hi0b, hi0c, hi0d, hi0e⟩
      refine c_seq fun K6 hK6 => c_seq fun K7 hK7 => c_region (sp F (p_move rfl) rfl rfl fun a F => sp F (p_move rfl) rfl rfl fun a F => sp F (p_lss rfl rfl) rfl rfl fun a F => c_nil (hK7 _ _ (?_)))
      try clear hK7 K7
      by_cases c16 : k < m
      · have F := F.setB (d := 16) rfl (decide_eq_true c16)
        refine c_ift F rfl (wp_skip (hK6 _ _ (?_)))
        try clear hK6 K6
        refine c_seq fun K8 hK8 => wp_block (c_region (sp F (p_move rfl) rfl rfl fun a F => sp F (p_move rfl) rfl rfl fun a F => so F rfl (o_call (vs := #[.pointer (some ⟨g, 0, none⟩), .int .i64 (3)]) F Try.en_43 rfl rfl ((pick_ok g A cn cc q 3 78 w (hCode.keep O (by simp)) (by omega) (by omega) (by omega) (by omega) (O.hand1 rfl)).mono ?_))))
        rintro e w ⟨r21, rfl, h21a, h21b, K⟩
        refine ⟨_, rfl, fun a F => ?_⟩
        have O : Own w0 [g] [.cells g [.slice A cn cc, .int .i64 (q + 1)] 78] w := O.call1 K rfl
        clear K
        have O : Own w0 [g] [.cells g [.slice A cn cc, .int .i64 (q + 1)] 78] w := O
        refine sp F (p_add rfl rfl (by omega) (by omega)) rfl rfl fun a F => sp F (p_convu8s rfl (by rw [Try.underlying3]; rfl) Try.underlying5 (by omega) (by omega)) rfl rfl fun a F => so F rfl (o_bslice (cs := [.int .u8 (97 + r21)]) F O rfl Try.underlying22 Try.sz_5 Try.zero_5 rfl rfl rfl fun b24 w O a F => ?_)
        have O : Own w0 [g] [.cells b24 [.int .u8 (97 + r21)] 5, .cells g [.slice A cn cc, .int .i64 (q + 1)] 78] w := O
        refine sp F (p_cbs1 rfl Try.underlying22 Try.underlying5 Try.underlying9 (by omega) (by omega) (fun _ h => ld1 (O.load 0 rfl rfl) h)) rfl rfl fun a F => sp F (p_cat rfl rfl (by first | omega | (simp; omega))) rfl rfl fun a F => sp F (p_assign rfl) rfl rfl fun a F => c_nil (hK8 _ _ (?_))
        try clear hK8 K8
        refine c_region (sp F (p_move rfl) rfl rfl fun a F => sp F (p_add rfl rfl (by omega) (by omega)) rfl rfl fun a F => sp F (p_assign rfl) rfl rfl fun a F => c_nil (?_))
        have F : Has 28 [(0, .pointer (some ⟨g, 0, none⟩)), (2, .string (bs ([]))), (4, .int .i64 (m)), (5, .int .i64 (k + 1)), (3, .string (bs (L1 ++ ([UInt8.ofNat (97 + r21 : Int).toNat]))))] a := F.pick ⟨rfl, rfl, rfl, rfl, rfl, trivial⟩
        have O : Own w0 [g] [.cells g [.slice A cn cc, .int .i64 (q + 1)] 78] w := ((O.pull 1 rfl).take 1)
        exact ⟨(m - (k + 1)).toNat, by omega, (k + 1), (q + 1), (L1 ++ ([UInt8.ofNat (97 + r21 : Int).toNat])), rfl, F, O, by first | assumption | omega, by first | assumption | omega, by first | assumption | omega, by first | assumption | omega, by simp; omega⟩
      · have F := F.setB (d := 16) rfl (decide_eq_false c16)
        refine c_iff F rfl (wp_exit (e_then (e_then (e_here (hK4 _ _ (?_))))))
        try clear hK4 K4
        refine c_seq fun K8 hK8 => c_region (sp F (p_move rfl) rfl rfl fun a F => sp F (p_assign rfl) rfl rfl fun a F => c_nil (hK8 _ _ (?_)))
        try clear hK8 K8
        refine wp_ret (ret1 F rfl rfl (?_))
        exact ⟨L1, q, rfl, by first | assumption | omega, by first | assumption | omega, by first | assumption | omega, O⟩

set_option maxRecDepth 100000 in
/-- spec.l91Ops -/
theorem l91Ops_ok (g : Nat) (A : Option Addr) (cn : Nat) (cc : Nat) (p : Int) (base : List UInt8) (w0 : World) (hCode : Code w0 g A cn) (hp0 : 0 ≤ p) (hp : p ≤ 100000) (hbase : (base.length : Int) ≤ 1000) (O : Own w0 [g] [.cells g [.slice A cn cc, .int .i64 (p)] 78] w0) :
    Calls Try.prog 30 #[.pointer (some ⟨g, 0, none⟩), .string (bs (base))] w0 fun e w => ∃ (b : Nat), ∃ (N : Nat), ∃ (C : Nat), ∃ (es : List (Int × Int × List UInt8)), ∃ (q : Int), e = .returned (.slice (some ⟨b, 0, none⟩) N C) ∧ ((N : Int) = es.length) ∧ ((N : Int) ≤ 4) ∧ (tsz es ≤ 40) ∧ (p ≤ q) ∧ (q ≤ p + 200) ∧ Own w0 [g] [.cells g [.slice A cn cc, .int .i64 (q)] 78, .row 43 3 (.slice (some ⟨b, 0, none⟩) N C) N (es.flatMap encOp)] w := by
  refine enterO (n := 64) Try.func30 rfl rfl rfl O fun a w F O => ?_
  refine c_seq fun K1 hK1 => c_region (sp F (p_assign rfl) rfl rfl fun a F => c_nil (hK1 _ _ (?_)))
  try clear hK1 K1
  refine c_seq fun K2 hK2 => c_region (so F rfl (o_bslice (cs := []) F O rfl Try.underlying23 Try.sz_43 Try.zero_43 rfl rfl rfl fun b10 w O a F => ?_))
  have O : Own w0 [g] [.cells b10 [] 43, .cells g [.slice A cn cc, .int .i64 (p)] 78] w := O
  refine sp F (p_assign rfl) rfl rfl fun a F => c_nil (hK2 _ _ (?_))
  try clear hK2 K2
  refine c_seq fun K3 hK3 => c_region (sp F (p_move rfl) rfl rfl fun a F => ?_)
  have O := O.pull 1 rfl
  have O : Own w0 [g] [.cells g [.slice A cn cc, .int .i64 (p)] 78, .cells b10 [] 43] w := O
  refine so F rfl (o_call (vs := #[.pointer (some ⟨g, 0, none⟩), .int .i64 (4)]) F Try.en_43 rfl rfl ((pick_ok g A cn cc p 4 78 w (hCode.keep O (by simp)) (by omega) (by omega) (by omega) (by omega) (O.hand1 rfl)).mono ?_))
  rintro e w ⟨r12, rfl, h12a, h12b, K⟩
  refine ⟨_, rfl, fun a F => ?_⟩
  have O : Own w0 [g] [.cells g [.slice A cn cc, .int .i64 (p + 1)] 78, .cells b10 [] 43] w := O.call1 K rfl
  clear K
  have O : Own w0 [g] [.cells g [.slice A cn cc, .int .i64 (p + 1)] 78, .cells b10 [] 43] w := O
  refine sp F (p_assign rfl) rfl rfl fun a F => c_nil (hK3 _ _ (?_))
  try clear hK3 K3
  refine c_seq fun K4 hK4 => c_seq fun K5 hK5 => c_region (sp F (p_assign rfl) rfl rfl fun a F => c_nil (hK5 _ _ (?_)))
  try clear hK5 K5
  refine wp_block (?_)
  refine c_loop (fun mm a w => ∃ (k : Int), ∃ (q : Int), ∃ (B : Nat), ∃ (N : Nat), ∃ (C : Nat), ∃ (L1 : List (Int × Int × List UInt8)), mm = (r12 - k).toNat ∧ Has 64 [(0, .pointer (some ⟨g, 0, none⟩)), (1, .string (bs (base))), (4, .slice none 0 0), (6, .int .i64 (r12)), (7, .int .i64 (k)), (5, .slice (some ⟨B, 0, none⟩) N C)] a ∧ Own w0 [g] [.cells g [.slice A cn cc, .int .i64 (q)] 78, .row 43 3 (.slice (some ⟨B, 0, none⟩) N C) N (L1.flatMap encOp)] w ∧ (0 ≤ k) ∧ (k ≤ r12) ∧ ((N : Int) = L1.length) ∧ ((N : Int) = k) ∧ (p ≤ q) ∧ (q ≤ p + 2 + 30 * k) ∧ (tsz L1 ≤ 9 * k)) ?_ ?_
  · have F : Has 64 [(0, .pointer (some ⟨g, 0, none⟩)), (1, .string (bs (base))), (4, .slice none 0 0), (6, .int .i64 (r12)), (7, .int .i64 (0)), (5, .slice (some ⟨b10, 0, none⟩) 0 0)] a := F.pick ⟨rfl, rfl, rfl, rfl, rfl, rfl, trivial⟩
    have O := O.asRow 1 (q := 0) (sz := 3) rfl rfl (by unfold maxLen; omega)
    have O : Own w0 [g] [.cells g [.slice A cn cc, .int .i64 (p + 1)] 78, .row 43 3 (.slice (some ⟨b10, 0, none⟩) 0 0) 0 ([])] w := O
    have O := O.setR 1 rfl (show Res.row 43 3 (.slice (some ⟨b10, 0, none⟩) 0 0) 0 ([]) = .row 43 3 (.slice (some ⟨b10, 0, none⟩) 0 0) 0 (([]).flatMap encOp) from by rfl)
    have O : Own w0 [g] [.cells g [.slice A cn cc, .int .i64 (p + 1)] 78, .row 43 3 (.slice (some ⟨b10, 0, none⟩) 0 0) 0 (([]).flatMap encOp)] w := O
    exact ⟨(r12 - 0).toNat, 0, (p + 1), b10, 0, 0, ([]), rfl, F, O, by first | assumption | omega, by first | assumption | omega, by rfl, by rfl, by first | assumption | omega, by first | assumption | omega, by simp [tsz]⟩
  · rintro mm a w ⟨k, q, B, N, C, L1, rfl, F, O, hi0a, hi0b, hi0c, hi0d, hi0e, hi0f, hi0g⟩
    refine c_seq fun K6 hK6 => c_seq fun K7 hK7 => c_region (sp F (p_move rfl) rfl rfl fun a F => sp F (p_move rfl) rfl rfl fun a F => sp F (p_lss rfl rfl) rfl rfl fun a F => c_nil (hK7 _ _ (?_)))
    try clear hK7 K7
    by_cases c15 : k < r12
    · have F := F.setB (d := 15) rfl (decide_eq_true c15)
      refine c_ift F rfl (wp_skip (hK6 _ _ (?_)))
      try clear hK6 K6
      refine c_seq fun K8 hK8 => wp_block (c_seq fun K9 hK9 => c_region (sp F (p_build (cs := [.int .i64 (0), .int .i64 (0), .string (bs ([98]))]) rfl Try.places_43 rfl) rfl rfl fun a F => so F rfl (o_alloc F O Try.zero_43 rfl fun b8 w O a F => ?_)))
      have O : Own w0 [g] [.cells b8 [.int .i64 (0), .int .i64 (0), .string (bs ([]))] 43, .cells g [.slice A cn cc, .int .i64 (q)] 78, .row 43 3 (.slice (some ⟨B, 0, none⟩) N C) N (L1.flatMap encOp)] w := O
      refine so F rfl (o_storeA (vs := [.int .i64 (0), .int .i64 (0), .string (bs ([98]))]) F O rfl rfl Try.sz_43 (by simp [Value.oneCell']) 0 rfl rfl fun w O => ?_)
      have O : Own w0 [g] [.cells b8 [.int .i64 (0), .int .i64 (0), .string (bs ([98]))] 43, .cells g [.slice A cn cc, .int .i64 (q)] 78, .row 43 3 (.slice (some ⟨B, 0, none⟩) N C) N (L1.flatMap encOp)] w := O
      refine c_nil (hK9 _ _ (?_))
      try clear hK9 K9
      refine c_mid (fun a w => ∃ (x0 : Int), ∃ (x1 : Int), ∃ (x2 : List UInt8), ∃ (q1 : Int), Has 64 [(0, .pointer (some ⟨g, 0, none⟩)), (1, .string (bs (base))), (4, .slice none 0 0), (6, .int .i64 (r12)), (7, .int .i64 (k)), (5, .slice (some ⟨B, 0, none⟩) N C), (15, .bool true), (8, .pointer (some ⟨b8, 0, none⟩))] a ∧ Own w0 [g] [.cells b8 [.int .i64 (x0), .int .i64 (x1), .string (bs (x2))] 43, .cells g [.slice A cn cc, .int .i64 (q1)] 78, .row 43 3 (.slice (some ⟨B, 0, none⟩) N C) N (L1.flatMap encOp)] w ∧ ((x2.length : Int) ≤ 9) ∧ (p ≤ q1) ∧ (q1 ≤ p + 2 + 30 * k + 4)) ?_ ?_
      · refine c_seq fun K10 hK10 => c_region (sp F (p_move rfl) rfl rfl fun a F => sp F (p_len_b rfl Try.underlying9) rfl rfl fun a F => sp F (p_gtr rfl rfl) rfl rfl fun a F => sp F (p_move rfl) rfl rfl fun a F => ?_)
        by_cases c22 : 0 < (base.length : Int)
        · have F := F.setB (d := 21) rfl (decide_eq_true c22)
          have F := F.setB (d := 22) rfl (decide_eq_true c22)
          refine sp F (p_move rfl) rfl rfl fun a F => ?_
          have O := O.pull 1 rfl
          have O : Own w0 [g] [.cells g [.slice A cn cc, .int .i64 (q)] 78, .cells b8 [.int .i64 (0), .int .i64 (0), .string (bs ([98]))] 43, .row 43 3 (.slice (some ⟨B, 0, none⟩) N C) N (L1.flatMap encOp)] w := O
          refine so F rfl (o_call (vs := #[.pointer (some ⟨g, 0, none⟩), .int .i64 (2)]) F Try.en_43 rfl rfl ((pick_ok g A cn cc q 2 78 w (hCode.keep O (by simp)) (by omega) (by omega) (by omega) (by omega) (O.hand1 rfl)).mono ?_))
          rintro e w ⟨r24, rfl, h24a, h24b, K⟩
          refine ⟨_, rfl, fun a F => ?_⟩
          have O : Own w0 [g] [.cells g [.slice A cn cc, .int .i64 (q + 1)] 78, .cells b8 [.int .i64 (0), .int .i64 (0), .string (bs ([98]))] 43, .row 43 3 (.slice (some ⟨B, 0, none⟩) N C) N (L1.flatMap encOp)] w := O.call1 K rfl
          clear K
          have O : Own w0 [g] [.cells g [.slice A cn cc, .int .i64 (q + 1)] 78, .cells b8 [.int .i64 (0), .int .i64 (0), .string (bs ([98]))] 43, .row 43 3 (.slice (some ⟨B, 0, none⟩) N C) N (L1.flatMap encOp)] w := O
          refine sp F (p_eql rfl rfl) rfl rfl fun a F => sp F (p_pick (t := true) rfl rfl) rfl rfl fun a F => c_nil (hK10 _ _ (?_))
          try clear hK10 K10
          by_cases c26 : r24 = 0
          · have F := F.setB (d := 25) rfl (decide_eq_true c26)
            have F := F.setB (d := 26) rfl (decide_eq_true c26)
            refine c_ift F rfl (c_seq fun K11 hK11 => c_region (sp F (p_move rfl) rfl rfl fun a F => sp F (p_move rfl) rfl rfl fun a F => sp F (p_len_b rfl Try.underlying9) rfl rfl fun a F => so F rfl (o_call (vs := #[.pointer (some ⟨g, 0, none⟩), .int .i64 ((base.length : Int))]) F Try.en_43 rfl rfl ((pick_ok g A cn cc (q + 1) (base.length : Int) 78 w (hCode.keep O (by simp)) (by omega) (by omega) (by omega) (by omega) (O.hand1 rfl)).mono ?_))))
            rintro e w ⟨r30, rfl, h30a, h30b, K⟩
            refine ⟨_, rfl, fun a F => ?_⟩
            have O : Own w0 [g] [.cells g [.slice A cn cc, .int .i64 ((q + 1) + 1)] 78, .cells b8 [.int .i64 (0), .int .i64 (0), .string (bs ([98]))] 43, .row 43 3 (.slice (some ⟨B, 0, none⟩) N C) N (L1.flatMap encOp)] w := O.call1 K rfl
            clear K
            have O : Own w0 [g] [.cells g [.slice A cn cc, .int .i64 ((q + 1) + 1)] 78, .cells b8 [.int .i64 (0), .int .i64 (0), .string (bs ([98]))] 43, .row 43 3 (.slice (some ⟨B, 0, none⟩) N C) N (L1.flatMap encOp)] w := O
            refine sp F (p_assign rfl) rfl rfl fun a F => c_nil (hK11 _ _ (?_))
            try clear hK11 K11
            refine c_region (sp F (p_move rfl) rfl rfl fun a F => sp F (p_move rfl) rfl rfl fun a F => sp F (p_move rfl) rfl rfl fun a F => sp F (p_len_b rfl Try.underlying9) rfl rfl fun a F => sp F (p_move rfl) rfl rfl fun a F => sp F (p_sub rfl rfl (by omega) (by omega)) rfl rfl fun a F => sp F (p_min rfl rfl) rfl rfl fun a F => so F rfl (o_call (vs := #[.pointer (some ⟨g, 0, none⟩), .int .i64 (min ((base.length : Int) - r30) 3)]) F Try.en_43 rfl rfl ((pick_ok g A cn cc ((q + 1) + 1) (min ((base.length : Int) - r30) 3) 78 w (hCode.keep O (by simp)) (by omega) (by omega) (by omega) (by omega) (O.hand1 rfl)).mono ?_)))
            rintro e w ⟨r38, rfl, h38a, h38b, K⟩
            refine ⟨_, rfl, fun a F => ?_⟩
            have O : Own w0 [g] [.cells g [.slice A cn cc, .int .i64 (((q + 1) + 1) + 1)] 78, .cells b8 [.int .i64 (0), .int .i64 (0), .string (bs ([98]))] 43, .row 43 3 (.slice (some ⟨B, 0, none⟩) N C) N (L1.flatMap encOp)] w := O.call1 K rfl
            clear K
            have O : Own w0 [g] [.cells g [.slice A cn cc, .int .i64 (((q + 1) + 1) + 1)] 78, .cells b8 [.int .i64 (0), .int .i64 (0), .string (bs ([98]))] 43, .row 43 3 (.slice (some ⟨B, 0, none⟩) N C) N (L1.flatMap encOp)] w := O
            refine sp F (p_add rfl rfl (by omega) (by omega)) rfl rfl fun a F => sp F (p_build (cs := [.int .i64 (r30), .int .i64 (1 + r38), .string (bs ([]))]) rfl Try.places_43 rfl) rfl rfl fun a F => so F rfl (o_storeA (vs := [.int .i64 (r30), .int .i64 (1 + r38), .string (bs ([]))]) F O rfl rfl Try.sz_43 (by simp [Value.oneCell']) 1 rfl rfl fun w O => ?_)
            have O : Own w0 [g] [.cells g [.slice A cn cc, .int .i64 (((q + 1) + 1) + 1)] 78, .cells b8 [.int .i64 (r30), .int .i64 (1 + r38), .string (bs ([]))] 43, .row 43 3 (.slice (some ⟨B, 0, none⟩) N C) N (L1.flatMap encOp)] w := O
            refine c_nil (?_)
            have F : Has 64 [(0, .pointer (some ⟨g, 0, none⟩)), (1, .string (bs (base))), (4, .slice none 0 0), (6, .int .i64 (r12)), (7, .int .i64 (k)), (5, .slice (some ⟨B, 0, none⟩) N C), (15, .bool true), (8, .pointer (some ⟨b8, 0, none⟩))] a := F.pick ⟨rfl, rfl, rfl, rfl, rfl, rfl, rfl, rfl, trivial⟩
            have O : Own w0 [g] [.cells b8 [.int .i64 (r30), .int .i64 (1 + r38), .string (bs ([]))] 43, .cells g [.slice A cn cc, .int .i64 (((q + 1) + 1) + 1)] 78, .row 43 3 (.slice (some ⟨B, 0, none⟩) N C) N (L1.flatMap encOp)] w := (((O.pull 2 rfl).pull 1 rfl).pull 2 rfl)
            exact ⟨r30, (1 + r38), ([]), (((q + 1) + 1) + 1), F, O, by first | omega | (simp; done), by first | assumption | omega, by first | assumption | omega⟩
          · have F := F.setB (d := 25) rfl (decide_eq_false c26)
            have F := F.setB (d := 26) rfl (decide_eq_false c26)
            refine c_iff F rfl (wp_skip (?_))
            have F : Has 64 [(0, .pointer (some ⟨g, 0, none⟩)), (1, .string (bs (base))), (4, .slice none 0 0), (6, .int .i64 (r12)), (7, .int .i64 (k)), (5, .slice (some ⟨B, 0, none⟩) N C), (15, .bool true), (8, .pointer (some ⟨b8, 0, none⟩))] a := F.pick ⟨rfl, rfl, rfl, rfl, rfl, rfl, rfl, rfl, trivial⟩
            have O : Own w0 [g] [.cells b8 [.int .i64 (0), .int .i64 (0), .string (bs ([98]))] 43, .cells g [.slice A cn cc, .int .i64 (q + 1)] 78, .row 43 3 (.slice (some ⟨B, 0, none⟩) N C) N (L1.flatMap encOp)] w := (((O.pull 2 rfl).pull 1 rfl).pull 2 rfl)
            exact ⟨0, 0, ([98]), (q + 1), F, O, by first | omega | (simp; done), by first | assumption | omega, by first | assumption | omega⟩
        · have F := F.setB (d := 21) rfl (decide_eq_false c22)
          have F := F.setB (d := 22) rfl (decide_eq_false c22)
          refine ss F rfl rfl fun a F => ss F rfl rfl fun a F => ss F rfl rfl fun a F => sp F (p_pick (t := false) rfl rfl) rfl rfl fun a F => c_nil (hK10 _ _ (?_))
          try clear hK10 K10
          refine c_iff F rfl (wp_skip (?_))
          have F : Has 64 [(0, .pointer (some ⟨g, 0, none⟩)), (1, .string (bs (base))), (4, .slice none 0 0), (6, .int .i64 (r12)), (7, .int .i64 (k)), (5, .slice (some ⟨B, 0, none⟩) N C), (15, .bool true), (8, .pointer (some ⟨b8, 0, none⟩))] a := F.pick ⟨rfl, rfl, rfl, rfl, rfl, rfl, rfl, rfl, trivial⟩
          exact ⟨0, 0, ([98]), q, F, O, by first | omega | (simp; done), by first | assumption | omega, by first | assumption | omega⟩
      · rintro a w ⟨x0, x1, x2, q1, F, O, hm26a, hm26b, hm26c⟩
        refine c_mid (fun a w => ∃ (y0 : Int), ∃ (y1 : Int), ∃ (y2 : List UInt8), ∃ (q2 : Int), Has 64 [(0, .pointer (some ⟨g, 0, none⟩)), (1, .string (bs (base))), (4, .slice none 0 0), (6, .int .i64 (r12)), (7, .int .i64 (k)), (5, .slice (some ⟨B, 0, none⟩) N C), (15, .bool true), (8, .pointer (some ⟨b8, 0, none⟩))] a ∧ Own w0 [g] [.cells b8 [.int .i64 (y0), .int .i64 (y1), .string (bs (y2))] 43, .cells g [.slice A cn cc, .int .i64 (q2)] 78, .row 43 3 (.slice (some ⟨B, 0, none⟩) N C) N (L1.flatMap encOp)] w ∧ ((y2.length : Int) ≤ 9) ∧ (p ≤ q2) ∧ (q2 ≤ p + 2 + 30 * k + 28)) ?_ ?_
        · refine c_seq fun K10 hK10 => c_region (sp F (p_move rfl) rfl rfl fun a F => ?_)
          have O := O.pull 1 rfl
          have O : Own w0 [g] [.cells g [.slice A cn cc, .int .i64 (q1)] 78, .cells b8 [.int .i64 (x0), .int .i64 (x1), .string (bs (x2))] 43, .row 43 3 (.slice (some ⟨B, 0, none⟩) N C) N (L1.flatMap encOp)] w := O
          refine so F rfl (o_call (vs := #[.pointer (some ⟨g, 0, none⟩), .int .i64 (24)]) F Try.en_43 rfl rfl ((pick_ok g A cn cc q1 24 78 w (hCode.keep O (by simp)) (by omega) (by omega) (by omega) (by omega) (O.hand1 rfl)).mono ?_))
          rintro e w ⟨r42, rfl, h42a, h42b, K⟩
          refine ⟨_, rfl, fun a F => ?_⟩
          have O : Own w0 [g] [.cells g [.slice A cn cc, .int .i64 (q1 + 1)] 78, .cells b8 [.int .i64 (x0), .int .i64 (x1), .string (bs (x2))] 43, .row 43 3 (.slice (some ⟨B, 0, none⟩) N C) N (L1.flatMap encOp)] w := O.call1 K rfl
          clear K
          have O : Own w0 [g] [.cells g [.slice A cn cc, .int .i64 (q1 + 1)] 78, .cells b8 [.int .i64 (x0), .int .i64 (x1), .string (bs (x2))] 43, .row 43 3 (.slice (some ⟨B, 0, none⟩) N C) N (L1.flatMap encOp)] w := O
          refine c_nil (hK10 _ _ (?_))
          try clear hK10 K10
          refine wp_block (c_seq fun K11 hK11 => c_region (sp F (p_eql rfl rfl) rfl rfl fun a F => sp F (p_assign rfl) rfl rfl fun a F => c_nil (hK11 _ _ (?_))))
          try clear hK11 K11
          by_cases c43 : r42 = 0
          · have F := F.setB (d := 44) rfl (decide_eq_true c43)
            have F := F.setB (d := 43) rfl (decide_eq_true c43)
            refine c_ift F rfl (c_region (sp F (p_move rfl) rfl rfl fun a F => so F rfl (o_call (vs := #[.pointer (some ⟨g, 0, none⟩), .int .i64 (10)]) F Try.en_43 rfl rfl ((pick_ok g A cn cc (q1 + 1) 10 78 w (hCode.keep O (by simp)) (by omega) (by omega) (by omega) (by omega) (O.hand1 rfl)).mono ?_))))
            rintro e w ⟨r46, rfl, h46a, h46b, K⟩
            refine ⟨_, rfl, fun a F => ?_⟩
            have O : Own w0 [g] [.cells g [.slice A cn cc, .int .i64 ((q1 + 1) + 1)] 78, .cells b8 [.int .i64 (x0), .int .i64 (x1), .string (bs (x2))] 43, .row 43 3 (.slice (some ⟨B, 0, none⟩) N C) N (L1.flatMap encOp)] w := O.call1 K rfl
            clear K
            have O : Own w0 [g] [.cells g [.slice A cn cc, .int .i64 ((q1 + 1) + 1)] 78, .cells b8 [.int .i64 (x0), .int .i64 (x1), .string (bs (x2))] 43, .row 43 3 (.slice (some ⟨B, 0, none⟩) N C) N (L1.flatMap encOp)] w := O
            refine sp F (p_sub rfl rfl (by omega) (by omega)) rfl rfl fun a F => sp F (p_faddr rfl Try.foff_43_0) rfl rfl fun a F => so F rfl (o_store F O rfl rfl Try.sz_3 rfl rfl 1 rfl rfl fun w O => ?_)
            have O : Own w0 [g] [.cells g [.slice A cn cc, .int .i64 ((q1 + 1) + 1)] 78, .cells b8 [.int .i64 (r46 - 1), .int .i64 (x1), .string (bs (x2))] 43, .row 43 3 (.slice (some ⟨B, 0, none⟩) N C) N (L1.flatMap encOp)] w := O
            refine c_nil (?_)
            have F : Has 64 [(0, .pointer (some ⟨g, 0, none⟩)), (1, .string (bs (base))), (4, .slice none 0 0), (6, .int .i64 (r12)), (7, .int .i64 (k)), (5, .slice (some ⟨B, 0, none⟩) N C), (15, .bool true), (8, .pointer (some ⟨b8, 0, none⟩))] a := F.pick ⟨rfl, rfl, rfl, rfl, rfl, rfl, rfl, rfl, trivial⟩
            have O : Own w0 [g] [.cells b8 [.int .i64 (r46 - 1), .int .i64 (x1), .string (bs (x2))] 43, .cells g [.slice A cn cc, .int .i64 ((q1 + 1) + 1)] 78, .row 43 3 (.slice (some ⟨B, 0, none⟩) N C) N (L1.flatMap encOp)] w := (((O.pull 2 rfl).pull 1 rfl).pull 2 rfl)
            exact ⟨(r46 - 1), x1, x2, ((q1 + 1) + 1), F, O, by first | assumption | omega, by first | assumption | omega, by first | assumption | omega⟩
          · have F := F.setB (d := 44) rfl (decide_eq_false c43)
            have F := F.setB (d := 43) rfl (decide_eq_false c43)
            refine c_iff F rfl (c_seq fun K12 hK12 => c_region (sp F (p_eql rfl rfl) rfl rfl fun a F => sp F (p_assign rfl) rfl rfl fun a F => c_nil (hK12 _ _ (?_))))
            try clear hK12 K12
            by_cases c49 : r42 = 1
            · have F := F.setB (d := 50) rfl (decide_eq_true c49)
              have F := F.setB (d := 49) rfl (decide_eq_true c49)
              refine c_ift F rfl (c_region (sp F (p_move rfl) rfl rfl fun a F => so F rfl (o_call (vs := #[.pointer (some ⟨g, 0, none⟩), .int .i64 (10)]) F Try.en_43 rfl rfl ((pick_ok g A cn cc (q1 + 1) 10 78 w (hCode.keep O (by simp)) (by omega) (by omega) (by omega) (by omega) (O.hand1 rfl)).mono ?_))))
              rintro e w ⟨r52, rfl, h52a, h52b, K⟩
              refine ⟨_, rfl, fun a F => ?_⟩
              have O : Own w0 [g] [.cells g [.slice A cn cc, .int .i64 ((q1 + 1) + 1)] 78, .cells b8 [.int .i64 (x0), .int .i64 (x1), .string (bs (x2))] 43, .row 43 3 (.slice (some ⟨B, 0, none⟩) N C) N (L1.flatMap encOp)] w := O.call1 K rfl
              clear K
              have O : Own w0 [g] [.cells g [.slice A cn cc, .int .i64 ((q1 + 1) + 1)] 78, .cells b8 [.int .i64 (x0), .int .i64 (x1), .string (bs (x2))] 43, .row 43 3 (.slice (some ⟨B, 0, none⟩) N C) N (L1.flatMap encOp)] w := O
              refine sp F (p_faddr rfl Try.foff_43_1) rfl rfl fun a F => so F rfl (o_store F O rfl rfl Try.sz_3 rfl rfl 1 rfl rfl fun w O => ?_)
              have O : Own w0 [g] [.cells g [.slice A cn cc, .int .i64 ((q1 + 1) + 1)] 78, .cells b8 [.int .i64 (x0), .int .i64 (r52), .string (bs (x2))] 43, .row 43 3 (.slice (some ⟨B, 0, none⟩) N C) N (L1.flatMap encOp)] w := O
              refine c_nil (?_)
              have F : Has 64 [(0, .pointer (some ⟨g, 0, none⟩)), (1, .string (bs (base))), (4, .slice none 0 0), (6, .int .i64 (r12)), (7, .int .i64 (k)), (5, .slice (some ⟨B, 0, none⟩) N C), (15, .bool true), (8, .pointer (some ⟨b8, 0, none⟩))] a := F.pick ⟨rfl, rfl, rfl, rfl, rfl, rfl, rfl, rfl, trivial⟩
              have O : Own w0 [g] [.cells b8 [.int .i64 (x0), .int .i64 (r52), .string (bs (x2))] 43, .cells g [.slice A cn cc, .int .i64 ((q1 + 1) + 1)] 78, .row 43 3 (.slice (some ⟨B, 0, none⟩) N C) N (L1.flatMap encOp)] w := (((O.pull 2 rfl).pull 1 rfl).pull 2 rfl)
              exact ⟨x0, r52, x2, ((q1 + 1) + 1), F, O, by first | assumption | omega, by first | assumption | omega, by first | assumption | omega⟩
            · have F := F.setB (d := 50) rfl (decide_eq_false c49)
              have F := F.setB (d := 49) rfl (decide_eq_false c49)
              refine c_iff F rfl (c_seq fun K13 hK13 => c_region (sp F (p_eql rfl rfl) rfl rfl fun a F => sp F (p_assign rfl) rfl rfl fun a F => c_nil (hK13 _ _ (?_))))
              try clear hK13 K13
              by_cases c54 : r42 = 2
              · have F := F.setB (d := 55) rfl (decide_eq_true c54)
                have F := F.setB (d := 54) rfl (decide_eq_true c54)
                refine c_ift F rfl (c_region (sp F (p_move rfl) rfl rfl fun a F => so F rfl (o_call (vs := #[.pointer (some ⟨g, 0, none⟩)]) F Try.en_31 rfl rfl ((l91Text_ok g A cn cc (q1 + 1) w (hCode.keep O (by simp)) (by omega) (by omega) (O.hand1 rfl)).mono ?_))))
                rintro e w ⟨L57, q57, rfl, h57a, h57b, h57c, K⟩
                refine ⟨_, rfl, fun a F => ?_⟩
                have O : Own w0 [g] [.cells g [.slice A cn cc, .int .i64 (q57)] 78, .cells b8 [.int .i64 (x0), .int .i64 (x1), .string (bs (x2))] 43, .row 43 3 (.slice (some ⟨B, 0, none⟩) N C) N (L1.flatMap encOp)] w := O.call1 K rfl
                clear K
                have O : Own w0 [g] [.cells g [.slice A cn cc, .int .i64 (q57)] 78, .cells b8 [.int .i64 (x0), .int .i64 (x1), .string (bs (x2))] 43, .row 43 3 (.slice (some ⟨B, 0, none⟩) N C) N (L1.flatMap encOp)] w := O
                refine sp F (p_faddr rfl Try.foff_43_2) rfl rfl fun a F => so F rfl (o_store F O rfl rfl Try.sz_9 rfl rfl 1 rfl rfl fun w O => ?_)
                have O : Own w0 [g] [.cells g [.slice A cn cc, .int .i64 (q57)] 78, .cells b8 [.int .i64 (x0), .int .i64 (x1), .string (bs (L57))] 43, .row 43 3 (.slice (some ⟨B, 0, none⟩) N C) N (L1.flatMap encOp)] w := O
                refine c_nil (?_)
                have F : Has 64 [(0, .pointer (some ⟨g, 0, none⟩)), (1, .string (bs (base))), (4, .slice none 0 0), (6, .int .i64 (r12)), (7, .int .i64 (k)), (5, .slice (some ⟨B, 0, none⟩) N C), (15, .bool true), (8, .pointer (some ⟨b8, 0, none⟩))] a := F.pick ⟨rfl, rfl, rfl, rfl, rfl, rfl, rfl, rfl, trivial⟩
                have O : Own w0 [g] [.cells b8 [.int .i64 (x0), .int .i64 (x1), .string (bs (L57))] 43, .cells g [.slice A cn cc, .int .i64 (q57)] 78, .row 43 3 (.slice (some ⟨B, 0, none⟩) N C) N (L1.flatMap encOp)] w := (((O.pull 2 rfl).pull 1 rfl).pull 2 rfl)
                exact ⟨x0, x1, L57, q57, F, O, by first | assumption | omega, by first | assumption | omega, by first | assumption | omega⟩
              · have F := F.setB (d := 55) rfl (decide_eq_false c54)
                have F := F.setB (d := 54) rfl (decide_eq_false c54)
                refine c_iff F rfl (wp_skip (?_))
                have F : Has 64 [(0, .pointer (some ⟨g, 0, none⟩)), (1, .string (bs (base))), (4, .slice none 0 0), (6, .int .i64 (r12)), (7, .int .i64 (k)), (5, .slice (some ⟨B, 0, none⟩) N C), (15, .bool true), (8, .pointer (some ⟨b8, 0, none⟩))] a := F.pick ⟨rfl, rfl, rfl, rfl, rfl, rfl, rfl, rfl, trivial⟩
                have O : Own w0 [g] [.cells b8 [.int .i64 (x0), .int .i64 (x1), .string (bs (x2))] 43, .cells g [.slice A cn cc, .int .i64 (q1 + 1)] 78, .row 43 3 (.slice (some ⟨B, 0, none⟩) N C) N (L1.flatMap encOp)] w := (((O.pull 2 rfl).pull 1 rfl).pull 2 rfl)
                exact ⟨x0, x1, x2, (q1 + 1), F, O, by first | assumption | omega, by first | assumption | omega, by first | assumption | omega⟩
        · rintro a w ⟨y0, y1, y2, q2, F, O, hm2a, hm2b, hm2c⟩
          refine c_region (sp F (p_move rfl) rfl rfl fun a F => sp F (p_loadC (cs := [.int .i64 (y0), .int .i64 (y1), .string (bs (y2))]) rfl Try.agg_43 Try.sz_43 (fun _ h => (CA.cons (ld1 (O.load 0 rfl rfl) h) (CA.cons (ld1 (O.load 0 rfl rfl) h) (CA.cons (ld1 (O.load 0 rfl rfl) h) CA.nil))))) rfl rfl fun a F => so F rfl (o_bslice (cs := [.int .i64 (y0), .int .i64 (y1), .string (bs (y2))]) F O rfl Try.underlying23 Try.sz_43 Try.zero_43 rfl rfl rfl fun b61 w O a F => ?_))
          have O : Own w0 [g] [.cells b61 [.int .i64 (y0), .int .i64 (y1), .string (bs (y2))] 43, .cells b8 [.int .i64 (y0), .int .i64 (y1), .string (bs (y2))] 43, .cells g [.slice A cn cc, .int .i64 (q2)] 78, .row 43 3 (.slice (some ⟨B, 0, none⟩) N C) N (L1.flatMap encOp)] w := O
          refine so F rfl (o_append F O rfl rfl Try.underlying23 Try.elem_43 (by decide) 3 0 rfl rfl rfl rfl (by unfold maxLen; omega) (by omega) rfl fun p62 k62 w O a F => ?_)
          have O : Own w0 [g] [.cells b61 [.int .i64 (y0), .int .i64 (y1), .string (bs (y2))] 43, .cells b8 [.int .i64 (y0), .int .i64 (y1), .string (bs (y2))] 43, .cells g [.slice A cn cc, .int .i64 (q2)] 78, .row 43 3 (.slice p62 (N + 1) k62) (N + 1) ((L1.flatMap encOp) ++ [.int .i64 (y0), .int .i64 (y1), .string (bs (y2))])] w := O
          have O := O.setR 3 rfl (show Res.row 43 3 (.slice p62 (N + 1) k62) (N + 1) ((L1.flatMap encOp) ++ [.int .i64 (y0), .int .i64 (y1), .string (bs (y2))]) = .row 43 3 (.slice p62 (N + 1) k62) (N + 1) ((L1 ++ [(y0, y1, y2)]).flatMap encOp) from by simp [encOp])
          have O : Own w0 [g] [.cells b61 [.int .i64 (y0), .int .i64 (y1), .string (bs (y2))] 43, .cells b8 [.int .i64 (y0), .int .i64 (y1), .string (bs (y2))] 43, .cells g [.slice A cn cc, .int .i64 (q2)] 78, .row 43 3 (.slice p62 (N + 1) k62) (N + 1) ((L1 ++ [(y0, y1, y2)]).flatMap encOp)] w := O
          refine sp F (p_assign rfl) rfl rfl fun a F => c_nil (hK8 _ _ (?_))
          try clear hK8 K8
          refine c_region (sp F (p_move rfl) rfl rfl fun a F => sp F (p_add rfl rfl (by omega) (by omega)) rfl rfl fun a F => sp F (p_assign rfl) rfl rfl fun a F => c_nil (?_))
          obtain ⟨b701, hp701⟩ := O.rowSome 3 rfl (by omega)
          rw [hp701] at O
          try rw [hp701] at F
          have F : Has 64 [(0, .pointer (some ⟨g, 0, none⟩)), (1, .string (bs (base))), (4, .slice none 0 0), (6, .int .i64 (r12)), (7, .int .i64 (k + 1)), (5, .slice (some ⟨b701, 0, none⟩) (N + 1) k62)] a := F.pick ⟨rfl, rfl, rfl, rfl, rfl, rfl, trivial⟩
          have O : Own w0 [g] [.cells g [.slice A cn cc, .int .i64 (q2)] 78, .row 43 3 (.slice (some ⟨b701, 0, none⟩) (N + 1) k62) (N + 1) ((L1 ++ [(y0, y1, y2)]).flatMap encOp)] w := (((O.pull 3 rfl).pull 3 rfl).take 2)
          exact ⟨(r12 - (k + 1)).toNat, by omega, (k + 1), q2, b701, (N + 1), k62, (L1 ++ [(y0, y1, y2)]), rfl, F, O, by first | assumption | omega, by first | assumption | omega, by first | omega | (simp; done) | (simp; omega) | (simp at *; omega), by first | assumption | omega, by first | assumption | omega, by first | assumption | omega, by rw [tsz_snoc]; simp only []; omega⟩
    · have F := F.setB (d := 15) rfl (decide_eq_false c15)
      refine c_iff F rfl (wp_exit (e_then (e_then (e_here (hK4 _ _ (?_))))))
      try clear hK4 K4
      refine c_seq fun K8 hK8 => c_region (sp F (p_move rfl) rfl rfl fun a F => sp F (p_assign rfl) rfl rfl fun a F => c_nil (hK8 _ _ (?_)))
      try clear hK8 K8
      refine wp_ret (ret1 F rfl rfl (?_))
      exact ⟨B, N, C, L1, q, rfl, by first | omega | (simp; done) | (simp; omega) | (simp at *; omega), by first | omega | (simp; done) | (simp; omega) | (simp at *; omega), by first | assumption | omega, by first | assumption | omega, by first | assumption | omega, O⟩

set_option maxRecDepth 100000 in
/-- spec.DrawDeltaSize -/
theorem dDeltaSize_ok (A : Option Addr) (cn : Nat) (cc : Nat) (w0 : World) (hC : CodeIn w0 A cn cc) :
    Calls Try.prog 12 #[.slice A cn cc] w0 fun e w => ∃ (b : Nat), ∃ (N : Nat), ∃ (C : Nat), ∃ (es : List (Int × Int × List UInt8)), e = .returned (.slice (some ⟨b, 0, none⟩) N C) ∧ ((N : Int) = es.length) ∧ ((N : Int) ≤ 4) ∧ (tsz es ≤ 40) ∧ Own w0 [] [.row 43 3 (.slice (some ⟨b, 0, none⟩) N C) N (es.flatMap encOp)] w := by
  have O := Own.start w0
  have hcc : (cn : Int) ≤ cc := by have := hC.1; omega
  have hcm : (cc : Int) ≤ 9223372036854775807 := by have := hC.2.1; unfold maxLen at this; omega
  refine enterO (n := 10) Try.func12 rfl rfl rfl O fun a w F O => ?_
  refine c_seq fun K1 hK1 => c_region (sp F (p_assign rfl) rfl rfl fun a F => c_nil (hK1 _ _ (?_)))
  try clear hK1 K1
  refine c_seq fun K2 hK2 => c_region (sp F (p_move rfl) rfl rfl fun a F => so F rfl (o_call (vs := #[.slice A cn cc]) F Try.en_29 rfl rfl ((l6Open_ok A cn cc w (by omega) (by omega)).mono ?_)))
  rintro e w ⟨b5, m5, rfl, h5a, h5b, K⟩
  refine ⟨_, rfl, fun a F => ?_⟩
  have O : Own w0 [] [.cells b5 [.slice A m5 cc, .int .i64 (0)] 78] w := O.call0 K
  clear K
  have hCode : Code w0 b5 A m5 := Code.of hC (by omega) (by omega) (O.fresh 0 rfl rfl)
  have O : Own w0 [] [.cells b5 [.slice A m5 cc, .int .i64 (0)] 78] w := O
  refine sp F (p_assign rfl) rfl rfl fun a F => c_nil (hK2 _ _ (?_))
  try clear hK2 K2
  refine c_seq fun K3 hK3 => c_region (sp F (p_move rfl) rfl rfl fun a F => sp F (p_move rfl) rfl rfl fun a F => so F rfl (o_call (vs := #[.pointer (some ⟨b5, 0, none⟩)]) F Try.en_31 rfl rfl ((l91Text_ok b5 A m5 cc 0 w (hCode.keep O (by simp)) (by omega) (by omega) (O.hand1 rfl)).mono ?_)))
  rintro e w ⟨L8, q8, rfl, h8a, h8b, h8c, K⟩
  refine ⟨_, rfl, fun a F => ?_⟩
  have O : Own w0 [] [.cells b5 [.slice A m5 cc, .int .i64 (q8)] 78] w := O.call1 K rfl
  clear K
  have O : Own w0 [] [.cells b5 [.slice A m5 cc, .int .i64 (q8)] 78] w := O
  refine so F rfl (o_call (vs := #[.pointer (some ⟨b5, 0, none⟩), .string (bs (L8))]) F Try.en_30 rfl rfl ((l91Ops_ok b5 A m5 cc q8 L8 w (hCode.keep O (by simp)) (by omega) (by omega) (by omega) (O.hand1 rfl)).mono ?_))
  rintro e w ⟨b9, N9, C9, es9, q9, rfl, h9a, h9b, h9c, h9d, h9e, K⟩
  refine ⟨_, rfl, fun a F => ?_⟩
  have O : Own w0 [] [.cells b5 [.slice A m5 cc, .int .i64 (q9)] 78, .row 43 3 (.slice (some ⟨b9, 0, none⟩) N9 C9) N9 (es9.flatMap encOp)] w := O.call1 K rfl
  clear K
  have O : Own w0 [] [.cells b5 [.slice A m5 cc, .int .i64 (q9)] 78, .row 43 3 (.slice (some ⟨b9, 0, none⟩) N9 C9) N9 (es9.flatMap encOp)] w := O
  refine sp F (p_assign rfl) rfl rfl fun a F => c_nil (hK3 _ _ (?_))
  try clear hK3 K3
  refine wp_ret (ret1 F rfl rfl (?_))
  have O : Own w0 [] [.row 43 3 (.slice (some ⟨b9, 0, none⟩) N9 C9) N9 (es9.flatMap encOp)] w := ((O.pull 1 rfl).take 1)
  exact ⟨b9, N9, C9, es9, rfl, by first | assumption | omega, by first | assumption | omega, by first | assumption | omega, O⟩

end Go.Proofs.Ytbhidkcljekobaa
