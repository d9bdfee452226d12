/- What the laws on locks draw. No conditions but that the place is small. -/
import Derived.Test.YtilpbddeijolbaaDoorRefT
namespace Go.Proofs.YtilpbddeijolbaaDoor
open Go.ChangeShapes Go.WideShapes Go.ChangeAt Go.RowKit
set_option linter.unusedVariables false
set_option linter.unusedSimpArgs false

set_option maxRecDepth 100000 in
/-- spec.l6Open -/
theorem l6Open_ok (A : Option Addr) (cn : Nat) (cc : Nat) (w0 : World) (hcc : (cn : Int) ≤ cc) (hcm : (cc : Int) ≤ 9223372036854775807) :
    Calls Tryd.prog 30 #[.slice A cn cc] w0 fun e w => ∃ (b : Nat), ∃ (m : Nat), e = .returned (.pointer (some ⟨b, 0, none⟩)) ∧ ((m : Int) ≤ 2000) ∧ ((m : Int) ≤ cn) ∧ Own w0 [] [.cells b [.slice A m cc, .int .i64 (0)] 64] w := by
  have O := Own.start w0
  refine enterO (n := 11) Tryd.func30 rfl rfl rfl O fun a w F O => ?_
  refine c_seq fun K1 hK1 => c_region (sp F (p_assign rfl) rfl rfl fun a F => c_nil (hK1 _ _ (?_)))
  try clear hK1 K1
  refine c_seq fun K2 hK2 => c_seq fun K3 hK3 => c_region (sp F (p_move rfl) rfl rfl fun a F => sp F (p_len_l rfl Tryd.underlying35) rfl rfl fun a F => sp F (p_gtr rfl rfl) rfl rfl fun a F => c_nil (hK3 _ _ (?_)))
  try clear hK3 K3
  by_cases c5 : 2000 < (cn : Int)
  · have F := F.setB (d := 5) rfl (decide_eq_true c5)
    refine c_ift F rfl (c_region (sp F (p_move rfl) rfl rfl fun a F => sp F (p_slto rfl rfl Tryd.underlying35 Tryd.sz_5 (by omega) (by omega)) rfl rfl fun a F => sp F (p_assign rfl) rfl rfl fun a F => c_nil (hK2 _ _ (?_))))
    try clear hK2 K2
    refine c_seq fun K4 hK4 => c_region (sp F (p_move rfl) rfl rfl fun a F => sp F (p_build (cs := [.slice A ((2000 : Int).toNat) cc, .int .i64 (0)]) rfl Tryd.places_64 rfl) rfl rfl fun a F => so F rfl (o_box F O rfl rfl fun b10 w O a F => ?_))
    have O : Own w0 [] [.cells b10 [.slice A ((2000 : Int).toNat) cc, .int .i64 (0)] 64] w := O
    refine sp F (p_assign rfl) rfl rfl fun a F => c_nil (hK4 _ _ (?_))
    try clear hK4 K4
    refine wp_ret (ret1 F rfl rfl (?_))
    exact ⟨b10, ((2000 : Int).toNat), rfl, by first | assumption | omega, by first | assumption | omega, O⟩
  · have F := F.setB (d := 5) rfl (decide_eq_false c5)
    refine c_iff F rfl (wp_skip (hK2 _ _ (?_)))
    try clear hK2 K2
    refine c_seq fun K4 hK4 => c_region (sp F (p_move rfl) rfl rfl fun a F => sp F (p_build (cs := [.slice A cn cc, .int .i64 (0)]) rfl Tryd.places_64 rfl) rfl rfl fun a F => so F rfl (o_box F O rfl rfl fun b10 w O a F => ?_))
    have O : Own w0 [] [.cells b10 [.slice A cn cc, .int .i64 (0)] 64] w := O
    refine sp F (p_assign rfl) rfl rfl fun a F => c_nil (hK4 _ _ (?_))
    try clear hK4 K4
    refine wp_ret (ret1 F rfl rfl (?_))
    exact ⟨b10, cn, rfl, by first | assumption | omega, by first | assumption | omega, O⟩

set_option maxRecDepth 100000 in
/-- spec.l92Value -/
theorem l92Value_ok (g : Nat) (A : Option Addr) (cn : Nat) (cc : Nat) (p : Int) (w0 : World) (hCode : Code w0 g A cn) (hp0 : 0 ≤ p) (hp : p ≤ 900000) (O : Own w0 [g] [.cells g [.slice A cn cc, .int .i64 (p)] 64] w0) :
    Calls Tryd.prog 43 #[.pointer (some ⟨g, 0, none⟩)] w0 fun e w => ∃ (v : Int), ∃ (q : Int), e = .returned (.int .i64 (v)) ∧ (-2 ≤ v) ∧ (v ≤ 991) ∧ (p ≤ q) ∧ (q ≤ p + 2) ∧ Own w0 [g] [.cells g [.slice A cn cc, .int .i64 (q)] 64] w := by
  refine enterO (n := 14) Tryd.func43 rfl rfl rfl O fun a w F O => ?_
  refine c_seq fun K1 hK1 => c_region (sp F (p_assign rfl) rfl rfl fun a F => c_nil (hK1 _ _ (?_)))
  try clear hK1 K1
  refine c_seq fun K2 hK2 => c_seq fun K3 hK3 => c_region (sp F (p_move rfl) rfl rfl fun a F => so F rfl (o_call (vs := #[.pointer (some ⟨g, 0, none⟩), .int .i64 (30)]) F Tryd.en_42 rfl rfl ((pick_ok g A cn cc p 30 64 w (hCode.keep O (by simp)) (by omega) (by omega) (by omega) (by omega) (O.hand1 rfl)).mono ?_)))
  rintro e w ⟨r4, rfl, h4a, h4b, K⟩
  refine ⟨_, rfl, fun a F => ?_⟩
  have O : Own w0 [g] [.cells g [.slice A cn cc, .int .i64 (p + 1)] 64] w := O.call1 K rfl
  clear K
  have O : Own w0 [g] [.cells g [.slice A cn cc, .int .i64 (p + 1)] 64] w := O
  refine sp F (p_eql rfl rfl) rfl rfl fun a F => c_nil (hK3 _ _ (?_))
  try clear hK3 K3
  by_cases c5 : r4 = 0
  · have F := F.setB (d := 5) rfl (decide_eq_true c5)
    refine c_ift F rfl (c_seq fun K4 hK4 => c_region (so F rfl (o_bslice (cs := [.int .i64 (-2), .int .i64 (990), .int .i64 (991)]) F O rfl Tryd.underlying22 Tryd.sz_3 Tryd.zero_3 rfl rfl rfl fun b6 w O a F => ?_)))
    have O : Own w0 [g] [.cells b6 [.int .i64 (-2), .int .i64 (990), .int .i64 (991)] 3, .cells g [.slice A cn cc, .int .i64 (p + 1)] 64] w := O
    refine sp F (p_move rfl) rfl rfl fun a F => ?_
    have O := O.pull 1 rfl
    have O : Own w0 [g] [.cells g [.slice A cn cc, .int .i64 (p + 1)] 64, .cells b6 [.int .i64 (-2), .int .i64 (990), .int .i64 (991)] 3] w := O
    refine so F rfl (o_call (vs := #[.pointer (some ⟨g, 0, none⟩), .int .i64 (3)]) F Tryd.en_42 rfl rfl ((pick_ok g A cn cc (p + 1) 3 64 w (hCode.keep O (by simp)) (by omega) (by omega) (by omega) (by omega) (O.hand1 rfl)).mono ?_))
    rintro e w ⟨r8, rfl, h8a, h8b, K⟩
    refine ⟨_, rfl, fun a F => ?_⟩
    have O : Own w0 [g] [.cells g [.slice A cn cc, .int .i64 ((p + 1) + 1)] 64, .cells b6 [.int .i64 (-2), .int .i64 (990), .int .i64 (991)] 3] w := O.call1 K rfl
    clear K
    have O : Own w0 [g] [.cells g [.slice A cn cc, .int .i64 ((p + 1) + 1)] 64, .cells b6 [.int .i64 (-2), .int .i64 (990), .int .i64 (991)] 3] w := O
    rcases (by omega : r8 = 0 ∨ r8 = 1 ∨ r8 = 2) with rfl | rfl | rfl
    · refine sp F (p_iaddr rfl rfl Tryd.underlying22 Tryd.sz_3 (by omega) (by omega)) rfl rfl fun a F => sp F (p_load rfl Tryd.agg_3 (fun _ h => (ld1 (O.load 1 rfl rfl) h))) rfl rfl fun a F => sp F (p_assign rfl) rfl rfl fun a F => c_nil (hK4 _ _ (?_))
      try clear hK4 K4
      refine wp_ret (r_then (ret1 F rfl rfl (?_)))
      have O := O.setR 0 rfl (show Res.cells g [.slice A cn cc, .int .i64 ((p + 1) + 1)] 64 = .cells g [.slice A cn cc, .int .i64 (((p + 1) + 1))] 64 from by simp <;> omega)
      have O : Own w0 [g] [.cells g [.slice A cn cc, .int .i64 (((p + 1) + 1))] 64, .cells b6 [.int .i64 (-2), .int .i64 (990), .int .i64 (991)] 3] w := O
      have O : Own w0 [g] [.cells g [.slice A cn cc, .int .i64 (((p + 1) + 1))] 64] w := (O.take 1)
      exact ⟨(-2), ((p + 1) + 1), congrArg Ending.returned (show Value.int .i64 (-2) = .int .i64 ((-2)) from by first | exact vint (by omega) | exact vint (by simp; done)), by first | assumption | omega, by first | assumption | omega, by first | assumption | omega, by first | assumption | omega, O⟩
    · refine sp F (p_iaddr rfl rfl Tryd.underlying22 Tryd.sz_3 (by omega) (by omega)) rfl rfl fun a F => sp F (p_load rfl Tryd.agg_3 (fun _ h => (ld1 (O.load 1 rfl rfl) h))) rfl rfl fun a F => sp F (p_assign rfl) rfl rfl fun a F => c_nil (hK4 _ _ (?_))
      try clear hK4 K4
      refine wp_ret (r_then (ret1 F rfl rfl (?_)))
      have O := O.setR 0 rfl (show Res.cells g [.slice A cn cc, .int .i64 ((p + 1) + 1)] 64 = .cells g [.slice A cn cc, .int .i64 (((p + 1) + 1))] 64 from by simp <;> omega)
      have O : Own w0 [g] [.cells g [.slice A cn cc, .int .i64 (((p + 1) + 1))] 64, .cells b6 [.int .i64 (-2), .int .i64 (990), .int .i64 (991)] 3] w := O
      have O : Own w0 [g] [.cells g [.slice A cn cc, .int .i64 (((p + 1) + 1))] 64] w := (O.take 1)
      exact ⟨990, ((p + 1) + 1), rfl, by first | assumption | omega, by first | assumption | omega, by first | assumption | omega, by first | assumption | omega, O⟩
    · refine sp F (p_iaddr rfl rfl Tryd.underlying22 Tryd.sz_3 (by omega) (by omega)) rfl rfl fun a F => sp F (p_load rfl Tryd.agg_3 (fun _ h => (ld1 (O.load 1 rfl rfl) h))) rfl rfl fun a F => sp F (p_assign rfl) rfl rfl fun a F => c_nil (hK4 _ _ (?_))
      try clear hK4 K4
      refine wp_ret (r_then (ret1 F rfl rfl (?_)))
      have O := O.setR 0 rfl (show Res.cells g [.slice A cn cc, .int .i64 ((p + 1) + 1)] 64 = .cells g [.slice A cn cc, .int .i64 (((p + 1) + 1))] 64 from by simp <;> omega)
      have O : Own w0 [g] [.cells g [.slice A cn cc, .int .i64 (((p + 1) + 1))] 64, .cells b6 [.int .i64 (-2), .int .i64 (990), .int .i64 (991)] 3] w := O
      have O : Own w0 [g] [.cells g [.slice A cn cc, .int .i64 (((p + 1) + 1))] 64] w := (O.take 1)
      exact ⟨991, ((p + 1) + 1), rfl, by first | assumption | omega, by first | assumption | omega, by first | assumption | omega, by first | assumption | omega, O⟩
  · have F := F.setB (d := 5) rfl (decide_eq_false c5)
    refine c_iff F rfl (wp_skip (hK2 _ _ (?_)))
    try clear hK2 K2
    refine c_seq fun K4 hK4 => c_region (sp F (p_move rfl) rfl rfl fun a F => so F rfl (o_call (vs := #[.pointer (some ⟨g, 0, none⟩), .int .i64 (6)]) F Tryd.en_42 rfl rfl ((pick_ok g A cn cc (p + 1) 6 64 w (hCode.keep O (by simp)) (by omega) (by omega) (by omega) (by omega) (O.hand1 rfl)).mono ?_)))
    rintro e w ⟨r12, rfl, h12a, h12b, K⟩
    refine ⟨_, rfl, fun a F => ?_⟩
    have O : Own w0 [g] [.cells g [.slice A cn cc, .int .i64 ((p + 1) + 1)] 64] w := O.call1 K rfl
    clear K
    have O : Own w0 [g] [.cells g [.slice A cn cc, .int .i64 ((p + 1) + 1)] 64] w := O
    refine sp F (p_sub rfl rfl (by omega) (by omega)) rfl rfl fun a F => sp F (p_assign rfl) rfl rfl fun a F => c_nil (hK4 _ _ (?_))
    try clear hK4 K4
    refine wp_ret (ret1 F rfl rfl (?_))
    have O := O.setR 0 rfl (show Res.cells g [.slice A cn cc, .int .i64 ((p + 1) + 1)] 64 = .cells g [.slice A cn cc, .int .i64 (((p + 1) + 1))] 64 from by simp <;> omega)
    have O : Own w0 [g] [.cells g [.slice A cn cc, .int .i64 (((p + 1) + 1))] 64] w := O
    exact ⟨(r12 - 1), ((p + 1) + 1), congrArg Ending.returned (show Value.int .i64 (r12 - 1) = .int .i64 ((r12 - 1)) from by first | exact vint (by omega) | exact vint (by simp; done)), by first | assumption | omega, by first | assumption | omega, by first | assumption | omega, by first | assumption | omega, O⟩

set_option maxRecDepth 100000 in
/-- spec.l92Txn -/
theorem l92Txn_ok (g : Nat) (A : Option Addr) (cn : Nat) (cc : Nat) (p : Int) (w0 : World) (hCode : Code w0 g A cn) (hp0 : 0 ≤ p) (hp : p ≤ 900000) (O : Own w0 [g] [.cells g [.slice A cn cc, .int .i64 (p)] 64] w0) :
    Calls Tryd.prog 32 #[.pointer (some ⟨g, 0, none⟩)] w0 fun e w => ∃ (v : Int), ∃ (q : Int), e = .returned (.int .i64 (v)) ∧ (-1 ≤ v) ∧ (v ≤ 12) ∧ (p ≤ q) ∧ (q ≤ p + 2) ∧ Own w0 [g] [.cells g [.slice A cn cc, .int .i64 (q)] 64] w := by
  refine enterO (n := 13) Tryd.func32 rfl rfl rfl O fun a w F O => ?_
  refine c_seq fun K1 hK1 => c_region (sp F (p_assign rfl) rfl rfl fun a F => c_nil (hK1 _ _ (?_)))
  try clear hK1 K1
  refine c_seq fun K2 hK2 => c_seq fun K3 hK3 => c_region (sp F (p_move rfl) rfl rfl fun a F => so F rfl (o_call (vs := #[.pointer (some ⟨g, 0, none⟩), .int .i64 (24)]) F Tryd.en_42 rfl rfl ((pick_ok g A cn cc p 24 64 w (hCode.keep O (by simp)) (by omega) (by omega) (by omega) (by omega) (O.hand1 rfl)).mono ?_)))
  rintro e w ⟨r4, rfl, h4a, h4b, K⟩
  refine ⟨_, rfl, fun a F => ?_⟩
  have O : Own w0 [g] [.cells g [.slice A cn cc, .int .i64 (p + 1)] 64] w := O.call1 K rfl
  clear K
  have O : Own w0 [g] [.cells g [.slice A cn cc, .int .i64 (p + 1)] 64] w := O
  refine sp F (p_eql rfl rfl) rfl rfl fun a F => c_nil (hK3 _ _ (?_))
  try clear hK3 K3
  by_cases c5 : r4 = 0
  · have F := F.setB (d := 5) rfl (decide_eq_true c5)
    refine c_ift F rfl (c_seq fun K4 hK4 => c_region (so F rfl (o_bslice (cs := [.int .i64 (-1), .int .i64 (11), .int .i64 (12)]) F O rfl Tryd.underlying22 Tryd.sz_3 Tryd.zero_3 rfl rfl rfl fun b6 w O a F => ?_)))
    have O : Own w0 [g] [.cells b6 [.int .i64 (-1), .int .i64 (11), .int .i64 (12)] 3, .cells g [.slice A cn cc, .int .i64 (p + 1)] 64] w := O
    refine sp F (p_move rfl) rfl rfl fun a F => ?_
    have O := O.pull 1 rfl
    have O : Own w0 [g] [.cells g [.slice A cn cc, .int .i64 (p + 1)] 64, .cells b6 [.int .i64 (-1), .int .i64 (11), .int .i64 (12)] 3] w := O
    refine so F rfl (o_call (vs := #[.pointer (some ⟨g, 0, none⟩), .int .i64 (3)]) F Tryd.en_42 rfl rfl ((pick_ok g A cn cc (p + 1) 3 64 w (hCode.keep O (by simp)) (by omega) (by omega) (by omega) (by omega) (O.hand1 rfl)).mono ?_))
    rintro e w ⟨r8, rfl, h8a, h8b, K⟩
    refine ⟨_, rfl, fun a F => ?_⟩
    have O : Own w0 [g] [.cells g [.slice A cn cc, .int .i64 ((p + 1) + 1)] 64, .cells b6 [.int .i64 (-1), .int .i64 (11), .int .i64 (12)] 3] w := O.call1 K rfl
    clear K
    have O : Own w0 [g] [.cells g [.slice A cn cc, .int .i64 ((p + 1) + 1)] 64, .cells b6 [.int .i64 (-1), .int .i64 (11), .int .i64 (12)] 3] w := O
    rcases (by omega : r8 = 0 ∨ r8 = 1 ∨ r8 = 2) with rfl | rfl | rfl
    · refine sp F (p_iaddr rfl rfl Tryd.underlying22 Tryd.sz_3 (by omega) (by omega)) rfl rfl fun a F => sp F (p_load rfl Tryd.agg_3 (fun _ h => (ld1 (O.load 1 rfl rfl) h))) rfl rfl fun a F => sp F (p_assign rfl) rfl rfl fun a F => c_nil (hK4 _ _ (?_))
      try clear hK4 K4
      refine wp_ret (r_then (ret1 F rfl rfl (?_)))
      have O := O.setR 0 rfl (show Res.cells g [.slice A cn cc, .int .i64 ((p + 1) + 1)] 64 = .cells g [.slice A cn cc, .int .i64 (((p + 1) + 1))] 64 from by simp <;> omega)
      have O : Own w0 [g] [.cells g [.slice A cn cc, .int .i64 (((p + 1) + 1))] 64, .cells b6 [.int .i64 (-1), .int .i64 (11), .int .i64 (12)] 3] w := O
      have O : Own w0 [g] [.cells g [.slice A cn cc, .int .i64 (((p + 1) + 1))] 64] w := (O.take 1)
      exact ⟨(-1), ((p + 1) + 1), congrArg Ending.returned (show Value.int .i64 (-1) = .int .i64 ((-1)) from by first | exact vint (by omega) | exact vint (by simp; done)), by first | assumption | omega, by first | assumption | omega, by first | assumption | omega, by first | assumption | omega, O⟩
    · refine sp F (p_iaddr rfl rfl Tryd.underlying22 Tryd.sz_3 (by omega) (by omega)) rfl rfl fun a F => sp F (p_load rfl Tryd.agg_3 (fun _ h => (ld1 (O.load 1 rfl rfl) h))) rfl rfl fun a F => sp F (p_assign rfl) rfl rfl fun a F => c_nil (hK4 _ _ (?_))
      try clear hK4 K4
      refine wp_ret (r_then (ret1 F rfl rfl (?_)))
      have O := O.setR 0 rfl (show Res.cells g [.slice A cn cc, .int .i64 ((p + 1) + 1)] 64 = .cells g [.slice A cn cc, .int .i64 (((p + 1) + 1))] 64 from by simp <;> omega)
      have O : Own w0 [g] [.cells g [.slice A cn cc, .int .i64 (((p + 1) + 1))] 64, .cells b6 [.int .i64 (-1), .int .i64 (11), .int .i64 (12)] 3] w := O
      have O : Own w0 [g] [.cells g [.slice A cn cc, .int .i64 (((p + 1) + 1))] 64] w := (O.take 1)
      exact ⟨11, ((p + 1) + 1), rfl, by first | assumption | omega, by first | assumption | omega, by first | assumption | omega, by first | assumption | omega, O⟩
    · refine sp F (p_iaddr rfl rfl Tryd.underlying22 Tryd.sz_3 (by omega) (by omega)) rfl rfl fun a F => sp F (p_load rfl Tryd.agg_3 (fun _ h => (ld1 (O.load 1 rfl rfl) h))) rfl rfl fun a F => sp F (p_assign rfl) rfl rfl fun a F => c_nil (hK4 _ _ (?_))
      try clear hK4 K4
      refine wp_ret (r_then (ret1 F rfl rfl (?_)))
      have O := O.setR 0 rfl (show Res.cells g [.slice A cn cc, .int .i64 ((p + 1) + 1)] 64 = .cells g [.slice A cn cc, .int .i64 (((p + 1) + 1))] 64 from by simp <;> omega)
      have O : Own w0 [g] [.cells g [.slice A cn cc, .int .i64 (((p + 1) + 1))] 64, .cells b6 [.int .i64 (-1), .int .i64 (11), .int .i64 (12)] 3] w := O
      have O : Own w0 [g] [.cells g [.slice A cn cc, .int .i64 (((p + 1) + 1))] 64] w := (O.take 1)
      exact ⟨12, ((p + 1) + 1), rfl, by first | assumption | omega, by first | assumption | omega, by first | assumption | omega, by first | assumption | omega, O⟩
  · have F := F.setB (d := 5) rfl (decide_eq_false c5)
    refine c_iff F rfl (wp_skip (hK2 _ _ (?_)))
    try clear hK2 K2
    refine c_seq fun K4 hK4 => c_region (sp F (p_move rfl) rfl rfl fun a F => so F rfl (o_call (vs := #[.pointer (some ⟨g, 0, none⟩), .int .i64 (5)]) F Tryd.en_42 rfl rfl ((pick_ok g A cn cc (p + 1) 5 64 w (hCode.keep O (by simp)) (by omega) (by omega) (by omega) (by omega) (O.hand1 rfl)).mono ?_)))
    rintro e w ⟨r12, rfl, h12a, h12b, K⟩
    refine ⟨_, rfl, fun a F => ?_⟩
    have O : Own w0 [g] [.cells g [.slice A cn cc, .int .i64 ((p + 1) + 1)] 64] w := O.call1 K rfl
    clear K
    have O : Own w0 [g] [.cells g [.slice A cn cc, .int .i64 ((p + 1) + 1)] 64] w := O
    refine sp F (p_assign rfl) rfl rfl fun a F => c_nil (hK4 _ _ (?_))
    try clear hK4 K4
    refine wp_ret (ret1 F rfl rfl (?_))
    have O := O.setR 0 rfl (show Res.cells g [.slice A cn cc, .int .i64 ((p + 1) + 1)] 64 = .cells g [.slice A cn cc, .int .i64 (((p + 1) + 1))] 64 from by simp <;> omega)
    have O : Own w0 [g] [.cells g [.slice A cn cc, .int .i64 (((p + 1) + 1))] 64] w := O
    exact ⟨r12, ((p + 1) + 1), rfl, by first | assumption | omega, by first | assumption | omega, by first | assumption | omega, by first | assumption | omega, O⟩

set_option maxRecDepth 100000 in
/-- spec.l92Locks -/
theorem l92Locks_ok (g : Nat) (A : Option Addr) (cn : Nat) (cc : Nat) (p : Int) (w0 : World) (hCode : Code w0 g A cn) (hp0 : 0 ≤ p) (hp : p ≤ 100000) (O : Own w0 [g] [.cells g [.slice A cn cc, .int .i64 (p)] 64] w0) :
    Calls Tryd.prog 31 #[.pointer (some ⟨g, 0, none⟩)] w0 fun e w => ∃ (b : Nat), ∃ (N : Nat), ∃ (C : Nat), ∃ (es : List (Int)), ∃ (q : Int), e = .returned (.slice (some ⟨b, 0, none⟩) N C) ∧ ((N : Int) = es.length) ∧ ((N : Int) ≤ 4) ∧ (p ≤ q) ∧ (q ≤ p + 20) ∧ Own w0 [g] [.cells g [.slice A cn cc, .int .i64 (q)] 64, .row 3 1 (.slice (some ⟨b, 0, none⟩) N C) N (es.flatMap encInt)] w := by
  refine enterO (n := 38) Tryd.func31 rfl rfl rfl O fun a w F O => ?_
  refine c_seq fun K1 hK1 => c_region (sp F (p_assign rfl) rfl rfl fun a F => c_nil (hK1 _ _ (?_)))
  try clear hK1 K1
  refine c_seq fun K2 hK2 => c_region (so F rfl (o_bslice (cs := []) F O rfl Tryd.underlying22 Tryd.sz_3 Tryd.zero_3 rfl rfl rfl fun b6 w O a F => ?_))
  have O : Own w0 [g] [.cells b6 [] 3, .cells g [.slice A cn cc, .int .i64 (p)] 64] w := O
  refine sp F (p_assign rfl) rfl rfl fun a F => c_nil (hK2 _ _ (?_))
  try clear hK2 K2
  refine c_seq fun K3 hK3 => c_seq fun K4 hK4 => c_region (sp F (p_assign rfl) rfl rfl fun a F => c_nil (hK4 _ _ (?_)))
  try clear hK4 K4
  refine wp_block (?_)
  refine c_loop (fun mm a w => ∃ (k : Int), ∃ (q : Int), ∃ (P : Option Addr), ∃ (N : Nat), ∃ (C : Nat), ∃ (L1 : List Int), mm = ((4 : Int) - k).toNat ∧ Has 38 [(0, .pointer (some ⟨g, 0, none⟩)), (2, .slice none 0 0), (4, .int .i64 (k)), (3, .slice P N C)] a ∧ Own w0 [g] [.cells g [.slice A cn cc, .int .i64 (q)] 64, .row 3 1 (.slice P N C) N (L1.flatMap encInt)] w ∧ (0 ≤ k) ∧ (k ≤ 4) ∧ ((N : Int) = L1.length) ∧ ((N : Int) = k) ∧ (p ≤ q) ∧ (q ≤ p + 3 * k)) ?_ ?_
  · have F : Has 38 [(0, .pointer (some ⟨g, 0, none⟩)), (2, .slice none 0 0), (4, .int .i64 (0)), (3, .slice (some ⟨b6, 0, none⟩) 0 0)] a := F.pick ⟨rfl, rfl, rfl, rfl, trivial⟩
    have O := O.asRow 0 (q := 0) (sz := 1) rfl rfl (by unfold maxLen; omega)
    have O : Own w0 [g] [.row 3 1 (.slice (some ⟨b6, 0, none⟩) 0 0) 0 ([]), .cells g [.slice A cn cc, .int .i64 (p)] 64] w := O
    have O := O.setR 0 rfl (show Res.row 3 1 (.slice (some ⟨b6, 0, none⟩) 0 0) 0 ([]) = .row 3 1 (.slice (some ⟨b6, 0, none⟩) 0 0) 0 (([]).flatMap encInt) from by rfl)
    have O : Own w0 [g] [.row 3 1 (.slice (some ⟨b6, 0, none⟩) 0 0) 0 (([]).flatMap encInt), .cells g [.slice A cn cc, .int .i64 (p)] 64] w := O
    have O : Own w0 [g] [.cells g [.slice A cn cc, .int .i64 (p)] 64, .row 3 1 (.slice (some ⟨b6, 0, none⟩) 0 0) 0 (([]).flatMap encInt)] w := ((O.pull 0 rfl).pull 1 rfl)
    exact ⟨((4 : Int) - 0).toNat, 0, p, (some ⟨b6, 0, none⟩), 0, 0, ([]), rfl, F, O, by first | assumption | omega, by first | assumption | omega, by rfl, by rfl, by first | assumption | omega, by first | assumption | omega⟩
  · rintro mm a w ⟨k, q, P, N, C, L1, rfl, F, O, hi0a, hi0b, hi0c, hi0d, hi0e, hi0f⟩
    refine c_seq fun K5 hK5 => c_seq fun K6 hK6 => c_region (sp F (p_move rfl) rfl rfl fun a F => sp F (p_lss rfl rfl) rfl rfl fun a F => c_nil (hK6 _ _ (?_)))
    try clear hK6 K6
    by_cases c8 : k < 4
    · have F := F.setB (d := 8) rfl (decide_eq_true c8)
      refine c_ift F rfl (wp_skip (hK5 _ _ (?_)))
      try clear hK5 K5
      refine c_seq fun K7 hK7 => wp_block (c_seq fun K8 hK8 => c_region (sp F (p_assign rfl) rfl rfl fun a F => c_nil (hK8 _ _ (?_))))
      try clear hK8 K8
      refine c_mid (fun a w => ∃ (m : Int), ∃ (q1 : Int), Has 38 [(0, .pointer (some ⟨g, 0, none⟩)), (2, .slice none 0 0), (4, .int .i64 (k)), (3, .slice P N C), (8, .bool true), (5, .int .i64 (m))] a ∧ Own w0 [g] [.cells g [.slice A cn cc, .int .i64 (q1)] 64, .row 3 1 (.slice P N C) N (L1.flatMap encInt)] w ∧ (p ≤ q1) ∧ (q1 ≤ p + 3 * k + 2)) ?_ ?_
      · refine c_seq fun K9 hK9 => c_region (sp F (p_move rfl) rfl rfl fun a F => so F rfl (o_call (vs := #[.pointer (some ⟨g, 0, none⟩), .int .i64 (3)]) F Tryd.en_42 rfl rfl ((pick_ok g A cn cc q 3 64 w (hCode.keep O (by simp)) (by omega) (by omega) (by omega) (by omega) (O.hand1 rfl)).mono ?_)))
        rintro e w ⟨r12, rfl, h12a, h12b, K⟩
        refine ⟨_, rfl, fun a F => ?_⟩
        have O : Own w0 [g] [.cells g [.slice A cn cc, .int .i64 (q + 1)] 64, .row 3 1 (.slice P N C) N (L1.flatMap encInt)] w := O.call1 K rfl
        clear K
        have O : Own w0 [g] [.cells g [.slice A cn cc, .int .i64 (q + 1)] 64, .row 3 1 (.slice P N C) N (L1.flatMap encInt)] w := O
        refine sp F (p_eql rfl rfl) rfl rfl fun a F => c_nil (hK9 _ _ (?_))
        try clear hK9 K9
        by_cases c13 : r12 = 0
        · have F := F.setB (d := 13) rfl (decide_eq_true c13)
          refine c_ift F rfl (c_region (sp F (p_move rfl) rfl rfl fun a F => so F rfl (o_call (vs := #[.pointer (some ⟨g, 0, none⟩), .int .i64 (5)]) F Tryd.en_42 rfl rfl ((pick_ok g A cn cc (q + 1) 5 64 w (hCode.keep O (by simp)) (by omega) (by omega) (by omega) (by omega) (O.hand1 rfl)).mono ?_))))
          rintro e w ⟨r15, rfl, h15a, h15b, K⟩
          refine ⟨_, rfl, fun a F => ?_⟩
          have O : Own w0 [g] [.cells g [.slice A cn cc, .int .i64 ((q + 1) + 1)] 64, .row 3 1 (.slice P N C) N (L1.flatMap encInt)] w := O.call1 K rfl
          clear K
          have O : Own w0 [g] [.cells g [.slice A cn cc, .int .i64 ((q + 1) + 1)] 64, .row 3 1 (.slice P N C) N (L1.flatMap encInt)] w := O
          refine sp F (p_assign rfl) rfl rfl fun a F => c_nil (?_)
          have F : Has 38 [(0, .pointer (some ⟨g, 0, none⟩)), (2, .slice none 0 0), (4, .int .i64 (k)), (3, .slice P N C), (8, .bool true), (5, .int .i64 (r15))] a := F.pick ⟨rfl, rfl, rfl, rfl, rfl, rfl, trivial⟩
          exact ⟨r15, ((q + 1) + 1), F, O, by first | assumption | omega, by first | assumption | omega⟩
        · have F := F.setB (d := 13) rfl (decide_eq_false c13)
          refine c_iff F rfl (wp_skip (?_))
          have F : Has 38 [(0, .pointer (some ⟨g, 0, none⟩)), (2, .slice none 0 0), (4, .int .i64 (k)), (3, .slice P N C), (8, .bool true), (5, .int .i64 (-1))] a := F.pick ⟨rfl, rfl, rfl, rfl, rfl, rfl, trivial⟩
          exact ⟨(-1), (q + 1), F, O, by first | assumption | omega, by first | assumption | omega⟩
      · rintro a w ⟨m, q1, F, O, hm13a, hm13b⟩
        refine c_region (sp F (p_move rfl) rfl rfl fun a F => sp F (p_move rfl) rfl rfl fun a F => so F rfl (o_bslice (cs := [.int .i64 (m)]) F O rfl Tryd.underlying22 Tryd.sz_3 Tryd.zero_3 rfl rfl rfl fun b18 w O a F => ?_))
        have O : Own w0 [g] [.cells b18 [.int .i64 (m)] 3, .cells g [.slice A cn cc, .int .i64 (q1)] 64, .row 3 1 (.slice P N C) N (L1.flatMap encInt)] w := O
        refine so F rfl (o_append F O rfl rfl Tryd.underlying22 Tryd.elem_3 (by decide) 2 0 rfl rfl rfl rfl (by unfold maxLen; omega) (by omega) rfl fun p19 k19 w O a F => ?_)
        have O : Own w0 [g] [.cells b18 [.int .i64 (m)] 3, .cells g [.slice A cn cc, .int .i64 (q1)] 64, .row 3 1 (.slice p19 (N + 1) k19) (N + 1) ((L1.flatMap encInt) ++ [.int .i64 (m)])] w := O
        have O := O.setR 2 rfl (show Res.row 3 1 (.slice p19 (N + 1) k19) (N + 1) ((L1.flatMap encInt) ++ [.int .i64 (m)]) = .row 3 1 (.slice p19 (N + 1) k19) (N + 1) ((L1 ++ [m]).flatMap encInt) from by simp [encInt])
        have O : Own w0 [g] [.cells b18 [.int .i64 (m)] 3, .cells g [.slice A cn cc, .int .i64 (q1)] 64, .row 3 1 (.slice p19 (N + 1) k19) (N + 1) ((L1 ++ [m]).flatMap encInt)] w := O
        refine sp F (p_assign rfl) rfl rfl fun a F => c_nil (hK7 _ _ (?_))
        try clear hK7 K7
        refine c_region (sp F (p_move rfl) rfl rfl fun a F => sp F (p_add rfl rfl (by omega) (by omega)) rfl rfl fun a F => sp F (p_assign rfl) rfl rfl fun a F => c_nil (?_))
        have F : Has 38 [(0, .pointer (some ⟨g, 0, none⟩)), (2, .slice none 0 0), (4, .int .i64 (k + 1)), (3, .slice p19 (N + 1) k19)] a := F.pick ⟨rfl, rfl, rfl, rfl, trivial⟩
        have O : Own w0 [g] [.cells g [.slice A cn cc, .int .i64 (q1)] 64, .row 3 1 (.slice p19 (N + 1) k19) (N + 1) ((L1 ++ [m]).flatMap encInt)] w := (((O.pull 2 rfl).pull 2 rfl).take 2)
        exact ⟨((4 : Int) - (k + 1)).toNat, by omega, (k + 1), q1, p19, (N + 1), k19, (L1 ++ [m]), rfl, F, O, by first | assumption | omega, by first | assumption | omega, by first | omega | (simp; done) | (simp; omega) | (simp at *; omega), by first | assumption | omega, by first | assumption | omega, by first | assumption | omega⟩
    · have F := F.setB (d := 8) rfl (decide_eq_false c8)
      refine c_iff F rfl (wp_exit (e_then (e_then (e_here (hK3 _ _ (?_))))))
      try clear hK3 K3
      refine c_seq fun K7 hK7 => c_seq fun K8 hK8 => ?_
      obtain ⟨b701, hp701⟩ := O.rowSome 1 rfl (by omega)
      rw [hp701] at O
      try rw [hp701] at F
      refine c_region (sp F (p_move rfl) rfl rfl fun a F => so F rfl (o_call (vs := #[.pointer (some ⟨g, 0, none⟩), .int .i64 (24)]) F Tryd.en_42 rfl rfl ((pick_ok g A cn cc q 24 64 w (hCode.keep O (by simp)) (by omega) (by omega) (by omega) (by omega) (O.hand1 rfl)).mono ?_)))
      rintro e w ⟨r21, rfl, h21a, h21b, K⟩
      refine ⟨_, rfl, fun a F => ?_⟩
      have O : Own w0 [g] [.cells g [.slice A cn cc, .int .i64 (q + 1)] 64, .row 3 1 (.slice (some ⟨b701, 0, none⟩) N C) N (L1.flatMap encInt)] w := O.call1 K rfl
      clear K
      have O : Own w0 [g] [.cells g [.slice A cn cc, .int .i64 (q + 1)] 64, .row 3 1 (.slice (some ⟨b701, 0, none⟩) N C) N (L1.flatMap encInt)] w := O
      refine c_nil (hK8 _ _ (?_))
      try clear hK8 K8
      refine wp_block (c_seq fun K9 hK9 => c_region (sp F (p_eql rfl rfl) rfl rfl fun a F => sp F (p_assign rfl) rfl rfl fun a F => c_nil (hK9 _ _ (?_))))
      try clear hK9 K9
      by_cases c22 : r21 = 0
      · have F := F.setB (d := 23) rfl (decide_eq_true c22)
        have F := F.setB (d := 22) rfl (decide_eq_true c22)
        refine c_ift F rfl (c_region (sp F (p_move rfl) rfl rfl fun a F => sp F (p_move rfl) rfl rfl fun a F => so F rfl (o_call (vs := #[.pointer (some ⟨g, 0, none⟩), .int .i64 (4)]) F Tryd.en_42 rfl rfl ((pick_ok g A cn cc (q + 1) 4 64 w (hCode.keep O (by simp)) (by omega) (by omega) (by omega) (by omega) (O.hand1 rfl)).mono ?_))))
        rintro e w ⟨r26, rfl, h26a, h26b, K⟩
        refine ⟨_, rfl, fun a F => ?_⟩
        have O : Own w0 [g] [.cells g [.slice A cn cc, .int .i64 ((q + 1) + 1)] 64, .row 3 1 (.slice (some ⟨b701, 0, none⟩) N C) N (L1.flatMap encInt)] w := O.call1 K rfl
        clear K
        have O : Own w0 [g] [.cells g [.slice A cn cc, .int .i64 ((q + 1) + 1)] 64, .row 3 1 (.slice (some ⟨b701, 0, none⟩) N C) N (L1.flatMap encInt)] w := O
        refine so F rfl (o_bslice (cs := [.int .i64 (-2), .int .i64 (11), .int .i64 (12)]) F O rfl Tryd.underlying22 Tryd.sz_3 Tryd.zero_3 rfl rfl rfl fun b27 w O a F => ?_)
        have O : Own w0 [g] [.cells b27 [.int .i64 (-2), .int .i64 (11), .int .i64 (12)] 3, .cells g [.slice A cn cc, .int .i64 ((q + 1) + 1)] 64, .row 3 1 (.slice (some ⟨b701, 0, none⟩) N C) N (L1.flatMap encInt)] w := O
        refine sp F (p_move rfl) rfl rfl fun a F => ?_
        have O := O.pull 1 rfl
        have O : Own w0 [g] [.cells g [.slice A cn cc, .int .i64 ((q + 1) + 1)] 64, .cells b27 [.int .i64 (-2), .int .i64 (11), .int .i64 (12)] 3, .row 3 1 (.slice (some ⟨b701, 0, none⟩) N C) N (L1.flatMap encInt)] w := O
        refine so F rfl (o_call (vs := #[.pointer (some ⟨g, 0, none⟩), .int .i64 (3)]) F Tryd.en_42 rfl rfl ((pick_ok g A cn cc ((q + 1) + 1) 3 64 w (hCode.keep O (by simp)) (by omega) (by omega) (by omega) (by omega) (O.hand1 rfl)).mono ?_))
        rintro e w ⟨r29, rfl, h29a, h29b, K⟩
        refine ⟨_, rfl, fun a F => ?_⟩
        have O : Own w0 [g] [.cells g [.slice A cn cc, .int .i64 (((q + 1) + 1) + 1)] 64, .cells b27 [.int .i64 (-2), .int .i64 (11), .int .i64 (12)] 3, .row 3 1 (.slice (some ⟨b701, 0, none⟩) N C) N (L1.flatMap encInt)] w := O.call1 K rfl
        clear K
        have O : Own w0 [g] [.cells g [.slice A cn cc, .int .i64 (((q + 1) + 1) + 1)] 64, .cells b27 [.int .i64 (-2), .int .i64 (11), .int .i64 (12)] 3, .row 3 1 (.slice (some ⟨b701, 0, none⟩) N C) N (L1.flatMap encInt)] w := O
        rcases (by omega : r29 = 0 ∨ r29 = 1 ∨ r29 = 2) with rfl | rfl | rfl
        · refine sp F (p_iaddr rfl rfl Tryd.underlying22 Tryd.sz_3 (by omega) (by omega)) rfl rfl fun a F => sp F (p_load rfl Tryd.agg_3 (fun _ h => (ld1 (O.load 1 rfl rfl) h))) rfl rfl fun a F => ?_
          obtain ⟨e32, he32⟩ := get_some (l := L1) (i := r26) (by omega) (by first | omega | (simp; omega))
          refine sp F (p_iaddr rfl rfl Tryd.underlying22 Tryd.sz_3 (by omega) (by omega)) rfl rfl fun a F => so F rfl (o_storeRow F O rfl rfl Tryd.sz_3 rfl rfl 2 rfl (by rw [flat_len encInt_len]; first | omega | (simp; omega)) fun w O => ?_)
          have hst : (L1.flatMap encInt).set (0 + (r26 : Int).toNat * 1) (.int .i64 (-2)) = (L1.set (r26 : Int).toNat (-2)).flatMap encInt := flat_set encInt_len he32 (j := 0) rfl (by decide)
          have O := O.setR 2 rfl (congrArg (Res.row 3 1 (.slice (some ⟨b701, 0, none⟩) N C) N) hst)
          have O : Own w0 [g] [.cells g [.slice A cn cc, .int .i64 (((q + 1) + 1) + 1)] 64, .cells b27 [.int .i64 (-2), .int .i64 (11), .int .i64 (12)] 3, .row 3 1 (.slice (some ⟨b701, 0, none⟩) N C) N ((L1.set (r26 : Int).toNat (-2)).flatMap encInt)] w := O
          refine c_nil (hK7 _ _ (?_))
          try clear hK7 K7
          refine c_seq fun K10 hK10 => c_region (sp F (p_move rfl) rfl rfl fun a F => sp F (p_assign rfl) rfl rfl fun a F => c_nil (hK10 _ _ (?_)))
          try clear hK10 K10
          refine wp_ret (ret1 F rfl rfl (?_))
          have O := O.setR 0 rfl (show Res.cells g [.slice A cn cc, .int .i64 (((q + 1) + 1) + 1)] 64 = .cells g [.slice A cn cc, .int .i64 ((((q + 1) + 1) + 1))] 64 from by simp <;> omega)
          have O : Own w0 [g] [.cells g [.slice A cn cc, .int .i64 ((((q + 1) + 1) + 1))] 64, .cells b27 [.int .i64 (-2), .int .i64 (11), .int .i64 (12)] 3, .row 3 1 (.slice (some ⟨b701, 0, none⟩) N C) N ((L1.set (r26 : Int).toNat (-2)).flatMap encInt)] w := O
          have O : Own w0 [g] [.cells g [.slice A cn cc, .int .i64 ((((q + 1) + 1) + 1))] 64, .row 3 1 (.slice (some ⟨b701, 0, none⟩) N C) N ((L1.set (r26 : Int).toNat (-2)).flatMap encInt)] w := (((O.pull 2 rfl).pull 1 rfl).take 2)
          exact ⟨b701, N, C, (L1.set (r26 : Int).toNat (-2)), (((q + 1) + 1) + 1), rfl, by first | omega | (simp; done) | (simp; omega) | (simp at *; omega), by first | omega | (simp; done) | (simp; omega) | (simp at *; omega), by first | assumption | omega, by first | assumption | omega, O⟩
        · refine sp F (p_iaddr rfl rfl Tryd.underlying22 Tryd.sz_3 (by omega) (by omega)) rfl rfl fun a F => sp F (p_load rfl Tryd.agg_3 (fun _ h => (ld1 (O.load 1 rfl rfl) h))) rfl rfl fun a F => ?_
          obtain ⟨e32, he32⟩ := get_some (l := L1) (i := r26) (by omega) (by first | omega | (simp; omega))
          refine sp F (p_iaddr rfl rfl Tryd.underlying22 Tryd.sz_3 (by omega) (by omega)) rfl rfl fun a F => so F rfl (o_storeRow F O rfl rfl Tryd.sz_3 rfl rfl 2 rfl (by rw [flat_len encInt_len]; first | omega | (simp; omega)) fun w O => ?_)
          have hst : (L1.flatMap encInt).set (0 + (r26 : Int).toNat * 1) (.int .i64 (11)) = (L1.set (r26 : Int).toNat 11).flatMap encInt := flat_set encInt_len he32 (j := 0) rfl (by decide)
          have O := O.setR 2 rfl (congrArg (Res.row 3 1 (.slice (some ⟨b701, 0, none⟩) N C) N) hst)
          have O : Own w0 [g] [.cells g [.slice A cn cc, .int .i64 (((q + 1) + 1) + 1)] 64, .cells b27 [.int .i64 (-2), .int .i64 (11), .int .i64 (12)] 3, .row 3 1 (.slice (some ⟨b701, 0, none⟩) N C) N ((L1.set (r26 : Int).toNat 11).flatMap encInt)] w := O
          refine c_nil (hK7 _ _ (?_))
          try clear hK7 K7
          refine c_seq fun K10 hK10 => c_region (sp F (p_move rfl) rfl rfl fun a F => sp F (p_assign rfl) rfl rfl fun a F => c_nil (hK10 _ _ (?_)))
          try clear hK10 K10
          refine wp_ret (ret1 F rfl rfl (?_))
          have O := O.setR 0 rfl (show Res.cells g [.slice A cn cc, .int .i64 (((q + 1) + 1) + 1)] 64 = .cells g [.slice A cn cc, .int .i64 ((((q + 1) + 1) + 1))] 64 from by simp <;> omega)
          have O : Own w0 [g] [.cells g [.slice A cn cc, .int .i64 ((((q + 1) + 1) + 1))] 64, .cells b27 [.int .i64 (-2), .int .i64 (11), .int .i64 (12)] 3, .row 3 1 (.slice (some ⟨b701, 0, none⟩) N C) N ((L1.set (r26 : Int).toNat 11).flatMap encInt)] w := O
          have O : Own w0 [g] [.cells g [.slice A cn cc, .int .i64 ((((q + 1) + 1) + 1))] 64, .row 3 1 (.slice (some ⟨b701, 0, none⟩) N C) N ((L1.set (r26 : Int).toNat 11).flatMap encInt)] w := (((O.pull 2 rfl).pull 1 rfl).take 2)
          exact ⟨b701, N, C, (L1.set (r26 : Int).toNat 11), (((q + 1) + 1) + 1), rfl, by first | omega | (simp; done) | (simp; omega) | (simp at *; omega), by first | omega | (simp; done) | (simp; omega) | (simp at *; omega), by first | assumption | omega, by first | assumption | omega, O⟩
        · refine sp F (p_iaddr rfl rfl Tryd.underlying22 Tryd.sz_3 (by omega) (by omega)) rfl rfl fun a F => sp F (p_load rfl Tryd.agg_3 (fun _ h => (ld1 (O.load 1 rfl rfl) h))) rfl rfl fun a F => ?_
          obtain ⟨e32, he32⟩ := get_some (l := L1) (i := r26) (by omega) (by first | omega | (simp; omega))
          refine sp F (p_iaddr rfl rfl Tryd.underlying22 Tryd.sz_3 (by omega) (by omega)) rfl rfl fun a F => so F rfl (o_storeRow F O rfl rfl Tryd.sz_3 rfl rfl 2 rfl (by rw [flat_len encInt_len]; first | omega | (simp; omega)) fun w O => ?_)
          have hst : (L1.flatMap encInt).set (0 + (r26 : Int).toNat * 1) (.int .i64 (12)) = (L1.set (r26 : Int).toNat 12).flatMap encInt := flat_set encInt_len he32 (j := 0) rfl (by decide)
          have O := O.setR 2 rfl (congrArg (Res.row 3 1 (.slice (some ⟨b701, 0, none⟩) N C) N) hst)
          have O : Own w0 [g] [.cells g [.slice A cn cc, .int .i64 (((q + 1) + 1) + 1)] 64, .cells b27 [.int .i64 (-2), .int .i64 (11), .int .i64 (12)] 3, .row 3 1 (.slice (some ⟨b701, 0, none⟩) N C) N ((L1.set (r26 : Int).toNat 12).flatMap encInt)] w := O
          refine c_nil (hK7 _ _ (?_))
          try clear hK7 K7
          refine c_seq fun K10 hK10 => c_region (sp F (p_move rfl) rfl rfl fun a F => sp F (p_assign rfl) rfl rfl fun a F => c_nil (hK10 _ _ (?_)))
          try clear hK10 K10
          refine wp_ret (ret1 F rfl rfl (?_))
          have O := O.setR 0 rfl (show Res.cells g [.slice A cn cc, .int .i64 (((q + 1) + 1) + 1)] 64 = .cells g [.slice A cn cc, .int .i64 ((((q + 1) + 1) + 1))] 64 from by simp <;> omega)
          have O : Own w0 [g] [.cells g [.slice A cn cc, .int .i64 ((((q + 1) + 1) + 1))] 64, .cells b27 [.int .i64 (-2), .int .i64 (11), .int .i64 (12)] 3, .row 3 1 (.slice (some ⟨b701, 0, none⟩) N C) N ((L1.set (r26 : Int).toNat 12).flatMap encInt)] w := O
          have O : Own w0 [g] [.cells g [.slice A cn cc, .int .i64 ((((q + 1) + 1) + 1))] 64, .row 3 1 (.slice (some ⟨b701, 0, none⟩) N C) N ((L1.set (r26 : Int).toNat 12).flatMap encInt)] w := (((O.pull 2 rfl).pull 1 rfl).take 2)
          exact ⟨b701, N, C, (L1.set (r26 : Int).toNat 12), (((q + 1) + 1) + 1), rfl, by first | omega | (simp; done) | (simp; omega) | (simp at *; omega), by first | omega | (simp; done) | (simp; omega) | (simp at *; omega), by first | assumption | omega, by first | assumption | omega, O⟩
      · have F := F.setB (d := 23) rfl (decide_eq_false c22)
        have F := F.setB (d := 22) rfl (decide_eq_false c22)
        refine c_iff F rfl (c_seq fun K10 hK10 => c_region (sp F (p_eql rfl rfl) rfl rfl fun a F => sp F (p_assign rfl) rfl rfl fun a F => c_nil (hK10 _ _ (?_))))
        try clear hK10 K10
        by_cases c33 : r21 = 1
        · have F := F.setB (d := 34) rfl (decide_eq_true c33)
          have F := F.setB (d := 33) rfl (decide_eq_true c33)
          refine c_ift F rfl (c_region (sp F (p_move rfl) rfl rfl fun a F => ?_))
          have hcap36 := O.rowCap 1 rfl
          have O := O.cutRow 1 rfl (by omega) (flat_take encInt_len L1 ((3 : Int).toNat))
          have O : Own w0 [g] [.cells g [.slice A cn cc, .int .i64 (q + 1)] 64, .row 3 1 (.slice (some ⟨b701, 0, none⟩) ((3 : Int).toNat) C) ((3 : Int).toNat) ((L1.take ((3 : Int).toNat)).flatMap encInt)] w := O
          refine sp F (p_slto rfl rfl Tryd.underlying22 Tryd.sz_3 (by omega) (by omega)) rfl rfl fun a F => sp F (p_assign rfl) rfl rfl fun a F => c_nil (hK7 _ _ (?_))
          try clear hK7 K7
          refine c_seq fun K11 hK11 => c_region (sp F (p_move rfl) rfl rfl fun a F => sp F (p_assign rfl) rfl rfl fun a F => c_nil (hK11 _ _ (?_)))
          try clear hK11 K11
          refine wp_ret (ret1 F rfl rfl (?_))
          have O := O.setR 0 rfl (show Res.cells g [.slice A cn cc, .int .i64 (q + 1)] 64 = .cells g [.slice A cn cc, .int .i64 ((q + 1))] 64 from by simp <;> omega)
          have O : Own w0 [g] [.cells g [.slice A cn cc, .int .i64 ((q + 1))] 64, .row 3 1 (.slice (some ⟨b701, 0, none⟩) ((3 : Int).toNat) C) ((3 : Int).toNat) ((L1.take ((3 : Int).toNat)).flatMap encInt)] w := O
          exact ⟨b701, ((3 : Int).toNat), C, (L1.take ((3 : Int).toNat)), (q + 1), rfl, by first | omega | (simp; done) | (simp; omega) | (simp at *; omega), by first | omega | (simp; done) | (simp; omega) | (simp at *; omega), by first | assumption | omega, by first | assumption | omega, O⟩
        · have F := F.setB (d := 34) rfl (decide_eq_false c33)
          have F := F.setB (d := 33) rfl (decide_eq_false c33)
          refine c_iff F rfl (wp_skip (hK7 _ _ (?_)))
          try clear hK7 K7
          refine c_seq fun K11 hK11 => c_region (sp F (p_move rfl) rfl rfl fun a F => sp F (p_assign rfl) rfl rfl fun a F => c_nil (hK11 _ _ (?_)))
          try clear hK11 K11
          refine wp_ret (ret1 F rfl rfl (?_))
          have O := O.setR 0 rfl (show Res.cells g [.slice A cn cc, .int .i64 (q + 1)] 64 = .cells g [.slice A cn cc, .int .i64 ((q + 1))] 64 from by simp <;> omega)
          have O : Own w0 [g] [.cells g [.slice A cn cc, .int .i64 ((q + 1))] 64, .row 3 1 (.slice (some ⟨b701, 0, none⟩) N C) N (L1.flatMap encInt)] w := O
          exact ⟨b701, N, C, L1, (q + 1), rfl, by first | omega | (simp; done) | (simp; omega) | (simp at *; omega), by first | omega | (simp; done) | (simp; omega) | (simp at *; omega), by first | assumption | omega, by first | assumption | omega, O⟩

set_option maxRecDepth 100000 in
set_option maxHeartbeats 2000000 in
/-- spec.l92Updates -/
theorem l92Updates_ok (g : Nat) (A : Option Addr) (cn : Nat) (cc : Nat) (p : Int) (A1 : Option Addr) (n1 : Nat) (c1 : Nat) (es1 : List (Int)) (w0 : World) (hCode : Code w0 g A cn) (hp0 : 0 ≤ p) (hp : p ≤ 100000) (hA1 : Arr w0 encInt 1 A1 es1) (hn1 : (n1 : Int) = es1.length) (hb1 : (n1 : Int) ≤ 1048600) (hap : Apart A1 g) (O : Own w0 [g] [.cells g [.slice A cn cc, .int .i64 (p)] 64] w0) :
    Calls Tryd.prog 33 #[.pointer (some ⟨g, 0, none⟩), .slice A1 n1 c1] w0 fun e w => ∃ (b : Nat), ∃ (N : Nat), ∃ (C : Nat), ∃ (es : List (Int × Int × Int)), ∃ (q : Int), e = .returned (.slice (some ⟨b, 0, none⟩) N C) ∧ ((N : Int) = es.length) ∧ ((N : Int) ≤ 5) ∧ (p ≤ q) ∧ (q ≤ p + 40) ∧ Own w0 [g] [.cells g [.slice A cn cc, .int .i64 (q)] 64, .row 39 3 (.slice (some ⟨b, 0, none⟩) N C) N (es.flatMap encUp)] w := by
  refine enterO (n := 101) Tryd.func33 rfl rfl rfl O fun a w F O => ?_
  refine c_seq fun K1 hK1 => c_region (sp F (p_assign rfl) rfl rfl fun a F => c_nil (hK1 _ _ (?_)))
  try clear hK1 K1
  refine c_seq fun K2 hK2 => c_region (so F rfl (o_bslice (cs := []) F O rfl Tryd.underlying28 Tryd.sz_39 Tryd.zero_39 rfl rfl rfl fun b10 w O a F => ?_))
  have O : Own w0 [g] [.cells b10 [] 39, .cells g [.slice A cn cc, .int .i64 (p)] 64] w := O
  refine sp F (p_assign rfl) rfl rfl fun a F => c_nil (hK2 _ _ (?_))
  try clear hK2 K2
  refine c_seq fun K3 hK3 => c_seq fun K4 hK4 => c_region (sp F (p_assign rfl) rfl rfl fun a F => c_nil (hK4 _ _ (?_)))
  try clear hK4 K4
  refine wp_block (?_)
  refine c_loop (fun mm a w => ∃ (k : Int), ∃ (q : Int), ∃ (P : Option Addr), ∃ (N : Nat), ∃ (C : Nat), ∃ (L1 : List (Int × Int × Int)), mm = ((4 : Int) - k).toNat ∧ Has 101 [(0, .pointer (some ⟨g, 0, none⟩)), (1, .slice A1 n1 c1), (4, .slice none 0 0), (6, .int .i64 (k)), (5, .slice P N C)] a ∧ Own w0 [g] [.cells g [.slice A cn cc, .int .i64 (q)] 64, .row 39 3 (.slice P N C) N (L1.flatMap encUp)] w ∧ (0 ≤ k) ∧ (k ≤ 4) ∧ ((N : Int) = L1.length) ∧ ((N : Int) ≤ k) ∧ (p ≤ q) ∧ (q ≤ p + 5 * k)) ?_ ?_
  · have F : Has 101 [(0, .pointer (some ⟨g, 0, none⟩)), (1, .slice A1 n1 c1), (4, .slice none 0 0), (6, .int .i64 (0)), (5, .slice (some ⟨b10, 0, none⟩) 0 0)] a := F.pick ⟨rfl, rfl, rfl, rfl, rfl, trivial⟩
    have O := O.asRow 0 (q := 0) (sz := 3) rfl rfl (by unfold maxLen; omega)
    have O : Own w0 [g] [.row 39 3 (.slice (some ⟨b10, 0, none⟩) 0 0) 0 ([]), .cells g [.slice A cn cc, .int .i64 (p)] 64] w := O
    have O := O.setR 0 rfl (show Res.row 39 3 (.slice (some ⟨b10, 0, none⟩) 0 0) 0 ([]) = .row 39 3 (.slice (some ⟨b10, 0, none⟩) 0 0) 0 (([]).flatMap encUp) from by rfl)
    have O : Own w0 [g] [.row 39 3 (.slice (some ⟨b10, 0, none⟩) 0 0) 0 (([]).flatMap encUp), .cells g [.slice A cn cc, .int .i64 (p)] 64] w := O
    have O : Own w0 [g] [.cells g [.slice A cn cc, .int .i64 (p)] 64, .row 39 3 (.slice (some ⟨b10, 0, none⟩) 0 0) 0 (([]).flatMap encUp)] w := ((O.pull 0 rfl).pull 1 rfl)
    exact ⟨((4 : Int) - 0).toNat, 0, p, (some ⟨b10, 0, none⟩), 0, 0, ([]), rfl, F, O, by first | assumption | omega, by first | assumption | omega, by rfl, by first | assumption | omega, by first | assumption | omega, by first | assumption | omega⟩
  · rintro mm a w ⟨k, q, P, N, C, L1, rfl, F, O, hi0a, hi0b, hi0c, hi0d, hi0e, hi0f⟩
    refine c_seq fun K5 hK5 => c_seq fun K6 hK6 => c_region (sp F (p_move rfl) rfl rfl fun a F => sp F (p_lss rfl rfl) rfl rfl fun a F => c_nil (hK6 _ _ (?_)))
    try clear hK6 K6
    by_cases c12 : k < 4
    · have F := F.setB (d := 12) rfl (decide_eq_true c12)
      refine c_ift F rfl (wp_skip (hK5 _ _ (?_)))
      try clear hK5 K5
      refine c_seq fun K7 hK7 => wp_block (c_seq fun K8 hK8 => c_region (sp F (p_move rfl) rfl rfl fun a F => so F rfl (o_call (vs := #[.pointer (some ⟨g, 0, none⟩), .int .i64 (3)]) F Tryd.en_42 rfl rfl ((pick_ok g A cn cc q 3 64 w (hCode.keep O (by simp)) (by omega) (by omega) (by omega) (by omega) (O.hand1 rfl)).mono ?_))))
      rintro e w ⟨r16, rfl, h16a, h16b, K⟩
      refine ⟨_, rfl, fun a F => ?_⟩
      have O : Own w0 [g] [.cells g [.slice A cn cc, .int .i64 (q + 1)] 64, .row 39 3 (.slice P N C) N (L1.flatMap encUp)] w := O.call1 K rfl
      clear K
      have O : Own w0 [g] [.cells g [.slice A cn cc, .int .i64 (q + 1)] 64, .row 39 3 (.slice P N C) N (L1.flatMap encUp)] w := O
      refine sp F (p_eql rfl rfl) rfl rfl fun a F => c_nil (hK8 _ _ (?_))
      try clear hK8 K8
      by_cases c17 : r16 = 0
      · have F := F.setB (d := 17) rfl (decide_eq_true c17)
        refine c_ift F rfl (c_seq fun K9 hK9 => c_region (sp F (p_move rfl) rfl rfl fun a F => sp F (p_move rfl) rfl rfl fun a F => so F rfl (o_call (vs := #[.pointer (some ⟨g, 0, none⟩), .int .i64 (4)]) F Tryd.en_42 rfl rfl ((pick_ok g A cn cc (q + 1) 4 64 w (hCode.keep O (by simp)) (by omega) (by omega) (by omega) (by omega) (O.hand1 rfl)).mono ?_))))
        rintro e w ⟨r20, rfl, h20a, h20b, K⟩
        refine ⟨_, rfl, fun a F => ?_⟩
        have O : Own w0 [g] [.cells g [.slice A cn cc, .int .i64 ((q + 1) + 1)] 64, .row 39 3 (.slice P N C) N (L1.flatMap encUp)] w := O.call1 K rfl
        clear K
        have O : Own w0 [g] [.cells g [.slice A cn cc, .int .i64 ((q + 1) + 1)] 64, .row 39 3 (.slice P N C) N (L1.flatMap encUp)] w := O
        refine sp F (p_sub rfl rfl (by omega) (by omega)) rfl rfl fun a F => sp F (p_move rfl) rfl rfl fun a F => so F rfl (o_call (vs := #[.pointer (some ⟨g, 0, none⟩), .int .i64 (6)]) F Tryd.en_42 rfl rfl ((pick_ok g A cn cc ((q + 1) + 1) 6 64 w (hCode.keep O (by simp)) (by omega) (by omega) (by omega) (by omega) (O.hand1 rfl)).mono ?_))
        rintro e w ⟨r23, rfl, h23a, h23b, K⟩
        refine ⟨_, rfl, fun a F => ?_⟩
        have O : Own w0 [g] [.cells g [.slice A cn cc, .int .i64 (((q + 1) + 1) + 1)] 64, .row 39 3 (.slice P N C) N (L1.flatMap encUp)] w := O.call1 K rfl
        clear K
        have O : Own w0 [g] [.cells g [.slice A cn cc, .int .i64 (((q + 1) + 1) + 1)] 64, .row 39 3 (.slice P N C) N (L1.flatMap encUp)] w := O
        refine sp F (p_sub rfl rfl (by omega) (by omega)) rfl rfl fun a F => sp F (p_build (cs := [.int .i64 (k), .int .i64 (r20 - 1), .int .i64 (r23 - 1)]) rfl Tryd.places_39 rfl) rfl rfl fun a F => so F rfl (o_alloc F O Tryd.zero_39 rfl fun b7 w O a F => ?_)
        have O : Own w0 [g] [.cells b7 [.int .i64 (0), .int .i64 (0), .int .i64 (0)] 39, .cells g [.slice A cn cc, .int .i64 (((q + 1) + 1) + 1)] 64, .row 39 3 (.slice P N C) N (L1.flatMap encUp)] w := O
        refine so F rfl (o_storeA (vs := [.int .i64 (k), .int .i64 (r20 - 1), .int .i64 (r23 - 1)]) F O rfl rfl Tryd.sz_39 (by simp [Value.oneCell']) 0 rfl rfl fun w O => ?_)
        have O : Own w0 [g] [.cells b7 [.int .i64 (k), .int .i64 (r20 - 1), .int .i64 (r23 - 1)] 39, .cells g [.slice A cn cc, .int .i64 (((q + 1) + 1) + 1)] 64, .row 39 3 (.slice P N C) N (L1.flatMap encUp)] w := O
        refine c_nil (hK9 _ _ (?_))
        try clear hK9 K9
        refine c_mid (fun a w => ∃ (x1 : Int), ∃ (q3 : Int), Has 101 [(0, .pointer (some ⟨g, 0, none⟩)), (1, .slice A1 n1 c1), (4, .slice none 0 0), (6, .int .i64 (k)), (5, .slice P N C), (12, .bool true), (17, .bool true), (7, .pointer (some ⟨b7, 0, none⟩))] a ∧ Own w0 [g] [.cells b7 [.int .i64 (k), .int .i64 (x1), .int .i64 (r23 - 1)] 39, .cells g [.slice A cn cc, .int .i64 (q3)] 64, .row 39 3 (.slice P N C) N (L1.flatMap encUp)] w ∧ (p ≤ q3) ∧ (q3 ≤ p + 5 * k + 5)) ?_ ?_
        · refine c_seq fun K10 hK10 => c_region (sp F (p_move rfl) rfl rfl fun a F => sp F (p_move rfl) rfl rfl fun a F => sp F (p_len_l rfl Tryd.underlying22) rfl rfl fun a F => sp F (p_lss rfl rfl) rfl rfl fun a F => sp F (p_move rfl) rfl rfl fun a F => ?_)
          by_cases c30 : k < (n1 : Int)
          · have F := F.setB (d := 29) rfl (decide_eq_true c30)
            have F := F.setB (d := 30) rfl (decide_eq_true c30)
            refine sp F (p_move rfl) rfl rfl fun a F => ?_
            have O := O.pull 1 rfl
            have O : Own w0 [g] [.cells g [.slice A cn cc, .int .i64 (((q + 1) + 1) + 1)] 64, .cells b7 [.int .i64 (k), .int .i64 (r20 - 1), .int .i64 (r23 - 1)] 39, .row 39 3 (.slice P N C) N (L1.flatMap encUp)] w := O
            refine so F rfl (o_call (vs := #[.pointer (some ⟨g, 0, none⟩), .int .i64 (6)]) F Tryd.en_42 rfl rfl ((pick_ok g A cn cc (((q + 1) + 1) + 1) 6 64 w (hCode.keep O (by simp)) (by omega) (by omega) (by omega) (by omega) (O.hand1 rfl)).mono ?_))
            rintro e w ⟨r32, rfl, h32a, h32b, K⟩
            refine ⟨_, rfl, fun a F => ?_⟩
            have O : Own w0 [g] [.cells g [.slice A cn cc, .int .i64 ((((q + 1) + 1) + 1) + 1)] 64, .cells b7 [.int .i64 (k), .int .i64 (r20 - 1), .int .i64 (r23 - 1)] 39, .row 39 3 (.slice P N C) N (L1.flatMap encUp)] w := O.call1 K rfl
            clear K
            have O : Own w0 [g] [.cells g [.slice A cn cc, .int .i64 ((((q + 1) + 1) + 1) + 1)] 64, .cells b7 [.int .i64 (k), .int .i64 (r20 - 1), .int .i64 (r23 - 1)] 39, .row 39 3 (.slice P N C) N (L1.flatMap encUp)] w := O
            refine sp F (p_gtr rfl rfl) rfl rfl fun a F => sp F (p_pick (t := true) rfl rfl) rfl rfl fun a F => c_nil (hK10 _ _ (?_))
            try clear hK10 K10
            by_cases c34 : 0 < r32
            · have F := F.setB (d := 33) rfl (decide_eq_true c34)
              have F := F.setB (d := 34) rfl (decide_eq_true c34)
              refine c_ift F rfl (c_region (sp F (p_move rfl) rfl rfl fun a F => sp F (p_move rfl) rfl rfl fun a F => ?_))
              obtain ⟨b37, o37, hp37, hb37, hc37⟩ := Arr.out hA1 (by omega)
              have hx37 := hap _ _ hp37
              have hap37 := hap; rw [hp37] at hap37
              have hA37 := hA1; rw [hp37] at hA37 F
              obtain ⟨e37, he37⟩ := get_some (l := es1) (i := k) (by omega) (by first | omega | (simp; omega))
              refine sp F (p_iaddr rfl rfl Tryd.underlying22 Tryd.sz_3 (by omega) (by omega)) rfl rfl fun a F => sp F (p_load rfl Tryd.agg_3 (fun _ h => (ld1 (((O.old hb37 (by simpa using hx37)).trans (hc37 _ _ he37 0 _ rfl))) h))) rfl rfl fun a F => sp F (p_faddr rfl Tryd.foff_39_1) rfl rfl fun a F => so F rfl (o_store F O rfl rfl Tryd.sz_3 rfl rfl 1 rfl rfl fun w O => ?_)
              have O : Own w0 [g] [.cells g [.slice A cn cc, .int .i64 ((((q + 1) + 1) + 1) + 1)] 64, .cells b7 [.int .i64 (k), .int .i64 (e37), .int .i64 (r23 - 1)] 39, .row 39 3 (.slice P N C) N (L1.flatMap encUp)] w := O
              refine c_nil (?_)
              try rw [← hp37] at F
              try rw [← hp37] at O
              have F : Has 101 [(0, .pointer (some ⟨g, 0, none⟩)), (1, .slice A1 n1 c1), (4, .slice none 0 0), (6, .int .i64 (k)), (5, .slice P N C), (12, .bool true), (17, .bool true), (7, .pointer (some ⟨b7, 0, none⟩))] a := F.pick ⟨rfl, rfl, rfl, rfl, rfl, rfl, rfl, rfl, trivial⟩
              have O : Own w0 [g] [.cells b7 [.int .i64 (k), .int .i64 (e37), .int .i64 (r23 - 1)] 39, .cells g [.slice A cn cc, .int .i64 ((((q + 1) + 1) + 1) + 1)] 64, .row 39 3 (.slice P N C) N (L1.flatMap encUp)] w := (((O.pull 2 rfl).pull 1 rfl).pull 2 rfl)
              exact ⟨e37, ((((q + 1) + 1) + 1) + 1), F, O, by first | assumption | omega, by first | assumption | omega⟩
            · have F := F.setB (d := 33) rfl (decide_eq_false c34)
              have F := F.setB (d := 34) rfl (decide_eq_false c34)
              refine c_iff F rfl (wp_skip (?_))
              have F : Has 101 [(0, .pointer (some ⟨g, 0, none⟩)), (1, .slice A1 n1 c1), (4, .slice none 0 0), (6, .int .i64 (k)), (5, .slice P N C), (12, .bool true), (17, .bool true), (7, .pointer (some ⟨b7, 0, none⟩))] a := F.pick ⟨rfl, rfl, rfl, rfl, rfl, rfl, rfl, rfl, trivial⟩
              have O : Own w0 [g] [.cells b7 [.int .i64 (k), .int .i64 (r20 - 1), .int .i64 (r23 - 1)] 39, .cells g [.slice A cn cc, .int .i64 ((((q + 1) + 1) + 1) + 1)] 64, .row 39 3 (.slice P N C) N (L1.flatMap encUp)] w := (((O.pull 2 rfl).pull 1 rfl).pull 2 rfl)
              exact ⟨(r20 - 1), ((((q + 1) + 1) + 1) + 1), F, O, by first | assumption | omega, by first | assumption | omega⟩
          · have F := F.setB (d := 29) rfl (decide_eq_false c30)
            have F := F.setB (d := 30) rfl (decide_eq_false c30)
            refine ss F rfl rfl fun a F => ss F rfl rfl fun a F => ss F rfl rfl fun a F => sp F (p_pick (t := false) rfl rfl) rfl rfl fun a F => c_nil (hK10 _ _ (?_))
            try clear hK10 K10
            refine c_iff F rfl (wp_skip (?_))
            have F : Has 101 [(0, .pointer (some ⟨g, 0, none⟩)), (1, .slice A1 n1 c1), (4, .slice none 0 0), (6, .int .i64 (k)), (5, .slice P N C), (12, .bool true), (17, .bool true), (7, .pointer (some ⟨b7, 0, none⟩))] a := F.pick ⟨rfl, rfl, rfl, rfl, rfl, rfl, rfl, rfl, trivial⟩
            exact ⟨(r20 - 1), (((q + 1) + 1) + 1), F, O, by first | assumption | omega, by first | assumption | omega⟩
        · rintro a w ⟨x1, q3, F, O, hm34a, hm34b⟩
          refine c_mid (fun a w => ∃ (x2 : Int), Has 101 [(0, .pointer (some ⟨g, 0, none⟩)), (1, .slice A1 n1 c1), (4, .slice none 0 0), (6, .int .i64 (k)), (5, .slice P N C), (12, .bool true), (17, .bool true), (7, .pointer (some ⟨b7, 0, none⟩))] a ∧ Own w0 [g] [.cells b7 [.int .i64 (k), .int .i64 (x1), .int .i64 (x2)] 39, .cells g [.slice A cn cc, .int .i64 (q3)] 64, .row 39 3 (.slice P N C) N (L1.flatMap encUp)] w) ?_ ?_
          · refine c_seq fun K10 hK10 => c_region (sp F (p_faddr rfl Tryd.foff_39_2) rfl rfl fun a F => sp F (p_load rfl Tryd.agg_3 (fun _ h => (ld1 (O.load 0 rfl rfl) h))) rfl rfl fun a F => sp F (p_faddr rfl Tryd.foff_39_1) rfl rfl fun a F => sp F (p_load rfl Tryd.agg_3 (fun _ h => (ld1 (O.load 0 rfl rfl) h))) rfl rfl fun a F => sp F (p_eql rfl rfl) rfl rfl fun a F => c_nil (hK10 _ _ (?_)))
            try clear hK10 K10
            by_cases c44 : (r23 - 1) = x1
            · have F := F.setB (d := 44) rfl (decide_eq_true c44)
              refine c_ift F rfl (c_region (sp F (p_move rfl) rfl rfl fun a F => sp F (p_add rfl rfl (by omega) (by omega)) rfl rfl fun a F => sp F (p_faddr rfl Tryd.foff_39_2) rfl rfl fun a F => so F rfl (o_store F O rfl rfl Tryd.sz_3 rfl rfl 0 rfl rfl fun w O => ?_)))
              have O : Own w0 [g] [.cells b7 [.int .i64 (k), .int .i64 (x1), .int .i64 (7 + k)] 39, .cells g [.slice A cn cc, .int .i64 (q3)] 64, .row 39 3 (.slice P N C) N (L1.flatMap encUp)] w := O
              refine c_nil (?_)
              have F : Has 101 [(0, .pointer (some ⟨g, 0, none⟩)), (1, .slice A1 n1 c1), (4, .slice none 0 0), (6, .int .i64 (k)), (5, .slice P N C), (12, .bool true), (17, .bool true), (7, .pointer (some ⟨b7, 0, none⟩))] a := F.pick ⟨rfl, rfl, rfl, rfl, rfl, rfl, rfl, rfl, trivial⟩
              exact ⟨(7 + k), F, O⟩
            · have F := F.setB (d := 44) rfl (decide_eq_false c44)
              refine c_iff F rfl (wp_skip (?_))
              have F : Has 101 [(0, .pointer (some ⟨g, 0, none⟩)), (1, .slice A1 n1 c1), (4, .slice none 0 0), (6, .int .i64 (k)), (5, .slice P N C), (12, .bool true), (17, .bool true), (7, .pointer (some ⟨b7, 0, none⟩))] a := F.pick ⟨rfl, rfl, rfl, rfl, rfl, rfl, rfl, rfl, trivial⟩
              exact ⟨(r23 - 1), F, O⟩
          · rintro a w ⟨x2, F, O⟩
            refine c_region (sp F (p_move rfl) rfl rfl fun a F => sp F (p_loadC (cs := [.int .i64 (k), .int .i64 (x1), .int .i64 (x2)]) rfl Tryd.agg_39 Tryd.sz_39 (fun _ h => (CA.cons (ld1 (O.load 0 rfl rfl) h) (CA.cons (ld1 (O.load 0 rfl rfl) h) (CA.cons (ld1 (O.load 0 rfl rfl) h) CA.nil))))) rfl rfl fun a F => so F rfl (o_bslice (cs := [.int .i64 (k), .int .i64 (x1), .int .i64 (x2)]) F O rfl Tryd.underlying28 Tryd.sz_39 Tryd.zero_39 rfl rfl rfl fun b50 w O a F => ?_))
            have O : Own w0 [g] [.cells b50 [.int .i64 (k), .int .i64 (x1), .int .i64 (x2)] 39, .cells b7 [.int .i64 (k), .int .i64 (x1), .int .i64 (x2)] 39, .cells g [.slice A cn cc, .int .i64 (q3)] 64, .row 39 3 (.slice P N C) N (L1.flatMap encUp)] w := O
            refine so F rfl (o_append F O rfl rfl Tryd.underlying28 Tryd.elem_39 (by decide) 3 0 rfl rfl rfl rfl (by unfold maxLen; omega) (by omega) rfl fun p51 k51 w O a F => ?_)
            have O : Own w0 [g] [.cells b50 [.int .i64 (k), .int .i64 (x1), .int .i64 (x2)] 39, .cells b7 [.int .i64 (k), .int .i64 (x1), .int .i64 (x2)] 39, .cells g [.slice A cn cc, .int .i64 (q3)] 64, .row 39 3 (.slice p51 (N + 1) k51) (N + 1) ((L1.flatMap encUp) ++ [.int .i64 (k), .int .i64 (x1), .int .i64 (x2)])] w := O
            have O := O.setR 3 rfl (show Res.row 39 3 (.slice p51 (N + 1) k51) (N + 1) ((L1.flatMap encUp) ++ [.int .i64 (k), .int .i64 (x1), .int .i64 (x2)]) = .row 39 3 (.slice p51 (N + 1) k51) (N + 1) ((L1 ++ [(k, x1, x2)]).flatMap encUp) from by simp [encUp])
            have O : Own w0 [g] [.cells b50 [.int .i64 (k), .int .i64 (x1), .int .i64 (x2)] 39, .cells b7 [.int .i64 (k), .int .i64 (x1), .int .i64 (x2)] 39, .cells g [.slice A cn cc, .int .i64 (q3)] 64, .row 39 3 (.slice p51 (N + 1) k51) (N + 1) ((L1 ++ [(k, x1, x2)]).flatMap encUp)] w := O
            refine sp F (p_assign rfl) rfl rfl fun a F => c_nil (hK7 _ _ (?_))
            try clear hK7 K7
            refine c_region (sp F (p_move rfl) rfl rfl fun a F => sp F (p_add rfl rfl (by omega) (by omega)) rfl rfl fun a F => sp F (p_assign rfl) rfl rfl fun a F => c_nil (?_))
            have F : Has 101 [(0, .pointer (some ⟨g, 0, none⟩)), (1, .slice A1 n1 c1), (4, .slice none 0 0), (6, .int .i64 (k + 1)), (5, .slice p51 (N + 1) k51)] a := F.pick ⟨rfl, rfl, rfl, rfl, rfl, trivial⟩
            have O : Own w0 [g] [.cells g [.slice A cn cc, .int .i64 (q3)] 64, .row 39 3 (.slice p51 (N + 1) k51) (N + 1) ((L1 ++ [(k, x1, x2)]).flatMap encUp)] w := (((O.pull 3 rfl).pull 3 rfl).take 2)
            exact ⟨((4 : Int) - (k + 1)).toNat, by omega, (k + 1), q3, p51, (N + 1), k51, (L1 ++ [(k, x1, x2)]), rfl, F, O, by first | assumption | omega, by first | assumption | omega, by first | omega | (simp; done) | (simp; omega) | (simp at *; omega), by first | assumption | omega, by first | assumption | omega, by first | assumption | omega⟩
      · have F := F.setB (d := 17) rfl (decide_eq_false c17)
        refine c_iff F rfl (wp_skip (hK7 _ _ (?_)))
        try clear hK7 K7
        refine c_region (sp F (p_move rfl) rfl rfl fun a F => sp F (p_add rfl rfl (by omega) (by omega)) rfl rfl fun a F => sp F (p_assign rfl) rfl rfl fun a F => c_nil (?_))
        have F : Has 101 [(0, .pointer (some ⟨g, 0, none⟩)), (1, .slice A1 n1 c1), (4, .slice none 0 0), (6, .int .i64 (k + 1)), (5, .slice P N C)] a := F.pick ⟨rfl, rfl, rfl, rfl, rfl, trivial⟩
        exact ⟨((4 : Int) - (k + 1)).toNat, by omega, (k + 1), (q + 1), P, N, C, L1, rfl, F, O, by first | assumption | omega, by first | assumption | omega, by first | omega | (simp; done) | (simp; omega) | (simp at *; omega), by first | assumption | omega, by first | assumption | omega, by first | assumption | omega⟩
    · have F := F.setB (d := 12) rfl (decide_eq_false c12)
      refine c_iff F rfl (wp_exit (e_then (e_then (e_here (hK3 _ _ (?_))))))
      try clear hK3 K3
      refine c_mid (fun a w => ∃ (q2 : Int), ∃ (P2 : Option Addr), ∃ (N2 : Nat), ∃ (C2 : Nat), ∃ (L3 : List (Int × Int × Int)), Has 101 [(0, .pointer (some ⟨g, 0, none⟩)), (1, .slice A1 n1 c1), (4, .slice none 0 0), (6, .int .i64 (k)), (12, .bool false), (5, .slice P2 N2 C2)] a ∧ Own w0 [g] [.cells g [.slice A cn cc, .int .i64 (q2)] 64, .row 39 3 (.slice P2 N2 C2) N2 (L3.flatMap encUp)] w ∧ ((N2 : Int) = L3.length) ∧ (1 ≤ (N2 : Int)) ∧ ((N2 : Int) ≤ 5) ∧ (p ≤ q2) ∧ (q2 ≤ p + 30)) ?_ ?_
      · refine c_seq fun K7 hK7 => c_region (sp F (p_move rfl) rfl rfl fun a F => sp F (p_len_l rfl Tryd.underlying28) rfl rfl fun a F => sp F (p_eql rfl rfl) rfl rfl fun a F => c_nil (hK7 _ _ (?_)))
        try clear hK7 K7
        by_cases c54 : (N : Int) = 0
        · have F := F.setB (d := 54) rfl (decide_eq_true c54)
          refine c_ift F rfl (c_seq fun K8 hK8 => c_region (sp F (p_move rfl) rfl rfl fun a F => so F rfl (o_call (vs := #[.pointer (some ⟨g, 0, none⟩), .int .i64 (4)]) F Tryd.en_42 rfl rfl ((pick_ok g A cn cc q 4 64 w (hCode.keep O (by simp)) (by omega) (by omega) (by omega) (by omega) (O.hand1 rfl)).mono ?_))))
          rintro e w ⟨r56, rfl, h56a, h56b, K⟩
          refine ⟨_, rfl, fun a F => ?_⟩
          have O : Own w0 [g] [.cells g [.slice A cn cc, .int .i64 (q + 1)] 64, .row 39 3 (.slice P N C) N (L1.flatMap encUp)] w := O.call1 K rfl
          clear K
          have O : Own w0 [g] [.cells g [.slice A cn cc, .int .i64 (q + 1)] 64, .row 39 3 (.slice P N C) N (L1.flatMap encUp)] w := O
          refine sp F (p_assign rfl) rfl rfl fun a F => c_nil (hK8 _ _ (?_))
          try clear hK8 K8
          refine c_seq fun K9 hK9 => c_region (sp F (p_assign rfl) rfl rfl fun a F => c_nil (hK9 _ _ (?_)))
          try clear hK9 K9
          refine c_mid (fun a w => ∃ (x3 : Int), Has 101 [(0, .pointer (some ⟨g, 0, none⟩)), (1, .slice A1 n1 c1), (4, .slice none 0 0), (6, .int .i64 (k)), (5, .slice P N C), (12, .bool false), (54, .bool true), (8, .int .i64 (r56)), (9, .int .i64 (x3))] a ∧ Own w0 [g] [.cells g [.slice A cn cc, .int .i64 (q + 1)] 64, .row 39 3 (.slice P N C) N (L1.flatMap encUp)] w) ?_ ?_
          · refine c_seq fun K10 hK10 => c_region (sp F (p_move rfl) rfl rfl fun a F => sp F (p_move rfl) rfl rfl fun a F => sp F (p_len_l rfl Tryd.underlying22) rfl rfl fun a F => sp F (p_lss rfl rfl) rfl rfl fun a F => c_nil (hK10 _ _ (?_)))
            try clear hK10 K10
            by_cases c60 : r56 < (n1 : Int)
            · have F := F.setB (d := 60) rfl (decide_eq_true c60)
              refine c_ift F rfl (c_region (sp F (p_move rfl) rfl rfl fun a F => sp F (p_move rfl) rfl rfl fun a F => ?_))
              obtain ⟨b63, o63, hp63, hb63, hc63⟩ := Arr.out hA1 (by omega)
              have hx63 := hap _ _ hp63
              have hap63 := hap; rw [hp63] at hap63
              have hA63 := hA1; rw [hp63] at hA63 F
              obtain ⟨e63, he63⟩ := get_some (l := es1) (i := r56) (by omega) (by first | omega | (simp; omega))
              refine sp F (p_iaddr rfl rfl Tryd.underlying22 Tryd.sz_3 (by omega) (by omega)) rfl rfl fun a F => sp F (p_load rfl Tryd.agg_3 (fun _ h => (ld1 (((O.old hb63 (by simpa using hx63)).trans (hc63 _ _ he63 0 _ rfl))) h))) rfl rfl fun a F => sp F (p_assign rfl) rfl rfl fun a F => c_nil (?_)
              try rw [← hp63] at F
              try rw [← hp63] at O
              have F : Has 101 [(0, .pointer (some ⟨g, 0, none⟩)), (1, .slice A1 n1 c1), (4, .slice none 0 0), (6, .int .i64 (k)), (5, .slice P N C), (12, .bool false), (54, .bool true), (8, .int .i64 (r56)), (9, .int .i64 (e63))] a := F.pick ⟨rfl, rfl, rfl, rfl, rfl, rfl, rfl, rfl, rfl, trivial⟩
              exact ⟨e63, F, O⟩
            · have F := F.setB (d := 60) rfl (decide_eq_false c60)
              refine c_iff F rfl (wp_skip (?_))
              have F : Has 101 [(0, .pointer (some ⟨g, 0, none⟩)), (1, .slice A1 n1 c1), (4, .slice none 0 0), (6, .int .i64 (k)), (5, .slice P N C), (12, .bool false), (54, .bool true), (8, .int .i64 (r56)), (9, .int .i64 (-1))] a := F.pick ⟨rfl, rfl, rfl, rfl, rfl, rfl, rfl, rfl, rfl, trivial⟩
              exact ⟨(-1), F, O⟩
          · rintro a w ⟨x3, F, O⟩
            refine c_region (sp F (p_move rfl) rfl rfl fun a F => sp F (p_move rfl) rfl rfl fun a F => sp F (p_move rfl) rfl rfl fun a F => sp F (p_build (cs := [.int .i64 (r56), .int .i64 (x3), .int .i64 (9)]) rfl Tryd.places_39 rfl) rfl rfl fun a F => so F rfl (o_bslice (cs := [.int .i64 (r56), .int .i64 (x3), .int .i64 (9)]) F O rfl Tryd.underlying28 Tryd.sz_39 Tryd.zero_39 rfl rfl rfl fun b69 w O a F => ?_))
            have O : Own w0 [g] [.cells b69 [.int .i64 (r56), .int .i64 (x3), .int .i64 (9)] 39, .cells g [.slice A cn cc, .int .i64 (q + 1)] 64, .row 39 3 (.slice P N C) N (L1.flatMap encUp)] w := O
            refine so F rfl (o_append F O rfl rfl Tryd.underlying28 Tryd.elem_39 (by decide) 2 0 rfl rfl rfl rfl (by unfold maxLen; omega) (by omega) rfl fun p70 k70 w O a F => ?_)
            have O : Own w0 [g] [.cells b69 [.int .i64 (r56), .int .i64 (x3), .int .i64 (9)] 39, .cells g [.slice A cn cc, .int .i64 (q + 1)] 64, .row 39 3 (.slice p70 (N + 1) k70) (N + 1) ((L1.flatMap encUp) ++ [.int .i64 (r56), .int .i64 (x3), .int .i64 (9)])] w := O
            have O := O.setR 2 rfl (show Res.row 39 3 (.slice p70 (N + 1) k70) (N + 1) ((L1.flatMap encUp) ++ [.int .i64 (r56), .int .i64 (x3), .int .i64 (9)]) = .row 39 3 (.slice p70 (N + 1) k70) (N + 1) ((L1 ++ [(r56, x3, 9)]).flatMap encUp) from by simp [encUp])
            have O : Own w0 [g] [.cells b69 [.int .i64 (r56), .int .i64 (x3), .int .i64 (9)] 39, .cells g [.slice A cn cc, .int .i64 (q + 1)] 64, .row 39 3 (.slice p70 (N + 1) k70) (N + 1) ((L1 ++ [(r56, x3, 9)]).flatMap encUp)] w := O
            refine sp F (p_assign rfl) rfl rfl fun a F => c_nil (?_)
            have F : Has 101 [(0, .pointer (some ⟨g, 0, none⟩)), (1, .slice A1 n1 c1), (4, .slice none 0 0), (6, .int .i64 (k)), (12, .bool false), (5, .slice p70 (N + 1) k70)] a := F.pick ⟨rfl, rfl, rfl, rfl, rfl, rfl, trivial⟩
            have O : Own w0 [g] [.cells g [.slice A cn cc, .int .i64 (q + 1)] 64, .row 39 3 (.slice p70 (N + 1) k70) (N + 1) ((L1 ++ [(r56, x3, 9)]).flatMap encUp)] w := (((O.pull 2 rfl).pull 2 rfl).take 2)
            exact ⟨(q + 1), p70, (N + 1), k70, (L1 ++ [(r56, x3, 9)]), F, O, by first | omega | (simp; done) | (simp; omega) | (simp at *; omega), by first | assumption | omega, by first | assumption | omega, by first | assumption | omega, by first | assumption | omega⟩
        · have F := F.setB (d := 54) rfl (decide_eq_false c54)
          refine c_iff F rfl (wp_skip (?_))
          have F : Has 101 [(0, .pointer (some ⟨g, 0, none⟩)), (1, .slice A1 n1 c1), (4, .slice none 0 0), (6, .int .i64 (k)), (12, .bool false), (5, .slice P N C)] a := F.pick ⟨rfl, rfl, rfl, rfl, rfl, rfl, trivial⟩
          exact ⟨q, P, N, C, L1, F, O, by first | omega | (simp; done) | (simp; omega) | (simp at *; omega), by first | assumption | omega, by first | assumption | omega, by first | assumption | omega, by first | assumption | omega⟩
      · rintro a w ⟨q2, P2, N2, C2, L3, F, O, hm54a, hm54b, hm54c, hm54d, hm54e⟩
        refine c_seq fun K7 hK7 => c_seq fun K8 hK8 => ?_
        obtain ⟨b701, hp701⟩ := O.rowSome 1 rfl (by omega)
        rw [hp701] at O
        try rw [hp701] at F
        refine c_region (sp F (p_move rfl) rfl rfl fun a F => so F rfl (o_call (vs := #[.pointer (some ⟨g, 0, none⟩), .int .i64 (30)]) F Tryd.en_42 rfl rfl ((pick_ok g A cn cc q2 30 64 w (hCode.keep O (by simp)) (by omega) (by omega) (by omega) (by omega) (O.hand1 rfl)).mono ?_)))
        rintro e w ⟨r72, rfl, h72a, h72b, K⟩
        refine ⟨_, rfl, fun a F => ?_⟩
        have O : Own w0 [g] [.cells g [.slice A cn cc, .int .i64 (q2 + 1)] 64, .row 39 3 (.slice (some ⟨b701, 0, none⟩) N2 C2) N2 (L3.flatMap encUp)] w := O.call1 K rfl
        clear K
        have O : Own w0 [g] [.cells g [.slice A cn cc, .int .i64 (q2 + 1)] 64, .row 39 3 (.slice (some ⟨b701, 0, none⟩) N2 C2) N2 (L3.flatMap encUp)] w := O
        refine c_nil (hK8 _ _ (?_))
        try clear hK8 K8
        refine wp_block (c_seq fun K9 hK9 => c_region (sp F (p_eql rfl rfl) rfl rfl fun a F => sp F (p_assign rfl) rfl rfl fun a F => c_nil (hK9 _ _ (?_))))
        try clear hK9 K9
        by_cases c73 : r72 = 0
        · have F := F.setB (d := 74) rfl (decide_eq_true c73)
          have F := F.setB (d := 73) rfl (decide_eq_true c73)
          refine c_ift F rfl (c_region (sp F (p_move rfl) rfl rfl fun a F => sp F (p_move rfl) rfl rfl fun a F => sp F (p_move rfl) rfl rfl fun a F => sp F (p_len_l rfl Tryd.underlying28) rfl rfl fun a F => so F rfl (o_call (vs := #[.pointer (some ⟨g, 0, none⟩), .int .i64 ((N2 : Int))]) F Tryd.en_42 rfl rfl ((pick_ok g A cn cc (q2 + 1) (N2 : Int) 64 w (hCode.keep O (by simp)) (by omega) (by omega) (by omega) (by omega) (O.hand1 rfl)).mono ?_))))
          rintro e w ⟨r79, rfl, h79a, h79b, K⟩
          refine ⟨_, rfl, fun a F => ?_⟩
          have O : Own w0 [g] [.cells g [.slice A cn cc, .int .i64 ((q2 + 1) + 1)] 64, .row 39 3 (.slice (some ⟨b701, 0, none⟩) N2 C2) N2 (L3.flatMap encUp)] w := O.call1 K rfl
          clear K
          have O : Own w0 [g] [.cells g [.slice A cn cc, .int .i64 ((q2 + 1) + 1)] 64, .row 39 3 (.slice (some ⟨b701, 0, none⟩) N2 C2) N2 (L3.flatMap encUp)] w := O
          refine sp F (p_move rfl) rfl rfl fun a F => so F rfl (o_call (vs := #[.pointer (some ⟨g, 0, none⟩), .int .i64 (6)]) F Tryd.en_42 rfl rfl ((pick_ok g A cn cc ((q2 + 1) + 1) 6 64 w (hCode.keep O (by simp)) (by omega) (by omega) (by omega) (by omega) (O.hand1 rfl)).mono ?_))
          rintro e w ⟨r81, rfl, h81a, h81b, K⟩
          refine ⟨_, rfl, fun a F => ?_⟩
          have O : Own w0 [g] [.cells g [.slice A cn cc, .int .i64 (((q2 + 1) + 1) + 1)] 64, .row 39 3 (.slice (some ⟨b701, 0, none⟩) N2 C2) N2 (L3.flatMap encUp)] w := O.call1 K rfl
          clear K
          have O : Own w0 [g] [.cells g [.slice A cn cc, .int .i64 (((q2 + 1) + 1) + 1)] 64, .row 39 3 (.slice (some ⟨b701, 0, none⟩) N2 C2) N2 (L3.flatMap encUp)] w := O
          refine sp F (p_sub rfl rfl (by omega) (by omega)) rfl rfl fun a F => ?_
          obtain ⟨e83, he83⟩ := get_some (l := L3) (i := r79) (by omega) (by first | omega | (simp; omega))
          refine sp F (p_iaddr rfl rfl Tryd.underlying28 Tryd.sz_39 (by omega) (by omega)) rfl rfl fun a F => sp F (p_faddr rfl Tryd.foff_39_0) rfl rfl fun a F => so F rfl (o_storeRow F O rfl rfl Tryd.sz_3 rfl rfl 1 rfl (by rw [flat_len encUp_len]; first | omega | (simp; omega)) fun w O => ?_)
          have hst : (L3.flatMap encUp).set (0 + (r79 : Int).toNat * 3) (.int .i64 (r81 - 1)) = (L3.set (r79 : Int).toNat (r81 - 1, e83.2.1, e83.2.2)).flatMap encUp := flat_set encUp_len he83 (j := 0) rfl (by decide)
          have O := O.setR 1 rfl (congrArg (Res.row 39 3 (.slice (some ⟨b701, 0, none⟩) N2 C2) N2) hst)
          have O : Own w0 [g] [.cells g [.slice A cn cc, .int .i64 (((q2 + 1) + 1) + 1)] 64, .row 39 3 (.slice (some ⟨b701, 0, none⟩) N2 C2) N2 ((L3.set (r79 : Int).toNat (r81 - 1, e83.2.1, e83.2.2)).flatMap encUp)] w := O
          refine c_nil (hK7 _ _ (?_))
          try clear hK7 K7
          refine c_seq fun K10 hK10 => c_region (sp F (p_move rfl) rfl rfl fun a F => sp F (p_assign rfl) rfl rfl fun a F => c_nil (hK10 _ _ (?_)))
          try clear hK10 K10
          refine wp_ret (ret1 F rfl rfl (?_))
          have O := O.setR 0 rfl (show Res.cells g [.slice A cn cc, .int .i64 (((q2 + 1) + 1) + 1)] 64 = .cells g [.slice A cn cc, .int .i64 ((((q2 + 1) + 1) + 1))] 64 from by simp <;> omega)
          have O : Own w0 [g] [.cells g [.slice A cn cc, .int .i64 ((((q2 + 1) + 1) + 1))] 64, .row 39 3 (.slice (some ⟨b701, 0, none⟩) N2 C2) N2 ((L3.set (r79 : Int).toNat (r81 - 1, e83.2.1, e83.2.2)).flatMap encUp)] w := O
          exact ⟨b701, N2, C2, (L3.set (r79 : Int).toNat (r81 - 1, e83.2.1, e83.2.2)), (((q2 + 1) + 1) + 1), rfl, by first | omega | (simp; done) | (simp; omega) | (simp at *; omega), by first | omega | (simp; done) | (simp; omega) | (simp at *; omega), by first | assumption | omega, by first | assumption | omega, O⟩
        · have F := F.setB (d := 74) rfl (decide_eq_false c73)
          have F := F.setB (d := 73) rfl (decide_eq_false c73)
          refine c_iff F rfl (c_seq fun K10 hK10 => c_region (sp F (p_eql rfl rfl) rfl rfl fun a F => sp F (p_assign rfl) rfl rfl fun a F => c_nil (hK10 _ _ (?_))))
          try clear hK10 K10
          by_cases c85 : r72 = 1
          · have F := F.setB (d := 86) rfl (decide_eq_true c85)
            have F := F.setB (d := 85) rfl (decide_eq_true c85)
            refine c_ift F rfl (c_region (sp F (p_move rfl) rfl rfl fun a F => sp F (p_move rfl) rfl rfl fun a F => sp F (p_move rfl) rfl rfl fun a F => sp F (p_len_l rfl Tryd.underlying28) rfl rfl fun a F => so F rfl (o_call (vs := #[.pointer (some ⟨g, 0, none⟩), .int .i64 ((N2 : Int))]) F Tryd.en_42 rfl rfl ((pick_ok g A cn cc (q2 + 1) (N2 : Int) 64 w (hCode.keep O (by simp)) (by omega) (by omega) (by omega) (by omega) (O.hand1 rfl)).mono ?_))))
            rintro e w ⟨r91, rfl, h91a, h91b, K⟩
            refine ⟨_, rfl, fun a F => ?_⟩
            have O : Own w0 [g] [.cells g [.slice A cn cc, .int .i64 ((q2 + 1) + 1)] 64, .row 39 3 (.slice (some ⟨b701, 0, none⟩) N2 C2) N2 (L3.flatMap encUp)] w := O.call1 K rfl
            clear K
            have O : Own w0 [g] [.cells g [.slice A cn cc, .int .i64 ((q2 + 1) + 1)] 64, .row 39 3 (.slice (some ⟨b701, 0, none⟩) N2 C2) N2 (L3.flatMap encUp)] w := O
            refine sp F (p_move rfl) rfl rfl fun a F => so F rfl (o_call (vs := #[.pointer (some ⟨g, 0, none⟩)]) F Tryd.en_43 rfl rfl ((l92Value_ok g A cn cc ((q2 + 1) + 1) w (hCode.keep O (by simp)) (by omega) (by omega) (O.hand1 rfl)).mono ?_))
            rintro e w ⟨v93, q93, rfl, h93a, h93b, h93c, h93d, K⟩
            refine ⟨_, rfl, fun a F => ?_⟩
            have O : Own w0 [g] [.cells g [.slice A cn cc, .int .i64 (q93)] 64, .row 39 3 (.slice (some ⟨b701, 0, none⟩) N2 C2) N2 (L3.flatMap encUp)] w := O.call1 K rfl
            clear K
            have O : Own w0 [g] [.cells g [.slice A cn cc, .int .i64 (q93)] 64, .row 39 3 (.slice (some ⟨b701, 0, none⟩) N2 C2) N2 (L3.flatMap encUp)] w := O
            obtain ⟨e94, he94⟩ := get_some (l := L3) (i := r91) (by omega) (by first | omega | (simp; omega))
            refine sp F (p_iaddr rfl rfl Tryd.underlying28 Tryd.sz_39 (by omega) (by omega)) rfl rfl fun a F => sp F (p_faddr rfl Tryd.foff_39_2) rfl rfl fun a F => so F rfl (o_storeRow F O rfl rfl Tryd.sz_3 rfl rfl 1 rfl (by rw [flat_len encUp_len]; first | omega | (simp; omega)) fun w O => ?_)
            have hst : (L3.flatMap encUp).set (0 + (r91 : Int).toNat * 3 + 2) (.int .i64 (v93)) = (L3.set (r91 : Int).toNat (e94.1, e94.2.1, v93)).flatMap encUp := flat_set encUp_len he94 (j := 2) rfl (by decide)
            have O := O.setR 1 rfl (congrArg (Res.row 39 3 (.slice (some ⟨b701, 0, none⟩) N2 C2) N2) hst)
            have O : Own w0 [g] [.cells g [.slice A cn cc, .int .i64 (q93)] 64, .row 39 3 (.slice (some ⟨b701, 0, none⟩) N2 C2) N2 ((L3.set (r91 : Int).toNat (e94.1, e94.2.1, v93)).flatMap encUp)] w := O
            refine c_nil (hK7 _ _ (?_))
            try clear hK7 K7
            refine c_seq fun K11 hK11 => c_region (sp F (p_move rfl) rfl rfl fun a F => sp F (p_assign rfl) rfl rfl fun a F => c_nil (hK11 _ _ (?_)))
            try clear hK11 K11
            refine wp_ret (ret1 F rfl rfl (?_))
            exact ⟨b701, N2, C2, (L3.set (r91 : Int).toNat (e94.1, e94.2.1, v93)), q93, rfl, by first | omega | (simp; done) | (simp; omega) | (simp at *; omega), by first | omega | (simp; done) | (simp; omega) | (simp at *; omega), by first | assumption | omega, by first | assumption | omega, O⟩
          · have F := F.setB (d := 86) rfl (decide_eq_false c85)
            have F := F.setB (d := 85) rfl (decide_eq_false c85)
            refine c_iff F rfl (c_seq fun K11 hK11 => c_region (sp F (p_eql rfl rfl) rfl rfl fun a F => sp F (p_assign rfl) rfl rfl fun a F => c_nil (hK11 _ _ (?_))))
            try clear hK11 K11
            by_cases c96 : r72 = 2
            · have F := F.setB (d := 97) rfl (decide_eq_true c96)
              have F := F.setB (d := 96) rfl (decide_eq_true c96)
              refine c_ift F rfl (c_region (sp F (p_move rfl) rfl rfl fun a F => ?_))
              have hcap99 := O.rowCap 1 rfl
              have O := O.cutRow 1 rfl (by omega) (flat_take encUp_len L3 ((0 : Int).toNat))
              have O : Own w0 [g] [.cells g [.slice A cn cc, .int .i64 (q2 + 1)] 64, .row 39 3 (.slice (some ⟨b701, 0, none⟩) ((0 : Int).toNat) C2) ((0 : Int).toNat) ((L3.take ((0 : Int).toNat)).flatMap encUp)] w := O
              refine sp F (p_slto rfl rfl Tryd.underlying28 Tryd.sz_39 (by omega) (by omega)) rfl rfl fun a F => sp F (p_assign rfl) rfl rfl fun a F => c_nil (hK7 _ _ (?_))
              try clear hK7 K7
              refine c_seq fun K12 hK12 => c_region (sp F (p_move rfl) rfl rfl fun a F => sp F (p_assign rfl) rfl rfl fun a F => c_nil (hK12 _ _ (?_)))
              try clear hK12 K12
              refine wp_ret (ret1 F rfl rfl (?_))
              have O := O.setR 0 rfl (show Res.cells g [.slice A cn cc, .int .i64 (q2 + 1)] 64 = .cells g [.slice A cn cc, .int .i64 ((q2 + 1))] 64 from by simp <;> omega)
              have O : Own w0 [g] [.cells g [.slice A cn cc, .int .i64 ((q2 + 1))] 64, .row 39 3 (.slice (some ⟨b701, 0, none⟩) ((0 : Int).toNat) C2) ((0 : Int).toNat) ((L3.take ((0 : Int).toNat)).flatMap encUp)] w := O
              exact ⟨b701, ((0 : Int).toNat), C2, (L3.take ((0 : Int).toNat)), (q2 + 1), rfl, by first | omega | (simp; done) | (simp; omega) | (simp at *; omega), by first | omega | (simp; done) | (simp; omega) | (simp at *; omega), by first | assumption | omega, by first | assumption | omega, O⟩
            · have F := F.setB (d := 97) rfl (decide_eq_false c96)
              have F := F.setB (d := 96) rfl (decide_eq_false c96)
              refine c_iff F rfl (wp_skip (hK7 _ _ (?_)))
              try clear hK7 K7
              refine c_seq fun K12 hK12 => c_region (sp F (p_move rfl) rfl rfl fun a F => sp F (p_assign rfl) rfl rfl fun a F => c_nil (hK12 _ _ (?_)))
              try clear hK12 K12
              refine wp_ret (ret1 F rfl rfl (?_))
              have O := O.setR 0 rfl (show Res.cells g [.slice A cn cc, .int .i64 (q2 + 1)] 64 = .cells g [.slice A cn cc, .int .i64 ((q2 + 1))] 64 from by simp <;> omega)
              have O : Own w0 [g] [.cells g [.slice A cn cc, .int .i64 ((q2 + 1))] 64, .row 39 3 (.slice (some ⟨b701, 0, none⟩) N2 C2) N2 (L3.flatMap encUp)] w := O
              exact ⟨b701, N2, C2, L3, (q2 + 1), rfl, by first | omega | (simp; done) | (simp; omega) | (simp at *; omega), by first | omega | (simp; done) | (simp; omega) | (simp at *; omega), by first | assumption | omega, by first | assumption | omega, O⟩

set_option maxRecDepth 100000 in
/-- spec.DrawLocksTake -/
theorem dLocksTake_ok (A : Option Addr) (cn : Nat) (cc : Nat) (w0 : World) (hC : CodeIn w0 A cn cc) :
    Calls Tryd.prog 16 #[.slice A cn cc] w0 fun e w => ∃ (b : Nat), ∃ (N : Nat), ∃ (C : Nat), ∃ (es : List (Int)), ∃ (b2 : Nat), ∃ (N2 : Nat), ∃ (C2 : Nat), ∃ (es2 : List (Int × Int × Int)), ∃ (t : Int), e = .returned (.tuple #[.slice (some ⟨b, 0, none⟩) N C, .int .i64 (t), .slice (some ⟨b2, 0, none⟩) N2 C2]) ∧ ((N : Int) = es.length) ∧ ((N : Int) ≤ 4) ∧ ((N2 : Int) = es2.length) ∧ ((N2 : Int) ≤ 5) ∧ (-1 ≤ t) ∧ (t ≤ 12) ∧ Own w0 [] [.row 3 1 (.slice (some ⟨b, 0, none⟩) N C) N (es.flatMap encInt), .row 39 3 (.slice (some ⟨b2, 0, none⟩) N2 C2) N2 (es2.flatMap encUp)] w := by
  have O := Own.start w0
  have hcc : (cn : Int) ≤ cc := by have := hC.1; omega
  have hcm : (cc : Int) ≤ 9223372036854775807 := by have := hC.2.1; unfold maxLen at this; omega
  refine enterO (n := 19) Tryd.func16 rfl rfl rfl O fun a w F O => ?_
  refine c_seq fun K1 hK1 => c_region (sp F (p_assign rfl) rfl rfl fun a F => sp F (p_assign rfl) rfl rfl fun a F => sp F (p_assign rfl) rfl rfl fun a F => c_nil (hK1 _ _ (?_)))
  try clear hK1 K1
  refine c_seq fun K2 hK2 => c_region (sp F (p_move rfl) rfl rfl fun a F => so F rfl (o_call (vs := #[.slice A cn cc]) F Tryd.en_30 rfl rfl ((l6Open_ok A cn cc w (by omega) (by omega)).mono ?_)))
  rintro e w ⟨b9, m9, rfl, h9a, h9b, K⟩
  refine ⟨_, rfl, fun a F => ?_⟩
  have O : Own w0 [] [.cells b9 [.slice A m9 cc, .int .i64 (0)] 64] w := O.call0 K
  clear K
  have hCode : Code w0 b9 A m9 := Code.of hC (by omega) (by omega) (O.fresh 0 rfl rfl)
  have O : Own w0 [] [.cells b9 [.slice A m9 cc, .int .i64 (0)] 64] w := O
  refine sp F (p_assign rfl) rfl rfl fun a F => c_nil (hK2 _ _ (?_))
  try clear hK2 K2
  refine c_seq fun K3 hK3 => c_region (sp F (p_move rfl) rfl rfl fun a F => so F rfl (o_call (vs := #[.pointer (some ⟨b9, 0, none⟩)]) F Tryd.en_31 rfl rfl ((l92Locks_ok b9 A m9 cc 0 w (hCode.keep O (by simp)) (by omega) (by omega) (O.hand1 rfl)).mono ?_)))
  rintro e w ⟨b11, N11, C11, es11, q11, rfl, h11a, h11b, h11c, h11d, K⟩
  refine ⟨_, rfl, fun a F => ?_⟩
  have O : Own w0 [] [.cells b9 [.slice A m9 cc, .int .i64 (q11)] 64, .row 3 1 (.slice (some ⟨b11, 0, none⟩) N11 C11) N11 (es11.flatMap encInt)] w := O.call1 K rfl
  clear K
  have O : Own w0 [] [.cells b9 [.slice A m9 cc, .int .i64 (q11)] 64, .row 3 1 (.slice (some ⟨b11, 0, none⟩) N11 C11) N11 (es11.flatMap encInt)] w := O
  refine sp F (p_assign rfl) rfl rfl fun a F => c_nil (hK3 _ _ (?_))
  try clear hK3 K3
  refine c_seq fun K4 hK4 => c_region (sp F (p_move rfl) rfl rfl fun a F => so F rfl (o_call (vs := #[.pointer (some ⟨b9, 0, none⟩)]) F Tryd.en_32 rfl rfl ((l92Txn_ok b9 A m9 cc q11 w (hCode.keep O (by simp)) (by omega) (by omega) (O.hand1 rfl)).mono ?_)))
  rintro e w ⟨v13, q13, rfl, h13a, h13b, h13c, h13d, K⟩
  refine ⟨_, rfl, fun a F => ?_⟩
  have O : Own w0 [] [.cells b9 [.slice A m9 cc, .int .i64 (q13)] 64, .row 3 1 (.slice (some ⟨b11, 0, none⟩) N11 C11) N11 (es11.flatMap encInt)] w := O.call1 K rfl
  clear K
  have O : Own w0 [] [.cells b9 [.slice A m9 cc, .int .i64 (q13)] 64, .row 3 1 (.slice (some ⟨b11, 0, none⟩) N11 C11) N11 (es11.flatMap encInt)] w := O
  refine sp F (p_assign rfl) rfl rfl fun a F => c_nil (hK4 _ _ (?_))
  try clear hK4 K4
  refine c_seq fun K5 hK5 => c_region (sp F (p_move rfl) rfl rfl fun a F => sp F (p_move rfl) rfl rfl fun a F => sp F (p_move rfl) rfl rfl fun a F => so F rfl (o_bslice (cs := [.int .i64 (-1), .int .i64 (-1), .int .i64 (-1), .int .i64 (-1)]) F O rfl Tryd.underlying22 Tryd.sz_3 Tryd.zero_3 rfl rfl rfl fun b17 w O a F => ?_))
  have O : Own w0 [] [.cells b17 [.int .i64 (-1), .int .i64 (-1), .int .i64 (-1), .int .i64 (-1)] 3, .cells b9 [.slice A m9 cc, .int .i64 (q13)] 64, .row 3 1 (.slice (some ⟨b11, 0, none⟩) N11 C11) N11 (es11.flatMap encInt)] w := O
  have O := O.pull 1 rfl
  have O : Own w0 [] [.cells b9 [.slice A m9 cc, .int .i64 (q13)] 64, .cells b17 [.int .i64 (-1), .int .i64 (-1), .int .i64 (-1), .int .i64 (-1)] 3, .row 3 1 (.slice (some ⟨b11, 0, none⟩) N11 C11) N11 (es11.flatMap encInt)] w := O
  refine so F rfl (o_call (vs := #[.pointer (some ⟨b9, 0, none⟩), .slice (some ⟨b17, 0, none⟩) 4 4]) F Tryd.en_33 rfl rfl ((l92Updates_ok b9 A m9 cc q13 (some ⟨b17, 0, none⟩) 4 4 ([-1, -1, -1, -1]) w (hCode.keep O (by simp)) (by omega) (by omega) (O.arrC 1 (es := [-1, -1, -1, -1]) rfl encInt_len (by decide)) (by first | omega | (simp; done) | (simp; omega) | (simp at *; omega)) (by omega) (O.apartC 1 0 rfl rfl (by decide)) (O.hand1 rfl)).mono ?_))
  rintro e w ⟨b18, N18, C18, es18, q18, rfl, h18a, h18b, h18c, h18d, K⟩
  refine ⟨_, rfl, fun a F => ?_⟩
  have O : Own w0 [] [.cells b9 [.slice A m9 cc, .int .i64 (q18)] 64, .row 39 3 (.slice (some ⟨b18, 0, none⟩) N18 C18) N18 (es18.flatMap encUp), .cells b17 [.int .i64 (-1), .int .i64 (-1), .int .i64 (-1), .int .i64 (-1)] 3, .row 3 1 (.slice (some ⟨b11, 0, none⟩) N11 C11) N11 (es11.flatMap encInt)] w := O.call1 K rfl
  clear K
  have O : Own w0 [] [.cells b9 [.slice A m9 cc, .int .i64 (q18)] 64, .row 39 3 (.slice (some ⟨b18, 0, none⟩) N18 C18) N18 (es18.flatMap encUp), .cells b17 [.int .i64 (-1), .int .i64 (-1), .int .i64 (-1), .int .i64 (-1)] 3, .row 3 1 (.slice (some ⟨b11, 0, none⟩) N11 C11) N11 (es11.flatMap encInt)] w := O
  refine sp F (p_assign rfl) rfl rfl fun a F => sp F (p_assign rfl) rfl rfl fun a F => sp F (p_assign rfl) rfl rfl fun a F => c_nil (hK5 _ _ (?_))
  try clear hK5 K5
  refine wp_ret (ret3 F rfl rfl rfl rfl (?_))
  have O : Own w0 [] [.row 3 1 (.slice (some ⟨b11, 0, none⟩) N11 C11) N11 (es11.flatMap encInt), .row 39 3 (.slice (some ⟨b18, 0, none⟩) N18 C18) N18 (es18.flatMap encUp)] w := (((O.pull 1 rfl).pull 3 rfl).take 2)
  exact ⟨b11, N11, C11, es11, b18, N18, C18, es18, v13, rfl, by first | assumption | omega, by first | assumption | omega, by first | assumption | omega, by first | assumption | omega, by first | assumption | omega, by first | assumption | omega, O⟩

end Go.Proofs.YtilpbddeijolbaaDoor
