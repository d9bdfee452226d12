/- The law FnExactLocksFree returns true for all arguments. No conditions. -/
import Derived.Test.YtilpbddeijolbaaRefC3
import Derived.Test.YtilpbddeijolbaaOpenS
namespace Go.Proofs.Ytilpbddeijolbaa
open Go.ChangeShapes Go.WideShapes Go.ChangeAt Go.RowKit
set_option linter.unusedVariables false
set_option linter.unusedSimpArgs false

set_option maxRecDepth 100000 in
/-- laws.FnExactLocksFree -/
theorem exLocksFree_ok (A : Option Addr) (n : Nat) (c : Nat) (es : List (Int)) (t : Int) (w0 : World) (hA : Arr w0 encInt 1 A es) (hn : (n : Int) = es.length) (hb : (n : Int) ≤ 9223372036854775807) :
    Calls Try.prog 13 #[.slice A n c, .int .i64 (t)] w0 fun e w => e = .returned (.bool true) ∧ Own w0 [] [] w := by
  have O := Own.start w0
  refine enterO (n := 98) Try.func13 rfl rfl rfl O fun a w F O => ?_
  refine c_seq fun K1 hK1 => c_region (sp F (p_assign rfl) rfl rfl fun a F => c_nil (hK1 _ _ (?_)))
  try clear hK1 K1
  refine c_seq fun K2 hK2 => c_seq fun K3 hK3 => c_region (sp F (p_move rfl) rfl rfl fun a F => sp F (p_len_l rfl Try.underlying22) rfl rfl fun a F => sp F (p_gtr rfl rfl) rfl rfl fun a F => c_nil (hK3 _ _ (?_)))
  try clear hK3 K3
  by_cases c17 : 1048576 < (n : Int)
  · have F := F.setB (d := 17) rfl (decide_eq_true c17)
    refine c_ift F rfl (c_seq fun K4 hK4 => c_region (sp F (p_assign rfl) rfl rfl fun a F => c_nil (hK4 _ _ (?_))))
    try clear hK4 K4
    refine wp_ret (r_then (ret1 F rfl rfl (?_)))
    exact ⟨rfl, O⟩
  · have F := F.setB (d := 17) rfl (decide_eq_false c17)
    refine c_iff F rfl (wp_skip (hK2 _ _ (?_)))
    try clear hK2 K2
    refine c_seq fun K4 hK4 => c_region (sp F (p_move rfl) rfl rfl fun a F => so F rfl (o_call (vs := #[.slice A n c]) F Try.en_18 rfl rfl ((toIntS_ok A n c es w (hA.keep O) (by first | omega | (simp; omega) | (simp at *; omega)) (by omega)).mono ?_)))
    rintro e w ⟨b20, N20, rfl, h20a, K⟩
    refine ⟨_, rfl, fun a F => ?_⟩
    have O : Own w0 [] [.row 3 1 (.slice (some ⟨b20, 0, none⟩) N20 N20) N20 (es.flatMap encInt)] w := O.call0 K
    clear K
    have O : Own w0 [] [.row 3 1 (.slice (some ⟨b20, 0, none⟩) N20 N20) N20 (es.flatMap encInt)] w := O
    refine sp F (p_move rfl) rfl rfl fun a F => so F rfl (o_call (vs := #[.slice (some ⟨b20, 0, none⟩) N20 N20, .int .i64 (t)]) F Try.en_45 rfl rfl ((sLocksFree_ok (some ⟨b20, 0, none⟩) N20 N20 es t w (O.arr 0 (es := es) rfl encInt_len (by decide)) (by first | omega | (simp; omega) | (simp at *; omega)) (by omega)).mono ?_))
    rintro e w ⟨P22, N22, C22, rfl, h22a, h22b, K⟩
    refine ⟨_, rfl, fun a F => ?_⟩
    have O : Own w0 [] [.row 3 1 (.slice P22 N22 C22) N22 ((LF es t).flatMap encInt), .row 3 1 (.slice (some ⟨b20, 0, none⟩) N20 N20) N20 (es.flatMap encInt)] w := O.call0 K
    clear K
    have O : Own w0 [] [.row 3 1 (.slice P22 N22 C22) N22 ((LF es t).flatMap encInt), .row 3 1 (.slice (some ⟨b20, 0, none⟩) N20 N20) N20 (es.flatMap encInt)] w := O
    refine sp F (p_move rfl) rfl rfl fun a F => sp F (p_extract rfl rfl) rfl rfl fun a F => sp F (p_extract rfl rfl) rfl rfl fun a F => sp F (p_assign rfl) rfl rfl fun a F => sp F (p_assign rfl) rfl rfl fun a F => c_nil (hK4 _ _ (?_))
    try clear hK4 K4
    refine c_seq fun K5 hK5 => c_region (sp F (p_move rfl) rfl rfl fun a F => so F rfl (o_call (vs := #[.slice A n c]) F Try.en_18 rfl rfl ((toIntS_ok A n c es w (hA.keep O) (by first | omega | (simp; omega) | (simp at *; omega)) (by omega)).mono ?_)))
    rintro e w ⟨b26, N26, rfl, h26a, K⟩
    refine ⟨_, rfl, fun a F => ?_⟩
    have O : Own w0 [] [.row 3 1 (.slice (some ⟨b26, 0, none⟩) N26 N26) N26 (es.flatMap encInt), .row 3 1 (.slice P22 N22 C22) N22 ((LF es t).flatMap encInt), .row 3 1 (.slice (some ⟨b20, 0, none⟩) N20 N20) N20 (es.flatMap encInt)] w := O.call0 K
    clear K
    have O : Own w0 [] [.row 3 1 (.slice (some ⟨b26, 0, none⟩) N26 N26) N26 (es.flatMap encInt), .row 3 1 (.slice P22 N22 C22) N22 ((LF es t).flatMap encInt), .row 3 1 (.slice (some ⟨b20, 0, none⟩) N20 N20) N20 (es.flatMap encInt)] w := O
    refine sp F (p_assign rfl) rfl rfl fun a F => c_nil (hK5 _ _ (?_))
    try clear hK5 K5
    refine c_seq fun K6 hK6 => c_region (sp F (p_move rfl) rfl rfl fun a F => sp F (p_move rfl) rfl rfl fun a F => so F rfl (o_call (vs := #[.slice (some ⟨b26, 0, none⟩) N26 N26, .int .i64 (t)]) F Try.en_38 rfl rfl ((iLocksFree_ok (some ⟨b26, 0, none⟩) N26 N26 es t w (O.arr 0 (es := es) rfl encInt_len (by decide)) (by first | omega | (simp; omega) | (simp at *; omega)) (by omega)).mono ?_)))
    rintro e w ⟨P30, N30, C30, rfl, h30a, h30b, K⟩
    refine ⟨_, rfl, fun a F => ?_⟩
    have O : Own w0 [] [.row 3 1 (.slice P30 N30 C30) N30 ((LF es t).flatMap encInt), .row 3 1 (.slice (some ⟨b26, 0, none⟩) N26 N26) N26 (es.flatMap encInt), .row 3 1 (.slice P22 N22 C22) N22 ((LF es t).flatMap encInt), .row 3 1 (.slice (some ⟨b20, 0, none⟩) N20 N20) N20 (es.flatMap encInt)] w := O.call0 K
    clear K
    have O : Own w0 [] [.row 3 1 (.slice P30 N30 C30) N30 ((LF es t).flatMap encInt), .row 3 1 (.slice (some ⟨b26, 0, none⟩) N26 N26) N26 (es.flatMap encInt), .row 3 1 (.slice P22 N22 C22) N22 ((LF es t).flatMap encInt), .row 3 1 (.slice (some ⟨b20, 0, none⟩) N20 N20) N20 (es.flatMap encInt)] w := O
    refine sp F (p_move rfl) rfl rfl fun a F => sp F (p_extract rfl rfl) rfl rfl fun a F => sp F (p_extract rfl rfl) rfl rfl fun a F => sp F (p_assign rfl) rfl rfl fun a F => sp F (p_assign rfl) rfl rfl fun a F => c_nil (hK6 _ _ (?_))
    try clear hK6 K6
    refine c_seq fun K7 hK7 => c_seq fun K8 hK8 => c_region (sp F (p_move rfl) rfl rfl fun a F => sp F (p_move rfl) rfl rfl fun a F => so F rfl (o_call (vs := #[.slice P30 N30 C30, .slice P22 N22 C22]) F Try.en_20 rfl rfl ((eqIntS_ok P30 N30 C30 (LF es t) P22 N22 C22 (LF es t) w (O.arr 0 (es := LF es t) rfl encInt_len (by decide)) (by first | omega | (simp; omega) | (simp at *; omega)) (by omega) (O.arr 2 (es := LF es t) rfl encInt_len (by decide)) (by first | omega | (simp; omega) | (simp at *; omega)) (by omega)).mono ?_)))
    rintro e w ⟨rfl, K⟩
    refine ⟨_, rfl, fun a F => ?_⟩
    have O : Own w0 [] [.row 3 1 (.slice P30 N30 C30) N30 ((LF es t).flatMap encInt), .row 3 1 (.slice (some ⟨b26, 0, none⟩) N26 N26) N26 (es.flatMap encInt), .row 3 1 (.slice P22 N22 C22) N22 ((LF es t).flatMap encInt), .row 3 1 (.slice (some ⟨b20, 0, none⟩) N20 N20) N20 (es.flatMap encInt)] w := O.call0 K
    clear K
    have c35 : (LF es t) = (LF es t) := by rfl
    have F := F.setB (d := 35) rfl (decide_eq_true c35)
    have O : Own w0 [] [.row 3 1 (.slice P30 N30 C30) N30 ((LF es t).flatMap encInt), .row 3 1 (.slice (some ⟨b26, 0, none⟩) N26 N26) N26 (es.flatMap encInt), .row 3 1 (.slice P22 N22 C22) N22 ((LF es t).flatMap encInt), .row 3 1 (.slice (some ⟨b20, 0, none⟩) N20 N20) N20 (es.flatMap encInt)] w := O
    refine sp F (p_not rfl) rfl rfl fun a F => sp F (p_move rfl) rfl rfl fun a F => sp F (p_move rfl) rfl rfl fun a F => sp F (p_move rfl) rfl rfl fun a F => sp F (p_bneL rfl rfl Try.underlying4 false (by simp)) rfl rfl fun a F => sp F (p_pick (t := false) rfl rfl) rfl rfl fun a F => c_nil (hK8 _ _ (?_))
    try clear hK8 K8
    refine c_iff F rfl (wp_skip (hK7 _ _ (?_)))
    try clear hK7 K7
    refine c_seq fun K9 hK9 => c_seq fun K10 hK10 => c_region (sp F (p_move rfl) rfl rfl fun a F => sp F (p_move rfl) rfl rfl fun a F => so F rfl (o_call (vs := #[.slice A n c]) F Try.en_18 rfl rfl ((toIntS_ok A n c es w (hA.keep O) (by first | omega | (simp; omega) | (simp at *; omega)) (by omega)).mono ?_)))
    rintro e w ⟨b44, N44, rfl, h44a, K⟩
    refine ⟨_, rfl, fun a F => ?_⟩
    have O : Own w0 [] [.row 3 1 (.slice (some ⟨b44, 0, none⟩) N44 N44) N44 (es.flatMap encInt), .row 3 1 (.slice P30 N30 C30) N30 ((LF es t).flatMap encInt), .row 3 1 (.slice (some ⟨b26, 0, none⟩) N26 N26) N26 (es.flatMap encInt), .row 3 1 (.slice P22 N22 C22) N22 ((LF es t).flatMap encInt), .row 3 1 (.slice (some ⟨b20, 0, none⟩) N20 N20) N20 (es.flatMap encInt)] w := O.call0 K
    clear K
    have O : Own w0 [] [.row 3 1 (.slice (some ⟨b44, 0, none⟩) N44 N44) N44 (es.flatMap encInt), .row 3 1 (.slice P30 N30 C30) N30 ((LF es t).flatMap encInt), .row 3 1 (.slice (some ⟨b26, 0, none⟩) N26 N26) N26 (es.flatMap encInt), .row 3 1 (.slice P22 N22 C22) N22 ((LF es t).flatMap encInt), .row 3 1 (.slice (some ⟨b20, 0, none⟩) N20 N20) N20 (es.flatMap encInt)] w := O
    refine so F rfl (o_call (vs := #[.slice (some ⟨b26, 0, none⟩) N26 N26, .slice (some ⟨b44, 0, none⟩) N44 N44]) F Try.en_20 rfl rfl ((eqIntS_ok (some ⟨b26, 0, none⟩) N26 N26 es (some ⟨b44, 0, none⟩) N44 N44 es w (O.arr 2 (es := es) rfl encInt_len (by decide)) (by first | omega | (simp; omega) | (simp at *; omega)) (by omega) (O.arr 0 (es := es) rfl encInt_len (by decide)) (by first | omega | (simp; omega) | (simp at *; omega)) (by omega)).mono ?_))
    rintro e w ⟨rfl, K⟩
    refine ⟨_, rfl, fun a F => ?_⟩
    have O : Own w0 [] [.row 3 1 (.slice (some ⟨b44, 0, none⟩) N44 N44) N44 (es.flatMap encInt), .row 3 1 (.slice P30 N30 C30) N30 ((LF es t).flatMap encInt), .row 3 1 (.slice (some ⟨b26, 0, none⟩) N26 N26) N26 (es.flatMap encInt), .row 3 1 (.slice P22 N22 C22) N22 ((LF es t).flatMap encInt), .row 3 1 (.slice (some ⟨b20, 0, none⟩) N20 N20) N20 (es.flatMap encInt)] w := O.call0 K
    clear K
    have c45 : es = es := by rfl
    have F := F.setB (d := 45) rfl (decide_eq_true c45)
    have O : Own w0 [] [.row 3 1 (.slice (some ⟨b44, 0, none⟩) N44 N44) N44 (es.flatMap encInt), .row 3 1 (.slice P30 N30 C30) N30 ((LF es t).flatMap encInt), .row 3 1 (.slice (some ⟨b26, 0, none⟩) N26 N26) N26 (es.flatMap encInt), .row 3 1 (.slice P22 N22 C22) N22 ((LF es t).flatMap encInt), .row 3 1 (.slice (some ⟨b20, 0, none⟩) N20 N20) N20 (es.flatMap encInt)] w := O
    refine sp F (p_not rfl) rfl rfl fun a F => c_nil (hK10 _ _ (?_))
    try clear hK10 K10
    refine c_iff F rfl (wp_skip (hK9 _ _ (?_)))
    try clear hK9 K9
    refine c_seq fun K11 hK11 => c_region (sp F (p_assign rfl) rfl rfl fun a F => c_nil (hK11 _ _ (?_)))
    try clear hK11 K11
    refine c_seq fun K12 hK12 => c_region (sp F (p_move rfl) rfl rfl fun a F => sp F (p_move rfl) rfl rfl fun a F => ?_)
    have O := O.pull 2 rfl
    have O : Own w0 [] [.row 3 1 (.slice (some ⟨b26, 0, none⟩) N26 N26) N26 (es.flatMap encInt), .row 3 1 (.slice (some ⟨b44, 0, none⟩) N44 N44) N44 (es.flatMap encInt), .row 3 1 (.slice P30 N30 C30) N30 ((LF es t).flatMap encInt), .row 3 1 (.slice P22 N22 C22) N22 ((LF es t).flatMap encInt), .row 3 1 (.slice (some ⟨b20, 0, none⟩) N20 N20) N20 (es.flatMap encInt)] w := O
    refine so F rfl (o_call (vs := #[.slice (some ⟨b26, 0, none⟩) N26 N26, .int .i64 (1)]) F Try.en_31 rfl rfl ((markIntS_some b26 N26 N26 es 1 w (by first | omega | (simp; omega) | (simp at *; omega)) (by omega) (by omega) (by omega) (O.hand1 rfl)).mono ?_))
    rintro e w ⟨es149, rfl, h49a, h49b, K⟩
    refine ⟨_, rfl, fun a F => ?_⟩
    have O : Own w0 [] [.row 3 1 (.slice (some ⟨b26, 0, none⟩) N26 N26) N26 (es149.flatMap encInt), .row 3 1 (.slice (some ⟨b44, 0, none⟩) N44 N44) N44 (es.flatMap encInt), .row 3 1 (.slice P30 N30 C30) N30 ((LF es t).flatMap encInt), .row 3 1 (.slice P22 N22 C22) N22 ((LF es t).flatMap encInt), .row 3 1 (.slice (some ⟨b20, 0, none⟩) N20 N20) N20 (es.flatMap encInt)] w := O.call1 K rfl
    clear K
    have O : Own w0 [] [.row 3 1 (.slice (some ⟨b26, 0, none⟩) N26 N26) N26 (es149.flatMap encInt), .row 3 1 (.slice (some ⟨b44, 0, none⟩) N44 N44) N44 (es.flatMap encInt), .row 3 1 (.slice P30 N30 C30) N30 ((LF es t).flatMap encInt), .row 3 1 (.slice P22 N22 C22) N22 ((LF es t).flatMap encInt), .row 3 1 (.slice (some ⟨b20, 0, none⟩) N20 N20) N20 (es.flatMap encInt)] w := O
    refine sp F (p_assign rfl) rfl rfl fun a F => c_nil (hK12 _ _ (?_))
    try clear hK12 K12
    refine c_seq fun K13 hK13 => c_seq fun K14 hK14 => c_region (sp F (p_move rfl) rfl rfl fun a F => sp F (p_lss rfl rfl) rfl rfl fun a F => ?_)
    have c51 : ¬ ((1 + (N26 : Int)) < 0) := by omega
    have F := F.setB (d := 51) rfl (decide_eq_false c51)
    refine sp F (p_move rfl) rfl rfl fun a F => sp F (p_move rfl) rfl rfl fun a F => sp F (p_move rfl) rfl rfl fun a F => so F rfl (o_call (vs := #[.slice P30 N30 C30, .slice P22 N22 C22]) F Try.en_20 rfl rfl ((eqIntS_ok P30 N30 C30 (LF es t) P22 N22 C22 (LF es t) w (O.arr 2 (es := LF es t) rfl encInt_len (by decide)) (by first | omega | (simp; omega) | (simp at *; omega)) (by omega) (O.arr 3 (es := LF es t) rfl encInt_len (by decide)) (by first | omega | (simp; omega) | (simp at *; omega)) (by omega)).mono ?_))
    rintro e w ⟨rfl, K⟩
    refine ⟨_, rfl, fun a F => ?_⟩
    have O : Own w0 [] [.row 3 1 (.slice (some ⟨b26, 0, none⟩) N26 N26) N26 (es149.flatMap encInt), .row 3 1 (.slice (some ⟨b44, 0, none⟩) N44 N44) N44 (es.flatMap encInt), .row 3 1 (.slice P30 N30 C30) N30 ((LF es t).flatMap encInt), .row 3 1 (.slice P22 N22 C22) N22 ((LF es t).flatMap encInt), .row 3 1 (.slice (some ⟨b20, 0, none⟩) N20 N20) N20 (es.flatMap encInt)] w := O.call0 K
    clear K
    have F := F.setB (d := 55) rfl (decide_eq_true c35)
    have O : Own w0 [] [.row 3 1 (.slice (some ⟨b26, 0, none⟩) N26 N26) N26 (es149.flatMap encInt), .row 3 1 (.slice (some ⟨b44, 0, none⟩) N44 N44) N44 (es.flatMap encInt), .row 3 1 (.slice P30 N30 C30) N30 ((LF es t).flatMap encInt), .row 3 1 (.slice P22 N22 C22) N22 ((LF es t).flatMap encInt), .row 3 1 (.slice (some ⟨b20, 0, none⟩) N20 N20) N20 (es.flatMap encInt)] w := O
    refine sp F (p_not rfl) rfl rfl fun a F => sp F (p_pick (t := false) rfl rfl) rfl rfl fun a F => sp F (p_move rfl) rfl rfl fun a F => sp F (p_move rfl) rfl rfl fun a F => sp F (p_move rfl) rfl rfl fun a F => sp F (p_bneL rfl rfl Try.underlying4 false (by simp)) rfl rfl fun a F => sp F (p_pick (t := false) rfl rfl) rfl rfl fun a F => c_nil (hK14 _ _ (?_))
    try clear hK14 K14
    refine c_iff F rfl (wp_skip (hK13 _ _ (?_)))
    try clear hK13 K13
    refine c_seq fun K15 hK15 => c_region (sp F (p_assign rfl) rfl rfl fun a F => c_nil (hK15 _ _ (?_)))
    try clear hK15 K15
    refine c_seq fun K16 hK16 => c_region (sp F (p_move rfl) rfl rfl fun a F => sp F (p_move rfl) rfl rfl fun a F => ?_)
    have O := O.pull 2 rfl
    have O : Own w0 [] [.row 3 1 (.slice P30 N30 C30) N30 ((LF es t).flatMap encInt), .row 3 1 (.slice (some ⟨b26, 0, none⟩) N26 N26) N26 (es149.flatMap encInt), .row 3 1 (.slice (some ⟨b44, 0, none⟩) N44 N44) N44 (es.flatMap encInt), .row 3 1 (.slice P22 N22 C22) N22 ((LF es t).flatMap encInt), .row 3 1 (.slice (some ⟨b20, 0, none⟩) N20 N20) N20 (es.flatMap encInt)] w := O
    refine so F rfl (o_call (vs := #[.slice P30 N30 C30, .int .i64 (1)]) F Try.en_31 rfl rfl ((markIntS P30 N30 C30 (LF es t) 1 w (by first | omega | (simp; omega) | (simp at *; omega)) (by omega) (by omega) (by omega) O.handR).mono ?_))
    rintro e w ⟨es165, rfl, h65a, h65b, K⟩
    refine ⟨_, rfl, fun a F => ?_⟩
    have O : Own w0 [] [.row 3 1 (.slice P30 N30 C30) N30 (es165.flatMap encInt), .row 3 1 (.slice (some ⟨b26, 0, none⟩) N26 N26) N26 (es149.flatMap encInt), .row 3 1 (.slice (some ⟨b44, 0, none⟩) N44 N44) N44 (es.flatMap encInt), .row 3 1 (.slice P22 N22 C22) N22 ((LF es t).flatMap encInt), .row 3 1 (.slice (some ⟨b20, 0, none⟩) N20 N20) N20 (es.flatMap encInt)] w := O.callR K
    clear K
    have O : Own w0 [] [.row 3 1 (.slice P30 N30 C30) N30 (es165.flatMap encInt), .row 3 1 (.slice (some ⟨b26, 0, none⟩) N26 N26) N26 (es149.flatMap encInt), .row 3 1 (.slice (some ⟨b44, 0, none⟩) N44 N44) N44 (es.flatMap encInt), .row 3 1 (.slice P22 N22 C22) N22 ((LF es t).flatMap encInt), .row 3 1 (.slice (some ⟨b20, 0, none⟩) N20 N20) N20 (es.flatMap encInt)] w := O
    refine sp F (p_assign rfl) rfl rfl fun a F => c_nil (hK16 _ _ (?_))
    try clear hK16 K16
    refine c_seq fun K17 hK17 => c_region (sp F (p_assign rfl) rfl rfl fun a F => c_nil (hK17 _ _ (?_)))
    try clear hK17 K17
    refine c_seq fun K18 hK18 => c_region (sp F (p_move rfl) rfl rfl fun a F => sp F (p_move rfl) rfl rfl fun a F => so F rfl (o_call (vs := #[.slice P30 N30 C30, .int .i64 (1)]) F Try.en_32 rfl rfl ((heldIntS_ok P30 N30 C30 es165 1 w (O.arr 0 (es := es165) rfl encInt_len (by decide)) (by first | omega | (simp; omega) | (simp at *; omega)) (by omega) (by assumption) (by omega) (by omega)).mono ?_)))
    rintro e w ⟨rfl, K⟩
    refine ⟨_, rfl, fun a F => ?_⟩
    have O : Own w0 [] [.row 3 1 (.slice P30 N30 C30) N30 (es165.flatMap encInt), .row 3 1 (.slice (some ⟨b26, 0, none⟩) N26 N26) N26 (es149.flatMap encInt), .row 3 1 (.slice (some ⟨b44, 0, none⟩) N44 N44) N44 (es.flatMap encInt), .row 3 1 (.slice P22 N22 C22) N22 ((LF es t).flatMap encInt), .row 3 1 (.slice (some ⟨b20, 0, none⟩) N20 N20) N20 (es.flatMap encInt)] w := O.call0 K
    clear K
    have O : Own w0 [] [.row 3 1 (.slice P30 N30 C30) N30 (es165.flatMap encInt), .row 3 1 (.slice (some ⟨b26, 0, none⟩) N26 N26) N26 (es149.flatMap encInt), .row 3 1 (.slice (some ⟨b44, 0, none⟩) N44 N44) N44 (es.flatMap encInt), .row 3 1 (.slice P22 N22 C22) N22 ((LF es t).flatMap encInt), .row 3 1 (.slice (some ⟨b20, 0, none⟩) N20 N20) N20 (es.flatMap encInt)] w := O
    refine sp F (p_assign rfl) rfl rfl fun a F => c_nil (hK18 _ _ (?_))
    try clear hK18 K18
    refine c_seq fun K19 hK19 => c_seq fun K20 hK20 => c_region (sp F (p_move rfl) rfl rfl fun a F => sp F (p_lss rfl rfl) rfl rfl fun a F => ?_)
    have c70 : ¬ ((1 + (N30 : Int)) < 0) := by omega
    have F := F.setB (d := 70) rfl (decide_eq_false c70)
    refine c_nil (hK20 _ _ (?_))
    try clear hK20 K20
    refine c_iff F rfl (wp_skip (hK19 _ _ (?_)))
    try clear hK19 K19
    refine c_seq fun K21 hK21 => c_seq fun K22 hK22 => c_region (sp F (p_move rfl) rfl rfl fun a F => sp F (p_move rfl) rfl rfl fun a F => sp F (p_neq rfl rfl) rfl rfl fun a F => ?_)
    have c73 : (1 + (N30 : Int)) = (1 + (N30 : Int)) := by omega
    have F := F.setB (d := 73) rfl (decide_eq_false (fun h => h c73))
    refine c_nil (hK22 _ _ (?_))
    try clear hK22 K22
    refine c_iff F rfl (wp_skip (hK21 _ _ (?_)))
    try clear hK21 K21
    refine c_seq fun K23 hK23 => c_region (sp F (p_move rfl) rfl rfl fun a F => so F rfl (o_call (vs := #[.slice A n c]) F Try.en_18 rfl rfl ((toIntS_ok A n c es w (hA.keep O) (by first | omega | (simp; omega) | (simp at *; omega)) (by omega)).mono ?_)))
    rintro e w ⟨b76, N76, rfl, h76a, K⟩
    refine ⟨_, rfl, fun a F => ?_⟩
    have O : Own w0 [] [.row 3 1 (.slice (some ⟨b76, 0, none⟩) N76 N76) N76 (es.flatMap encInt), .row 3 1 (.slice P30 N30 C30) N30 (es165.flatMap encInt), .row 3 1 (.slice (some ⟨b26, 0, none⟩) N26 N26) N26 (es149.flatMap encInt), .row 3 1 (.slice (some ⟨b44, 0, none⟩) N44 N44) N44 (es.flatMap encInt), .row 3 1 (.slice P22 N22 C22) N22 ((LF es t).flatMap encInt), .row 3 1 (.slice (some ⟨b20, 0, none⟩) N20 N20) N20 (es.flatMap encInt)] w := O.call0 K
    clear K
    have O : Own w0 [] [.row 3 1 (.slice (some ⟨b76, 0, none⟩) N76 N76) N76 (es.flatMap encInt), .row 3 1 (.slice P30 N30 C30) N30 (es165.flatMap encInt), .row 3 1 (.slice (some ⟨b26, 0, none⟩) N26 N26) N26 (es149.flatMap encInt), .row 3 1 (.slice (some ⟨b44, 0, none⟩) N44 N44) N44 (es.flatMap encInt), .row 3 1 (.slice P22 N22 C22) N22 ((LF es t).flatMap encInt), .row 3 1 (.slice (some ⟨b20, 0, none⟩) N20 N20) N20 (es.flatMap encInt)] w := O
    refine sp F (p_move rfl) rfl rfl fun a F => so F rfl (o_call (vs := #[.slice (some ⟨b76, 0, none⟩) N76 N76, .int .i64 (t)]) F Try.en_38 rfl rfl ((iLocksFree_ok (some ⟨b76, 0, none⟩) N76 N76 es t w (O.arr 0 (es := es) rfl encInt_len (by decide)) (by first | omega | (simp; omega) | (simp at *; omega)) (by omega)).mono ?_))
    rintro e w ⟨P78, N78, C78, rfl, h78a, h78b, K⟩
    refine ⟨_, rfl, fun a F => ?_⟩
    have O : Own w0 [] [.row 3 1 (.slice P78 N78 C78) N78 ((LF es t).flatMap encInt), .row 3 1 (.slice (some ⟨b76, 0, none⟩) N76 N76) N76 (es.flatMap encInt), .row 3 1 (.slice P30 N30 C30) N30 (es165.flatMap encInt), .row 3 1 (.slice (some ⟨b26, 0, none⟩) N26 N26) N26 (es149.flatMap encInt), .row 3 1 (.slice (some ⟨b44, 0, none⟩) N44 N44) N44 (es.flatMap encInt), .row 3 1 (.slice P22 N22 C22) N22 ((LF es t).flatMap encInt), .row 3 1 (.slice (some ⟨b20, 0, none⟩) N20 N20) N20 (es.flatMap encInt)] w := O.call0 K
    clear K
    have O : Own w0 [] [.row 3 1 (.slice P78 N78 C78) N78 ((LF es t).flatMap encInt), .row 3 1 (.slice (some ⟨b76, 0, none⟩) N76 N76) N76 (es.flatMap encInt), .row 3 1 (.slice P30 N30 C30) N30 (es165.flatMap encInt), .row 3 1 (.slice (some ⟨b26, 0, none⟩) N26 N26) N26 (es149.flatMap encInt), .row 3 1 (.slice (some ⟨b44, 0, none⟩) N44 N44) N44 (es.flatMap encInt), .row 3 1 (.slice P22 N22 C22) N22 ((LF es t).flatMap encInt), .row 3 1 (.slice (some ⟨b20, 0, none⟩) N20 N20) N20 (es.flatMap encInt)] w := O
    refine sp F (p_move rfl) rfl rfl fun a F => sp F (p_extract rfl rfl) rfl rfl fun a F => sp F (p_extract rfl rfl) rfl rfl fun a F => sp F (p_assign rfl) rfl rfl fun a F => sp F (p_assign rfl) rfl rfl fun a F => c_nil (hK23 _ _ (?_))
    try clear hK23 K23
    refine c_seq fun K24 hK24 => c_seq fun K25 hK25 => c_region (sp F (p_move rfl) rfl rfl fun a F => sp F (p_move rfl) rfl rfl fun a F => so F rfl (o_call (vs := #[.slice P78 N78 C78, .slice P22 N22 C22]) F Try.en_20 rfl rfl ((eqIntS_ok P78 N78 C78 (LF es t) P22 N22 C22 (LF es t) w (O.arr 0 (es := LF es t) rfl encInt_len (by decide)) (by first | omega | (simp; omega) | (simp at *; omega)) (by omega) (O.arr 5 (es := LF es t) rfl encInt_len (by decide)) (by first | omega | (simp; omega) | (simp at *; omega)) (by omega)).mono ?_)))
    rintro e w ⟨rfl, K⟩
    refine ⟨_, rfl, fun a F => ?_⟩
    have O : Own w0 [] [.row 3 1 (.slice P78 N78 C78) N78 ((LF es t).flatMap encInt), .row 3 1 (.slice (some ⟨b76, 0, none⟩) N76 N76) N76 (es.flatMap encInt), .row 3 1 (.slice P30 N30 C30) N30 (es165.flatMap encInt), .row 3 1 (.slice (some ⟨b26, 0, none⟩) N26 N26) N26 (es149.flatMap encInt), .row 3 1 (.slice (some ⟨b44, 0, none⟩) N44 N44) N44 (es.flatMap encInt), .row 3 1 (.slice P22 N22 C22) N22 ((LF es t).flatMap encInt), .row 3 1 (.slice (some ⟨b20, 0, none⟩) N20 N20) N20 (es.flatMap encInt)] w := O.call0 K
    clear K
    have F := F.setB (d := 83) rfl (decide_eq_true c35)
    have O : Own w0 [] [.row 3 1 (.slice P78 N78 C78) N78 ((LF es t).flatMap encInt), .row 3 1 (.slice (some ⟨b76, 0, none⟩) N76 N76) N76 (es.flatMap encInt), .row 3 1 (.slice P30 N30 C30) N30 (es165.flatMap encInt), .row 3 1 (.slice (some ⟨b26, 0, none⟩) N26 N26) N26 (es149.flatMap encInt), .row 3 1 (.slice (some ⟨b44, 0, none⟩) N44 N44) N44 (es.flatMap encInt), .row 3 1 (.slice P22 N22 C22) N22 ((LF es t).flatMap encInt), .row 3 1 (.slice (some ⟨b20, 0, none⟩) N20 N20) N20 (es.flatMap encInt)] w := O
    refine sp F (p_not rfl) rfl rfl fun a F => sp F (p_move rfl) rfl rfl fun a F => sp F (p_move rfl) rfl rfl fun a F => sp F (p_move rfl) rfl rfl fun a F => sp F (p_bneL rfl rfl Try.underlying4 false (by simp)) rfl rfl fun a F => sp F (p_pick (t := false) rfl rfl) rfl rfl fun a F => c_nil (hK25 _ _ (?_))
    try clear hK25 K25
    refine c_iff F rfl (wp_skip (hK24 _ _ (?_)))
    try clear hK24 K24
    refine c_seq fun K26 hK26 => c_region (sp F (p_assign rfl) rfl rfl fun a F => c_nil (hK26 _ _ (?_)))
    try clear hK26 K26
    refine c_seq fun K27 hK27 => c_region (sp F (p_move rfl) rfl rfl fun a F => sp F (p_move rfl) rfl rfl fun a F => so F rfl (o_call (vs := #[.slice P30 N30 C30, .int .i64 (1)]) F Try.en_32 rfl rfl ((heldIntS_ok P30 N30 C30 es165 1 w (O.arr 2 (es := es165) rfl encInt_len (by decide)) (by first | omega | (simp; omega) | (simp at *; omega)) (by omega) (by assumption) (by omega) (by omega)).mono ?_)))
    rintro e w ⟨rfl, K⟩
    refine ⟨_, rfl, fun a F => ?_⟩
    have O : Own w0 [] [.row 3 1 (.slice P78 N78 C78) N78 ((LF es t).flatMap encInt), .row 3 1 (.slice (some ⟨b76, 0, none⟩) N76 N76) N76 (es.flatMap encInt), .row 3 1 (.slice P30 N30 C30) N30 (es165.flatMap encInt), .row 3 1 (.slice (some ⟨b26, 0, none⟩) N26 N26) N26 (es149.flatMap encInt), .row 3 1 (.slice (some ⟨b44, 0, none⟩) N44 N44) N44 (es.flatMap encInt), .row 3 1 (.slice P22 N22 C22) N22 ((LF es t).flatMap encInt), .row 3 1 (.slice (some ⟨b20, 0, none⟩) N20 N20) N20 (es.flatMap encInt)] w := O.call0 K
    clear K
    have O : Own w0 [] [.row 3 1 (.slice P78 N78 C78) N78 ((LF es t).flatMap encInt), .row 3 1 (.slice (some ⟨b76, 0, none⟩) N76 N76) N76 (es.flatMap encInt), .row 3 1 (.slice P30 N30 C30) N30 (es165.flatMap encInt), .row 3 1 (.slice (some ⟨b26, 0, none⟩) N26 N26) N26 (es149.flatMap encInt), .row 3 1 (.slice (some ⟨b44, 0, none⟩) N44 N44) N44 (es.flatMap encInt), .row 3 1 (.slice P22 N22 C22) N22 ((LF es t).flatMap encInt), .row 3 1 (.slice (some ⟨b20, 0, none⟩) N20 N20) N20 (es.flatMap encInt)] w := O
    refine sp F (p_assign rfl) rfl rfl fun a F => c_nil (hK27 _ _ (?_))
    try clear hK27 K27
    refine c_seq fun K28 hK28 => c_seq fun K29 hK29 => c_region (sp F (p_move rfl) rfl rfl fun a F => sp F (p_lss rfl rfl) rfl rfl fun a F => ?_)
    have F := F.setB (d := 94) rfl (decide_eq_false c70)
    refine c_nil (hK29 _ _ (?_))
    try clear hK29 K29
    refine c_iff F rfl (wp_skip (hK28 _ _ (?_)))
    try clear hK28 K28
    refine c_seq fun K30 hK30 => c_seq fun K31 hK31 => c_region (sp F (p_move rfl) rfl rfl fun a F => sp F (p_move rfl) rfl rfl fun a F => sp F (p_neq rfl rfl) rfl rfl fun a F => ?_)
    have F := F.setB (d := 97) rfl (decide_eq_false (fun h => h c73))
    refine c_nil (hK31 _ _ (?_))
    try clear hK31 K31
    refine c_iff F rfl (wp_skip (hK30 _ _ (?_)))
    try clear hK30 K30
    refine c_seq fun K32 hK32 => c_region (sp F (p_assign rfl) rfl rfl fun a F => c_nil (hK32 _ _ (?_)))
    try clear hK32 K32
    refine wp_ret (ret1 F rfl rfl (?_))
    have O : Own w0 [] [] w := (O.take 0)
    exact ⟨rfl, O⟩

set_option maxRecDepth 100000 in
theorem exLocksFree_lifted (os : Os) (started : os.Started) (H : Type) (enc : TypeId × Value → H) :
    ReturnsInHanded {} Try.checked os 13 .any (Rows.fnExactLocksFreeSpec.pre6 enc Try.prog Try.f13 Rows.fnExactLocksFreeRow.domain false) (Rows.fnExactLocksFreeSpec.post enc Try.prog Try.f13 false true false false) := by
  have e0 : Rows.fnExactLocksFreeRow.domain = [] := rfl
  rw [e0]
  refine lifted_of (C := Try.checked) Try.facts started (by kernel_rfl) Try.func13 rfl ?_ (tb := 4) (by kernel_rfl) Try.underlying4 (by kernel_rfl)
    (ChangeSpec.witness6 (enc := enc) (C := Try.checked) false ⟨#[], #[.slice none 0 0, .int .i64 0], []⟩ 8 (by kernel_rfl) (by kernel_rfl) (by kernel_rfl) (by kernel_rfl)) ?_
  · intro ds hds
    match ds, hds with
    | [_, _], _ => rfl
  intro W base args ds p hval0 hA0
  have hval : ∀ (j : Nat) t v, Try.f13.params[j]? = some t → args[j]? = some v → Value.okWide Try.prog W .any base t v := hval0
  have hA : DataW.TrodAll enc Try.prog W 0 (fun _ => true) true Try.f13.params.toList args.toList ds p := hA0
  clear hA0 hval0
  show Calls Try.prog 13 args W _
  rw [Try.params13] at hA hval
  obtain ⟨v0, v1, d0, d1, p0, p1, hargs, rfl, rfl, h0, h1⟩ := trodAll_two hA
  obtain rfl : args = #[v0, v1] := by cases args; simp_all
  obtain ⟨a, n, c, es, rfl, hArr, hn, hb⟩ := open_intsIn (hval 0 22 v0 rfl rfl) h0
  obtain ⟨t, rfl⟩ := okWide_int Try.underlying3 (hval 1 3 v1 rfl rfl)
  exact (exLocksFree_ok a n c es t W hArr hn hb).mono fun e w' h => ⟨h.1, h.2.below⟩

theorem exLocksFree_pkg : ¬ Check.packageOf Try.f13.name = "main" := by
  intro h
  have h2 := congrArg String.toList h
  simp only [Check.packageOf, Try.f13] at h2
  simp at h2

theorem exLocksFree_closed : lawFacts Try.prog 13 Try.f13 Rows.fnExactLocksFreeSpec Rows.fnExactLocksFreeRow = true := by kernel_rfl
theorem exLocksFree_facts : joinedFacts Try.pinned.checked.prog 13 Try.f13 Rows.fnExactLocksFreeSpec Rows.fnExactLocksFreeRow = true := facts_of (P := Try.prog) Try.facts exLocksFree_closed

theorem exLocksFree_wrap : Func.isWrapper Try.pinned.checked.prog Try.f13 Rows.fnExactLocksFreeRow.wrapper Rows.fnExactLocksFreeRow.mainSum := by
  have e1 : Rows.fnExactLocksFreeRow.wrapper = false := rfl
  have e2 : Rows.fnExactLocksFreeRow.mainSum = "" := rfl
  rw [e1, e2]
  exact wrapper_of Try.pinned.checked.prog Try.f13 exLocksFree_pkg

/-- The statement. -/
theorem exLocksFree_over : Rows.fnExactLocksFreeRow.holds Try.pinned (OpenSpec.ofChange Rows.fnExactLocksFreeSpec) :=
  OpenClaim.holds_of_wide 13 Try.f13 rfl rfl rfl rfl rfl rfl rfl ⟨rfl, rfl, rfl, rfl, rfl⟩ rfl rfl rfl rfl rfl (by kernel_rfl) Try.func13 exLocksFree_facts
    (of_decide_eq_true (by kernel_rfl)) exLocksFree_wrap
    (fun os started H enc _ => exLocksFree_lifted os started H enc)
theorem exLocksFree_holds : Rows.FnExactLocksFreeSaid := exLocksFree_over
#print axioms exLocksFree_holds

end Go.Proofs.Ytilpbddeijolbaa
