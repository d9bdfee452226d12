/- The law FnExactLocksOf returns true for all arguments. No conditions. -/
import Derived.Test.YtilpbddeijolbaaRefC3
import Derived.Test.YtilpbddeijolbaaOpenS
namespace Go.Proofs.Ytilpbddeijolbaa
open Go.ChangeShapes Go.WideShapes Go.ChangeAt Go.RowKit
set_option linter.unusedVariables false
set_option linter.unusedSimpArgs false

set_option maxRecDepth 100000 in
/-- laws.FnExactLocksOf -/
theorem exLocksOf_ok (A : Option Addr) (n : Nat) (c : Nat) (es : List (Int)) (t : Int) (w0 : World) (hA : Arr w0 encInt 1 A es) (hn : (n : Int) = es.length) (hb : (n : Int) ≤ 9223372036854775807) :
    Calls Try.prog 7 #[.slice A n c, .int .i64 (t)] w0 fun e w => e = .returned (.bool true) ∧ Own w0 [] [] w := by
  have O := Own.start w0
  refine enterO (n := 71) Try.func7 rfl rfl rfl O fun a w F O => ?_
  refine c_seq fun K1 hK1 => c_region (sp F (p_assign rfl) rfl rfl fun a F => c_nil (hK1 _ _ (?_)))
  try clear hK1 K1
  refine c_seq fun K2 hK2 => c_seq fun K3 hK3 => c_region (sp F (p_move rfl) rfl rfl fun a F => sp F (p_len_l rfl Try.underlying22) rfl rfl fun a F => sp F (p_gtr rfl rfl) rfl rfl fun a F => c_nil (hK3 _ _ (?_)))
  try clear hK3 K3
  by_cases c14 : 1048576 < (n : Int)
  · have F := F.setB (d := 14) rfl (decide_eq_true c14)
    refine c_ift F rfl (c_seq fun K4 hK4 => c_region (sp F (p_assign rfl) rfl rfl fun a F => c_nil (hK4 _ _ (?_))))
    try clear hK4 K4
    refine wp_ret (r_then (ret1 F rfl rfl (?_)))
    exact ⟨rfl, O⟩
  · have F := F.setB (d := 14) rfl (decide_eq_false c14)
    refine c_iff F rfl (wp_skip (hK2 _ _ (?_)))
    try clear hK2 K2
    refine c_seq fun K4 hK4 => c_region (sp F (p_move rfl) rfl rfl fun a F => so F rfl (o_call (vs := #[.slice A n c]) F Try.en_18 rfl rfl ((toIntS_ok A n c es w (hA.keep O) (by first | omega | (simp; omega) | (simp at *; omega)) (by omega)).mono ?_)))
    rintro e w ⟨b16, N16, rfl, h16a, K⟩
    refine ⟨_, rfl, fun a F => ?_⟩
    have O : Own w0 [] [.row 3 1 (.slice (some ⟨b16, 0, none⟩) N16 N16) N16 (es.flatMap encInt)] w := O.call0 K
    clear K
    have O : Own w0 [] [.row 3 1 (.slice (some ⟨b16, 0, none⟩) N16 N16) N16 (es.flatMap encInt)] w := O
    refine sp F (p_move rfl) rfl rfl fun a F => so F rfl (o_call (vs := #[.slice (some ⟨b16, 0, none⟩) N16 N16, .int .i64 (t)]) F Try.en_29 rfl rfl ((sLocksOf_ok (some ⟨b16, 0, none⟩) N16 N16 es t w (O.arr 0 (es := es) rfl encInt_len (by decide)) (by first | omega | (simp; omega) | (simp at *; omega)) (by omega)).mono ?_))
    rintro e w ⟨P18, N18, C18, rfl, h18a, h18b, K⟩
    refine ⟨_, rfl, fun a F => ?_⟩
    have O : Own w0 [] [.row 3 1 (.slice P18 N18 C18) N18 ((LO es t).flatMap encInt), .row 3 1 (.slice (some ⟨b16, 0, none⟩) N16 N16) N16 (es.flatMap encInt)] w := O.call0 K
    clear K
    have O : Own w0 [] [.row 3 1 (.slice P18 N18 C18) N18 ((LO es t).flatMap encInt), .row 3 1 (.slice (some ⟨b16, 0, none⟩) N16 N16) N16 (es.flatMap encInt)] w := O
    refine sp F (p_assign rfl) rfl rfl fun a F => c_nil (hK4 _ _ (?_))
    try clear hK4 K4
    refine c_seq fun K5 hK5 => c_region (sp F (p_move rfl) rfl rfl fun a F => so F rfl (o_call (vs := #[.slice A n c]) F Try.en_18 rfl rfl ((toIntS_ok A n c es w (hA.keep O) (by first | omega | (simp; omega) | (simp at *; omega)) (by omega)).mono ?_)))
    rintro e w ⟨b20, N20, rfl, h20a, K⟩
    refine ⟨_, rfl, fun a F => ?_⟩
    have O : Own w0 [] [.row 3 1 (.slice (some ⟨b20, 0, none⟩) N20 N20) N20 (es.flatMap encInt), .row 3 1 (.slice P18 N18 C18) N18 ((LO es t).flatMap encInt), .row 3 1 (.slice (some ⟨b16, 0, none⟩) N16 N16) N16 (es.flatMap encInt)] w := O.call0 K
    clear K
    have O : Own w0 [] [.row 3 1 (.slice (some ⟨b20, 0, none⟩) N20 N20) N20 (es.flatMap encInt), .row 3 1 (.slice P18 N18 C18) N18 ((LO es t).flatMap encInt), .row 3 1 (.slice (some ⟨b16, 0, none⟩) N16 N16) N16 (es.flatMap encInt)] w := O
    refine sp F (p_assign rfl) rfl rfl fun a F => c_nil (hK5 _ _ (?_))
    try clear hK5 K5
    refine c_seq fun K6 hK6 => c_region (sp F (p_move rfl) rfl rfl fun a F => sp F (p_move rfl) rfl rfl fun a F => so F rfl (o_call (vs := #[.slice (some ⟨b20, 0, none⟩) N20 N20, .int .i64 (t)]) F Try.en_30 rfl rfl ((iLocksOf_ok (some ⟨b20, 0, none⟩) N20 N20 es t w (O.arr 0 (es := es) rfl encInt_len (by decide)) (by first | omega | (simp; omega) | (simp at *; omega)) (by omega)).mono ?_)))
    rintro e w ⟨P23, N23, C23, rfl, h23a, h23b, K⟩
    refine ⟨_, rfl, fun a F => ?_⟩
    have O : Own w0 [] [.row 3 1 (.slice P23 N23 C23) N23 ((LO es t).flatMap encInt), .row 3 1 (.slice (some ⟨b20, 0, none⟩) N20 N20) N20 (es.flatMap encInt), .row 3 1 (.slice P18 N18 C18) N18 ((LO es t).flatMap encInt), .row 3 1 (.slice (some ⟨b16, 0, none⟩) N16 N16) N16 (es.flatMap encInt)] w := O.call0 K
    clear K
    have O : Own w0 [] [.row 3 1 (.slice P23 N23 C23) N23 ((LO es t).flatMap encInt), .row 3 1 (.slice (some ⟨b20, 0, none⟩) N20 N20) N20 (es.flatMap encInt), .row 3 1 (.slice P18 N18 C18) N18 ((LO es t).flatMap encInt), .row 3 1 (.slice (some ⟨b16, 0, none⟩) N16 N16) N16 (es.flatMap encInt)] w := O
    refine sp F (p_assign rfl) rfl rfl fun a F => c_nil (hK6 _ _ (?_))
    try clear hK6 K6
    refine c_seq fun K7 hK7 => c_seq fun K8 hK8 => c_region (sp F (p_move rfl) rfl rfl fun a F => sp F (p_move rfl) rfl rfl fun a F => so F rfl (o_call (vs := #[.slice P23 N23 C23, .slice P18 N18 C18]) F Try.en_20 rfl rfl ((eqIntS_ok P23 N23 C23 (LO es t) P18 N18 C18 (LO es t) w (O.arr 0 (es := LO es t) rfl encInt_len (by decide)) (by first | omega | (simp; omega) | (simp at *; omega)) (by omega) (O.arr 2 (es := LO es t) rfl encInt_len (by decide)) (by first | omega | (simp; omega) | (simp at *; omega)) (by omega)).mono ?_)))
    rintro e w ⟨rfl, K⟩
    refine ⟨_, rfl, fun a F => ?_⟩
    have O : Own w0 [] [.row 3 1 (.slice P23 N23 C23) N23 ((LO es t).flatMap encInt), .row 3 1 (.slice (some ⟨b20, 0, none⟩) N20 N20) N20 (es.flatMap encInt), .row 3 1 (.slice P18 N18 C18) N18 ((LO es t).flatMap encInt), .row 3 1 (.slice (some ⟨b16, 0, none⟩) N16 N16) N16 (es.flatMap encInt)] w := O.call0 K
    clear K
    have c26 : (LO es t) = (LO es t) := by rfl
    have F := F.setB (d := 26) rfl (decide_eq_true c26)
    have O : Own w0 [] [.row 3 1 (.slice P23 N23 C23) N23 ((LO es t).flatMap encInt), .row 3 1 (.slice (some ⟨b20, 0, none⟩) N20 N20) N20 (es.flatMap encInt), .row 3 1 (.slice P18 N18 C18) N18 ((LO es t).flatMap encInt), .row 3 1 (.slice (some ⟨b16, 0, none⟩) N16 N16) N16 (es.flatMap encInt)] w := O
    refine sp F (p_not rfl) rfl rfl fun a F => c_nil (hK8 _ _ (?_))
    try clear hK8 K8
    refine c_iff F rfl (wp_skip (hK7 _ _ (?_)))
    try clear hK7 K7
    refine c_seq fun K9 hK9 => c_seq fun K10 hK10 => c_region (sp F (p_move rfl) rfl rfl fun a F => sp F (p_move rfl) rfl rfl fun a F => so F rfl (o_call (vs := #[.slice A n c]) F Try.en_18 rfl rfl ((toIntS_ok A n c es w (hA.keep O) (by first | omega | (simp; omega) | (simp at *; omega)) (by omega)).mono ?_)))
    rintro e w ⟨b30, N30, rfl, h30a, K⟩
    refine ⟨_, rfl, fun a F => ?_⟩
    have O : Own w0 [] [.row 3 1 (.slice (some ⟨b30, 0, none⟩) N30 N30) N30 (es.flatMap encInt), .row 3 1 (.slice P23 N23 C23) N23 ((LO es t).flatMap encInt), .row 3 1 (.slice (some ⟨b20, 0, none⟩) N20 N20) N20 (es.flatMap encInt), .row 3 1 (.slice P18 N18 C18) N18 ((LO es t).flatMap encInt), .row 3 1 (.slice (some ⟨b16, 0, none⟩) N16 N16) N16 (es.flatMap encInt)] w := O.call0 K
    clear K
    have O : Own w0 [] [.row 3 1 (.slice (some ⟨b30, 0, none⟩) N30 N30) N30 (es.flatMap encInt), .row 3 1 (.slice P23 N23 C23) N23 ((LO es t).flatMap encInt), .row 3 1 (.slice (some ⟨b20, 0, none⟩) N20 N20) N20 (es.flatMap encInt), .row 3 1 (.slice P18 N18 C18) N18 ((LO es t).flatMap encInt), .row 3 1 (.slice (some ⟨b16, 0, none⟩) N16 N16) N16 (es.flatMap encInt)] w := O
    refine so F rfl (o_call (vs := #[.slice (some ⟨b20, 0, none⟩) N20 N20, .slice (some ⟨b30, 0, none⟩) N30 N30]) F Try.en_20 rfl rfl ((eqIntS_ok (some ⟨b20, 0, none⟩) N20 N20 es (some ⟨b30, 0, none⟩) N30 N30 es w (O.arr 2 (es := es) rfl encInt_len (by decide)) (by first | omega | (simp; omega) | (simp at *; omega)) (by omega) (O.arr 0 (es := es) rfl encInt_len (by decide)) (by first | omega | (simp; omega) | (simp at *; omega)) (by omega)).mono ?_))
    rintro e w ⟨rfl, K⟩
    refine ⟨_, rfl, fun a F => ?_⟩
    have O : Own w0 [] [.row 3 1 (.slice (some ⟨b30, 0, none⟩) N30 N30) N30 (es.flatMap encInt), .row 3 1 (.slice P23 N23 C23) N23 ((LO es t).flatMap encInt), .row 3 1 (.slice (some ⟨b20, 0, none⟩) N20 N20) N20 (es.flatMap encInt), .row 3 1 (.slice P18 N18 C18) N18 ((LO es t).flatMap encInt), .row 3 1 (.slice (some ⟨b16, 0, none⟩) N16 N16) N16 (es.flatMap encInt)] w := O.call0 K
    clear K
    have c31 : es = es := by rfl
    have F := F.setB (d := 31) rfl (decide_eq_true c31)
    have O : Own w0 [] [.row 3 1 (.slice (some ⟨b30, 0, none⟩) N30 N30) N30 (es.flatMap encInt), .row 3 1 (.slice P23 N23 C23) N23 ((LO es t).flatMap encInt), .row 3 1 (.slice (some ⟨b20, 0, none⟩) N20 N20) N20 (es.flatMap encInt), .row 3 1 (.slice P18 N18 C18) N18 ((LO es t).flatMap encInt), .row 3 1 (.slice (some ⟨b16, 0, none⟩) N16 N16) N16 (es.flatMap encInt)] w := O
    refine sp F (p_not rfl) rfl rfl fun a F => c_nil (hK10 _ _ (?_))
    try clear hK10 K10
    refine c_iff F rfl (wp_skip (hK9 _ _ (?_)))
    try clear hK9 K9
    refine c_seq fun K11 hK11 => c_region (sp F (p_assign rfl) rfl rfl fun a F => c_nil (hK11 _ _ (?_)))
    try clear hK11 K11
    refine c_seq fun K12 hK12 => c_region (sp F (p_move rfl) rfl rfl fun a F => sp F (p_move rfl) rfl rfl fun a F => ?_)
    have O := O.pull 2 rfl
    have O : Own w0 [] [.row 3 1 (.slice (some ⟨b20, 0, none⟩) N20 N20) N20 (es.flatMap encInt), .row 3 1 (.slice (some ⟨b30, 0, none⟩) N30 N30) N30 (es.flatMap encInt), .row 3 1 (.slice P23 N23 C23) N23 ((LO es t).flatMap encInt), .row 3 1 (.slice P18 N18 C18) N18 ((LO es t).flatMap encInt), .row 3 1 (.slice (some ⟨b16, 0, none⟩) N16 N16) N16 (es.flatMap encInt)] w := O
    refine so F rfl (o_call (vs := #[.slice (some ⟨b20, 0, none⟩) N20 N20, .int .i64 (1)]) F Try.en_31 rfl rfl ((markIntS_some b20 N20 N20 es 1 w (by first | omega | (simp; omega) | (simp at *; omega)) (by omega) (by omega) (by omega) (O.hand1 rfl)).mono ?_))
    rintro e w ⟨es135, rfl, h35a, h35b, K⟩
    refine ⟨_, rfl, fun a F => ?_⟩
    have O : Own w0 [] [.row 3 1 (.slice (some ⟨b20, 0, none⟩) N20 N20) N20 (es135.flatMap encInt), .row 3 1 (.slice (some ⟨b30, 0, none⟩) N30 N30) N30 (es.flatMap encInt), .row 3 1 (.slice P23 N23 C23) N23 ((LO es t).flatMap encInt), .row 3 1 (.slice P18 N18 C18) N18 ((LO es t).flatMap encInt), .row 3 1 (.slice (some ⟨b16, 0, none⟩) N16 N16) N16 (es.flatMap encInt)] w := O.call1 K rfl
    clear K
    have O : Own w0 [] [.row 3 1 (.slice (some ⟨b20, 0, none⟩) N20 N20) N20 (es135.flatMap encInt), .row 3 1 (.slice (some ⟨b30, 0, none⟩) N30 N30) N30 (es.flatMap encInt), .row 3 1 (.slice P23 N23 C23) N23 ((LO es t).flatMap encInt), .row 3 1 (.slice P18 N18 C18) N18 ((LO es t).flatMap encInt), .row 3 1 (.slice (some ⟨b16, 0, none⟩) N16 N16) N16 (es.flatMap encInt)] w := O
    refine sp F (p_assign rfl) rfl rfl fun a F => c_nil (hK12 _ _ (?_))
    try clear hK12 K12
    refine c_seq fun K13 hK13 => c_seq fun K14 hK14 => c_region (sp F (p_move rfl) rfl rfl fun a F => sp F (p_lss rfl rfl) rfl rfl fun a F => ?_)
    have c37 : ¬ ((1 + (N20 : Int)) < 0) := by omega
    have F := F.setB (d := 37) rfl (decide_eq_false c37)
    refine sp F (p_move rfl) rfl rfl fun a F => sp F (p_move rfl) rfl rfl fun a F => sp F (p_move rfl) rfl rfl fun a F => so F rfl (o_call (vs := #[.slice P23 N23 C23, .slice P18 N18 C18]) F Try.en_20 rfl rfl ((eqIntS_ok P23 N23 C23 (LO es t) P18 N18 C18 (LO es t) w (O.arr 2 (es := LO es t) rfl encInt_len (by decide)) (by first | omega | (simp; omega) | (simp at *; omega)) (by omega) (O.arr 3 (es := LO es t) rfl encInt_len (by decide)) (by first | omega | (simp; omega) | (simp at *; omega)) (by omega)).mono ?_))
    rintro e w ⟨rfl, K⟩
    refine ⟨_, rfl, fun a F => ?_⟩
    have O : Own w0 [] [.row 3 1 (.slice (some ⟨b20, 0, none⟩) N20 N20) N20 (es135.flatMap encInt), .row 3 1 (.slice (some ⟨b30, 0, none⟩) N30 N30) N30 (es.flatMap encInt), .row 3 1 (.slice P23 N23 C23) N23 ((LO es t).flatMap encInt), .row 3 1 (.slice P18 N18 C18) N18 ((LO es t).flatMap encInt), .row 3 1 (.slice (some ⟨b16, 0, none⟩) N16 N16) N16 (es.flatMap encInt)] w := O.call0 K
    clear K
    have F := F.setB (d := 41) rfl (decide_eq_true c26)
    have O : Own w0 [] [.row 3 1 (.slice (some ⟨b20, 0, none⟩) N20 N20) N20 (es135.flatMap encInt), .row 3 1 (.slice (some ⟨b30, 0, none⟩) N30 N30) N30 (es.flatMap encInt), .row 3 1 (.slice P23 N23 C23) N23 ((LO es t).flatMap encInt), .row 3 1 (.slice P18 N18 C18) N18 ((LO es t).flatMap encInt), .row 3 1 (.slice (some ⟨b16, 0, none⟩) N16 N16) N16 (es.flatMap encInt)] w := O
    refine sp F (p_not rfl) rfl rfl fun a F => sp F (p_pick (t := false) rfl rfl) rfl rfl fun a F => c_nil (hK14 _ _ (?_))
    try clear hK14 K14
    refine c_iff F rfl (wp_skip (hK13 _ _ (?_)))
    try clear hK13 K13
    refine c_seq fun K15 hK15 => c_region (sp F (p_assign rfl) rfl rfl fun a F => c_nil (hK15 _ _ (?_)))
    try clear hK15 K15
    refine c_seq fun K16 hK16 => c_region (sp F (p_move rfl) rfl rfl fun a F => sp F (p_move rfl) rfl rfl fun a F => ?_)
    have O := O.pull 2 rfl
    have O : Own w0 [] [.row 3 1 (.slice P23 N23 C23) N23 ((LO es t).flatMap encInt), .row 3 1 (.slice (some ⟨b20, 0, none⟩) N20 N20) N20 (es135.flatMap encInt), .row 3 1 (.slice (some ⟨b30, 0, none⟩) N30 N30) N30 (es.flatMap encInt), .row 3 1 (.slice P18 N18 C18) N18 ((LO es t).flatMap encInt), .row 3 1 (.slice (some ⟨b16, 0, none⟩) N16 N16) N16 (es.flatMap encInt)] w := O
    refine so F rfl (o_call (vs := #[.slice P23 N23 C23, .int .i64 (1)]) F Try.en_31 rfl rfl ((markIntS P23 N23 C23 (LO es t) 1 w (by first | omega | (simp; omega) | (simp at *; omega)) (by omega) (by omega) (by omega) O.handR).mono ?_))
    rintro e w ⟨es146, rfl, h46a, h46b, K⟩
    refine ⟨_, rfl, fun a F => ?_⟩
    have O : Own w0 [] [.row 3 1 (.slice P23 N23 C23) N23 (es146.flatMap encInt), .row 3 1 (.slice (some ⟨b20, 0, none⟩) N20 N20) N20 (es135.flatMap encInt), .row 3 1 (.slice (some ⟨b30, 0, none⟩) N30 N30) N30 (es.flatMap encInt), .row 3 1 (.slice P18 N18 C18) N18 ((LO es t).flatMap encInt), .row 3 1 (.slice (some ⟨b16, 0, none⟩) N16 N16) N16 (es.flatMap encInt)] w := O.callR K
    clear K
    have O : Own w0 [] [.row 3 1 (.slice P23 N23 C23) N23 (es146.flatMap encInt), .row 3 1 (.slice (some ⟨b20, 0, none⟩) N20 N20) N20 (es135.flatMap encInt), .row 3 1 (.slice (some ⟨b30, 0, none⟩) N30 N30) N30 (es.flatMap encInt), .row 3 1 (.slice P18 N18 C18) N18 ((LO es t).flatMap encInt), .row 3 1 (.slice (some ⟨b16, 0, none⟩) N16 N16) N16 (es.flatMap encInt)] w := O
    refine sp F (p_assign rfl) rfl rfl fun a F => c_nil (hK16 _ _ (?_))
    try clear hK16 K16
    refine c_seq fun K17 hK17 => c_region (sp F (p_assign rfl) rfl rfl fun a F => c_nil (hK17 _ _ (?_)))
    try clear hK17 K17
    refine c_seq fun K18 hK18 => c_region (sp F (p_move rfl) rfl rfl fun a F => sp F (p_move rfl) rfl rfl fun a F => so F rfl (o_call (vs := #[.slice P23 N23 C23, .int .i64 (1)]) F Try.en_32 rfl rfl ((heldIntS_ok P23 N23 C23 es146 1 w (O.arr 0 (es := es146) rfl encInt_len (by decide)) (by first | omega | (simp; omega) | (simp at *; omega)) (by omega) (by assumption) (by omega) (by omega)).mono ?_)))
    rintro e w ⟨rfl, K⟩
    refine ⟨_, rfl, fun a F => ?_⟩
    have O : Own w0 [] [.row 3 1 (.slice P23 N23 C23) N23 (es146.flatMap encInt), .row 3 1 (.slice (some ⟨b20, 0, none⟩) N20 N20) N20 (es135.flatMap encInt), .row 3 1 (.slice (some ⟨b30, 0, none⟩) N30 N30) N30 (es.flatMap encInt), .row 3 1 (.slice P18 N18 C18) N18 ((LO es t).flatMap encInt), .row 3 1 (.slice (some ⟨b16, 0, none⟩) N16 N16) N16 (es.flatMap encInt)] w := O.call0 K
    clear K
    have O : Own w0 [] [.row 3 1 (.slice P23 N23 C23) N23 (es146.flatMap encInt), .row 3 1 (.slice (some ⟨b20, 0, none⟩) N20 N20) N20 (es135.flatMap encInt), .row 3 1 (.slice (some ⟨b30, 0, none⟩) N30 N30) N30 (es.flatMap encInt), .row 3 1 (.slice P18 N18 C18) N18 ((LO es t).flatMap encInt), .row 3 1 (.slice (some ⟨b16, 0, none⟩) N16 N16) N16 (es.flatMap encInt)] w := O
    refine sp F (p_assign rfl) rfl rfl fun a F => c_nil (hK18 _ _ (?_))
    try clear hK18 K18
    refine c_seq fun K19 hK19 => c_seq fun K20 hK20 => c_region (sp F (p_move rfl) rfl rfl fun a F => sp F (p_lss rfl rfl) rfl rfl fun a F => ?_)
    have c51 : ¬ ((1 + (N23 : Int)) < 0) := by omega
    have F := F.setB (d := 51) rfl (decide_eq_false c51)
    refine c_nil (hK20 _ _ (?_))
    try clear hK20 K20
    refine c_iff F rfl (wp_skip (hK19 _ _ (?_)))
    try clear hK19 K19
    refine c_seq fun K21 hK21 => c_seq fun K22 hK22 => c_region (sp F (p_move rfl) rfl rfl fun a F => sp F (p_move rfl) rfl rfl fun a F => sp F (p_neq rfl rfl) rfl rfl fun a F => ?_)
    have c54 : (1 + (N23 : Int)) = (1 + (N23 : Int)) := by omega
    have F := F.setB (d := 54) rfl (decide_eq_false (fun h => h c54))
    refine c_nil (hK22 _ _ (?_))
    try clear hK22 K22
    refine c_iff F rfl (wp_skip (hK21 _ _ (?_)))
    try clear hK21 K21
    refine c_seq fun K23 hK23 => c_region (sp F (p_move rfl) rfl rfl fun a F => so F rfl (o_call (vs := #[.slice A n c]) F Try.en_18 rfl rfl ((toIntS_ok A n c es w (hA.keep O) (by first | omega | (simp; omega) | (simp at *; omega)) (by omega)).mono ?_)))
    rintro e w ⟨b56, N56, rfl, h56a, K⟩
    refine ⟨_, rfl, fun a F => ?_⟩
    have O : Own w0 [] [.row 3 1 (.slice (some ⟨b56, 0, none⟩) N56 N56) N56 (es.flatMap encInt), .row 3 1 (.slice P23 N23 C23) N23 (es146.flatMap encInt), .row 3 1 (.slice (some ⟨b20, 0, none⟩) N20 N20) N20 (es135.flatMap encInt), .row 3 1 (.slice (some ⟨b30, 0, none⟩) N30 N30) N30 (es.flatMap encInt), .row 3 1 (.slice P18 N18 C18) N18 ((LO es t).flatMap encInt), .row 3 1 (.slice (some ⟨b16, 0, none⟩) N16 N16) N16 (es.flatMap encInt)] w := O.call0 K
    clear K
    have O : Own w0 [] [.row 3 1 (.slice (some ⟨b56, 0, none⟩) N56 N56) N56 (es.flatMap encInt), .row 3 1 (.slice P23 N23 C23) N23 (es146.flatMap encInt), .row 3 1 (.slice (some ⟨b20, 0, none⟩) N20 N20) N20 (es135.flatMap encInt), .row 3 1 (.slice (some ⟨b30, 0, none⟩) N30 N30) N30 (es.flatMap encInt), .row 3 1 (.slice P18 N18 C18) N18 ((LO es t).flatMap encInt), .row 3 1 (.slice (some ⟨b16, 0, none⟩) N16 N16) N16 (es.flatMap encInt)] w := O
    refine sp F (p_move rfl) rfl rfl fun a F => so F rfl (o_call (vs := #[.slice (some ⟨b56, 0, none⟩) N56 N56, .int .i64 (t)]) F Try.en_30 rfl rfl ((iLocksOf_ok (some ⟨b56, 0, none⟩) N56 N56 es t w (O.arr 0 (es := es) rfl encInt_len (by decide)) (by first | omega | (simp; omega) | (simp at *; omega)) (by omega)).mono ?_))
    rintro e w ⟨P58, N58, C58, rfl, h58a, h58b, K⟩
    refine ⟨_, rfl, fun a F => ?_⟩
    have O : Own w0 [] [.row 3 1 (.slice P58 N58 C58) N58 ((LO es t).flatMap encInt), .row 3 1 (.slice (some ⟨b56, 0, none⟩) N56 N56) N56 (es.flatMap encInt), .row 3 1 (.slice P23 N23 C23) N23 (es146.flatMap encInt), .row 3 1 (.slice (some ⟨b20, 0, none⟩) N20 N20) N20 (es135.flatMap encInt), .row 3 1 (.slice (some ⟨b30, 0, none⟩) N30 N30) N30 (es.flatMap encInt), .row 3 1 (.slice P18 N18 C18) N18 ((LO es t).flatMap encInt), .row 3 1 (.slice (some ⟨b16, 0, none⟩) N16 N16) N16 (es.flatMap encInt)] w := O.call0 K
    clear K
    have O : Own w0 [] [.row 3 1 (.slice P58 N58 C58) N58 ((LO es t).flatMap encInt), .row 3 1 (.slice (some ⟨b56, 0, none⟩) N56 N56) N56 (es.flatMap encInt), .row 3 1 (.slice P23 N23 C23) N23 (es146.flatMap encInt), .row 3 1 (.slice (some ⟨b20, 0, none⟩) N20 N20) N20 (es135.flatMap encInt), .row 3 1 (.slice (some ⟨b30, 0, none⟩) N30 N30) N30 (es.flatMap encInt), .row 3 1 (.slice P18 N18 C18) N18 ((LO es t).flatMap encInt), .row 3 1 (.slice (some ⟨b16, 0, none⟩) N16 N16) N16 (es.flatMap encInt)] w := O
    refine sp F (p_assign rfl) rfl rfl fun a F => c_nil (hK23 _ _ (?_))
    try clear hK23 K23
    refine c_seq fun K24 hK24 => c_seq fun K25 hK25 => c_region (sp F (p_move rfl) rfl rfl fun a F => sp F (p_move rfl) rfl rfl fun a F => so F rfl (o_call (vs := #[.slice P58 N58 C58, .slice P18 N18 C18]) F Try.en_20 rfl rfl ((eqIntS_ok P58 N58 C58 (LO es t) P18 N18 C18 (LO es t) w (O.arr 0 (es := LO es t) rfl encInt_len (by decide)) (by first | omega | (simp; omega) | (simp at *; omega)) (by omega) (O.arr 5 (es := LO es t) rfl encInt_len (by decide)) (by first | omega | (simp; omega) | (simp at *; omega)) (by omega)).mono ?_)))
    rintro e w ⟨rfl, K⟩
    refine ⟨_, rfl, fun a F => ?_⟩
    have O : Own w0 [] [.row 3 1 (.slice P58 N58 C58) N58 ((LO es t).flatMap encInt), .row 3 1 (.slice (some ⟨b56, 0, none⟩) N56 N56) N56 (es.flatMap encInt), .row 3 1 (.slice P23 N23 C23) N23 (es146.flatMap encInt), .row 3 1 (.slice (some ⟨b20, 0, none⟩) N20 N20) N20 (es135.flatMap encInt), .row 3 1 (.slice (some ⟨b30, 0, none⟩) N30 N30) N30 (es.flatMap encInt), .row 3 1 (.slice P18 N18 C18) N18 ((LO es t).flatMap encInt), .row 3 1 (.slice (some ⟨b16, 0, none⟩) N16 N16) N16 (es.flatMap encInt)] w := O.call0 K
    clear K
    have F := F.setB (d := 61) rfl (decide_eq_true c26)
    have O : Own w0 [] [.row 3 1 (.slice P58 N58 C58) N58 ((LO es t).flatMap encInt), .row 3 1 (.slice (some ⟨b56, 0, none⟩) N56 N56) N56 (es.flatMap encInt), .row 3 1 (.slice P23 N23 C23) N23 (es146.flatMap encInt), .row 3 1 (.slice (some ⟨b20, 0, none⟩) N20 N20) N20 (es135.flatMap encInt), .row 3 1 (.slice (some ⟨b30, 0, none⟩) N30 N30) N30 (es.flatMap encInt), .row 3 1 (.slice P18 N18 C18) N18 ((LO es t).flatMap encInt), .row 3 1 (.slice (some ⟨b16, 0, none⟩) N16 N16) N16 (es.flatMap encInt)] w := O
    refine sp F (p_not rfl) rfl rfl fun a F => c_nil (hK25 _ _ (?_))
    try clear hK25 K25
    refine c_iff F rfl (wp_skip (hK24 _ _ (?_)))
    try clear hK24 K24
    refine c_seq fun K26 hK26 => c_region (sp F (p_assign rfl) rfl rfl fun a F => c_nil (hK26 _ _ (?_)))
    try clear hK26 K26
    refine c_seq fun K27 hK27 => c_region (sp F (p_move rfl) rfl rfl fun a F => sp F (p_move rfl) rfl rfl fun a F => so F rfl (o_call (vs := #[.slice P23 N23 C23, .int .i64 (1)]) F Try.en_32 rfl rfl ((heldIntS_ok P23 N23 C23 es146 1 w (O.arr 2 (es := es146) rfl encInt_len (by decide)) (by first | omega | (simp; omega) | (simp at *; omega)) (by omega) (by assumption) (by omega) (by omega)).mono ?_)))
    rintro e w ⟨rfl, K⟩
    refine ⟨_, rfl, fun a F => ?_⟩
    have O : Own w0 [] [.row 3 1 (.slice P58 N58 C58) N58 ((LO es t).flatMap encInt), .row 3 1 (.slice (some ⟨b56, 0, none⟩) N56 N56) N56 (es.flatMap encInt), .row 3 1 (.slice P23 N23 C23) N23 (es146.flatMap encInt), .row 3 1 (.slice (some ⟨b20, 0, none⟩) N20 N20) N20 (es135.flatMap encInt), .row 3 1 (.slice (some ⟨b30, 0, none⟩) N30 N30) N30 (es.flatMap encInt), .row 3 1 (.slice P18 N18 C18) N18 ((LO es t).flatMap encInt), .row 3 1 (.slice (some ⟨b16, 0, none⟩) N16 N16) N16 (es.flatMap encInt)] w := O.call0 K
    clear K
    have O : Own w0 [] [.row 3 1 (.slice P58 N58 C58) N58 ((LO es t).flatMap encInt), .row 3 1 (.slice (some ⟨b56, 0, none⟩) N56 N56) N56 (es.flatMap encInt), .row 3 1 (.slice P23 N23 C23) N23 (es146.flatMap encInt), .row 3 1 (.slice (some ⟨b20, 0, none⟩) N20 N20) N20 (es135.flatMap encInt), .row 3 1 (.slice (some ⟨b30, 0, none⟩) N30 N30) N30 (es.flatMap encInt), .row 3 1 (.slice P18 N18 C18) N18 ((LO es t).flatMap encInt), .row 3 1 (.slice (some ⟨b16, 0, none⟩) N16 N16) N16 (es.flatMap encInt)] w := O
    refine sp F (p_assign rfl) rfl rfl fun a F => c_nil (hK27 _ _ (?_))
    try clear hK27 K27
    refine c_seq fun K28 hK28 => c_seq fun K29 hK29 => c_region (sp F (p_move rfl) rfl rfl fun a F => sp F (p_lss rfl rfl) rfl rfl fun a F => ?_)
    have F := F.setB (d := 67) rfl (decide_eq_false c51)
    refine c_nil (hK29 _ _ (?_))
    try clear hK29 K29
    refine c_iff F rfl (wp_skip (hK28 _ _ (?_)))
    try clear hK28 K28
    refine c_seq fun K30 hK30 => c_seq fun K31 hK31 => c_region (sp F (p_move rfl) rfl rfl fun a F => sp F (p_move rfl) rfl rfl fun a F => sp F (p_neq rfl rfl) rfl rfl fun a F => ?_)
    have F := F.setB (d := 70) rfl (decide_eq_false (fun h => h c54))
    refine c_nil (hK31 _ _ (?_))
    try clear hK31 K31
    refine c_iff F rfl (wp_skip (hK30 _ _ (?_)))
    try clear hK30 K30
    refine c_seq fun K32 hK32 => c_region (sp F (p_assign rfl) rfl rfl fun a F => c_nil (hK32 _ _ (?_)))
    try clear hK32 K32
    refine wp_ret (ret1 F rfl rfl (?_))
    have O : Own w0 [] [] w := (O.take 0)
    exact ⟨rfl, O⟩

set_option maxRecDepth 100000 in
theorem exLocksOf_lifted (os : Os) (started : os.Started) (H : Type) (enc : TypeId × Value → H) :
    ReturnsInHanded {} Try.checked os 7 .any (Rows.fnExactLocksOfSpec.pre6 enc Try.prog Try.f7 Rows.fnExactLocksOfRow.domain false) (Rows.fnExactLocksOfSpec.post enc Try.prog Try.f7 false true false false) := by
  have e0 : Rows.fnExactLocksOfRow.domain = [] := rfl
  rw [e0]
  refine lifted_of (C := Try.checked) Try.facts started (by kernel_rfl) Try.func7 rfl ?_ (tb := 4) (by kernel_rfl) Try.underlying4 (by kernel_rfl)
    (ChangeSpec.witness6 (enc := enc) (C := Try.checked) false ⟨#[], #[.slice none 0 0, .int .i64 0], []⟩ 8 (by kernel_rfl) (by kernel_rfl) (by kernel_rfl) (by kernel_rfl)) ?_
  · intro ds hds
    match ds, hds with
    | [_, _], _ => rfl
  intro W base args ds p hval0 hA0
  have hval : ∀ (j : Nat) t v, Try.f7.params[j]? = some t → args[j]? = some v → Value.okWide Try.prog W .any base t v := hval0
  have hA : DataW.TrodAll enc Try.prog W 0 (fun _ => true) true Try.f7.params.toList args.toList ds p := hA0
  clear hA0 hval0
  show Calls Try.prog 7 args W _
  rw [Try.params7] at hA hval
  obtain ⟨v0, v1, d0, d1, p0, p1, hargs, rfl, rfl, h0, h1⟩ := trodAll_two hA
  obtain rfl : args = #[v0, v1] := by cases args; simp_all
  obtain ⟨a, n, c, es, rfl, hArr, hn, hb⟩ := open_intsIn (hval 0 22 v0 rfl rfl) h0
  obtain ⟨t, rfl⟩ := okWide_int Try.underlying3 (hval 1 3 v1 rfl rfl)
  exact (exLocksOf_ok a n c es t W hArr hn hb).mono fun e w' h => ⟨h.1, h.2.below⟩

theorem exLocksOf_pkg : ¬ Check.packageOf Try.f7.name = "main" := by
  intro h
  have h2 := congrArg String.toList h
  simp only [Check.packageOf, Try.f7] at h2
  simp at h2

theorem exLocksOf_closed : lawFacts Try.prog 7 Try.f7 Rows.fnExactLocksOfSpec Rows.fnExactLocksOfRow = true := by kernel_rfl
theorem exLocksOf_facts : joinedFacts Try.pinned.checked.prog 7 Try.f7 Rows.fnExactLocksOfSpec Rows.fnExactLocksOfRow = true := facts_of (P := Try.prog) Try.facts exLocksOf_closed

theorem exLocksOf_wrap : Func.isWrapper Try.pinned.checked.prog Try.f7 Rows.fnExactLocksOfRow.wrapper Rows.fnExactLocksOfRow.mainSum := by
  have e1 : Rows.fnExactLocksOfRow.wrapper = false := rfl
  have e2 : Rows.fnExactLocksOfRow.mainSum = "" := rfl
  rw [e1, e2]
  exact wrapper_of Try.pinned.checked.prog Try.f7 exLocksOf_pkg

/-- The statement. -/
theorem exLocksOf_over : Rows.fnExactLocksOfRow.holds Try.pinned (OpenSpec.ofChange Rows.fnExactLocksOfSpec) :=
  OpenClaim.holds_of_wide 7 Try.f7 rfl rfl rfl rfl rfl rfl rfl ⟨rfl, rfl, rfl, rfl, rfl⟩ rfl rfl rfl rfl rfl (by kernel_rfl) Try.func7 exLocksOf_facts
    (of_decide_eq_true (by kernel_rfl)) exLocksOf_wrap
    (fun os started H enc _ => exLocksOf_lifted os started H enc)
theorem exLocksOf_holds : Rows.FnExactLocksOfSaid := exLocksOf_over
#print axioms exLocksOf_holds

end Go.Proofs.Ytilpbddeijolbaa
