/- The law FnExactRefsDiffer returns true for all arguments. No conditions. -/
import Derived.Test.YtilpbddeijolbaaRefC3
import Derived.Test.YtilpbddeijolbaaOpenS
namespace Go.Proofs.Ytilpbddeijolbaa
open Go.ChangeShapes Go.WideShapes Go.ChangeAt Go.RowKit
set_option linter.unusedVariables false
set_option linter.unusedSimpArgs false

set_option maxRecDepth 100000 in
/-- laws.FnExactRefsDiffer -/
theorem exRefsDiffer_ok (A : Option Addr) (n : Nat) (c : Nat) (es : List (Int)) (A2 : Option Addr) (n2 : Nat) (c2 : Nat) (es2 : List (Int)) (w0 : World) (hA : Arr w0 encInt 1 A es) (hn : (n : Int) = es.length) (hb : (n : Int) ≤ 9223372036854775807) (hA2 : Arr w0 encInt 1 A2 es2) (hn2 : (n2 : Int) = es2.length) (hb2 : (n2 : Int) ≤ 9223372036854775807) :
    Calls Try.prog 15 #[.slice A n c, .slice A2 n2 c2] w0 fun e w => e = .returned (.bool true) ∧ Own w0 [] [] w := by
  have O := Own.start w0
  refine enterO (n := 87) Try.func15 rfl rfl rfl O fun a w F O => ?_
  refine c_seq fun K1 hK1 => c_region (sp F (p_assign rfl) rfl rfl fun a F => c_nil (hK1 _ _ (?_)))
  try clear hK1 K1
  refine c_seq fun K2 hK2 => c_seq fun K3 hK3 => c_region (sp F (p_move rfl) rfl rfl fun a F => sp F (p_len_l rfl Try.underlying22) rfl rfl fun a F => sp F (p_gtr rfl rfl) rfl rfl fun a F => c_nil (hK3 _ _ (?_)))
  try clear hK3 K3
  by_cases c15 : 1048576 < (n : Int)
  · have F := F.setB (d := 15) rfl (decide_eq_true c15)
    refine c_ift F rfl (c_seq fun K4 hK4 => c_region (sp F (p_assign rfl) rfl rfl fun a F => c_nil (hK4 _ _ (?_))))
    try clear hK4 K4
    refine wp_ret (r_then (ret1 F rfl rfl (?_)))
    exact ⟨rfl, O⟩
  · have F := F.setB (d := 15) rfl (decide_eq_false c15)
    refine c_iff F rfl (wp_skip (hK2 _ _ (?_)))
    try clear hK2 K2
    refine c_seq fun K4 hK4 => c_seq fun K5 hK5 => c_region (sp F (p_move rfl) rfl rfl fun a F => sp F (p_len_l rfl Try.underlying22) rfl rfl fun a F => sp F (p_gtr rfl rfl) rfl rfl fun a F => c_nil (hK5 _ _ (?_)))
    try clear hK5 K5
    by_cases c18 : 1048576 < (n2 : Int)
    · have F := F.setB (d := 18) rfl (decide_eq_true c18)
      refine c_ift F rfl (c_seq fun K6 hK6 => c_region (sp F (p_assign rfl) rfl rfl fun a F => c_nil (hK6 _ _ (?_))))
      try clear hK6 K6
      refine wp_ret (r_then (ret1 F rfl rfl (?_)))
      exact ⟨rfl, O⟩
    · have F := F.setB (d := 18) rfl (decide_eq_false c18)
      refine c_iff F rfl (wp_skip (hK4 _ _ (?_)))
      try clear hK4 K4
      refine c_seq fun K6 hK6 => c_region (sp F (p_move rfl) rfl rfl fun a F => so F rfl (o_call (vs := #[.slice A n c]) F Try.en_18 rfl rfl ((toIntS_ok A n c es w (hA.keep O) (by first | omega | (simp; omega) | (simp at *; omega)) (by omega)).mono ?_)))
      rintro e w ⟨b20, N20, rfl, h20a, K⟩
      refine ⟨_, rfl, fun a F => ?_⟩
      have O : Own w0 [] [.row 3 1 (.slice (some ⟨b20, 0, none⟩) N20 N20) N20 (es.flatMap encInt)] w := O.call0 K
      clear K
      have O : Own w0 [] [.row 3 1 (.slice (some ⟨b20, 0, none⟩) N20 N20) N20 (es.flatMap encInt)] w := O
      refine sp F (p_move rfl) rfl rfl fun a F => so F rfl (o_call (vs := #[.slice A2 n2 c2]) F Try.en_18 rfl rfl ((toIntS_ok A2 n2 c2 es2 w (hA2.keep O) (by first | omega | (simp; omega) | (simp at *; omega)) (by omega)).mono ?_))
      rintro e w ⟨b22, N22, rfl, h22a, K⟩
      refine ⟨_, rfl, fun a F => ?_⟩
      have O : Own w0 [] [.row 3 1 (.slice (some ⟨b22, 0, none⟩) N22 N22) N22 (es2.flatMap encInt), .row 3 1 (.slice (some ⟨b20, 0, none⟩) N20 N20) N20 (es.flatMap encInt)] w := O.call0 K
      clear K
      have O : Own w0 [] [.row 3 1 (.slice (some ⟨b22, 0, none⟩) N22 N22) N22 (es2.flatMap encInt), .row 3 1 (.slice (some ⟨b20, 0, none⟩) N20 N20) N20 (es.flatMap encInt)] w := O
      refine so F rfl (o_call (vs := #[.slice (some ⟨b20, 0, none⟩) N20 N20, .slice (some ⟨b22, 0, none⟩) N22 N22]) F Try.en_42 rfl rfl ((sRefsDiffer_ok (some ⟨b20, 0, none⟩) N20 N20 es (some ⟨b22, 0, none⟩) N22 N22 es2 w (O.arr 1 (es := es) rfl encInt_len (by decide)) (by first | omega | (simp; omega) | (simp at *; omega)) (by omega) (O.arr 0 (es := es2) rfl encInt_len (by decide)) (by first | omega | (simp; omega) | (simp at *; omega)) (by omega)).mono ?_))
      rintro e w ⟨P23, N23, C23, rfl, h23a, h23b, K⟩
      refine ⟨_, rfl, fun a F => ?_⟩
      have O : Own w0 [] [.row 51 3 (.slice P23 N23 C23) N23 ((RD es es2).flatMap encUp), .row 3 1 (.slice (some ⟨b22, 0, none⟩) N22 N22) N22 (es2.flatMap encInt), .row 3 1 (.slice (some ⟨b20, 0, none⟩) N20 N20) N20 (es.flatMap encInt)] w := O.call0 K
      clear K
      have O : Own w0 [] [.row 51 3 (.slice P23 N23 C23) N23 ((RD es es2).flatMap encUp), .row 3 1 (.slice (some ⟨b22, 0, none⟩) N22 N22) N22 (es2.flatMap encInt), .row 3 1 (.slice (some ⟨b20, 0, none⟩) N20 N20) N20 (es.flatMap encInt)] w := O
      refine sp F (p_assign rfl) rfl rfl fun a F => c_nil (hK6 _ _ (?_))
      try clear hK6 K6
      refine c_seq fun K7 hK7 => c_region (sp F (p_move rfl) rfl rfl fun a F => so F rfl (o_call (vs := #[.slice A n c]) F Try.en_18 rfl rfl ((toIntS_ok A n c es w (hA.keep O) (by first | omega | (simp; omega) | (simp at *; omega)) (by omega)).mono ?_)))
      rintro e w ⟨b25, N25, rfl, h25a, K⟩
      refine ⟨_, rfl, fun a F => ?_⟩
      have O : Own w0 [] [.row 3 1 (.slice (some ⟨b25, 0, none⟩) N25 N25) N25 (es.flatMap encInt), .row 51 3 (.slice P23 N23 C23) N23 ((RD es es2).flatMap encUp), .row 3 1 (.slice (some ⟨b22, 0, none⟩) N22 N22) N22 (es2.flatMap encInt), .row 3 1 (.slice (some ⟨b20, 0, none⟩) N20 N20) N20 (es.flatMap encInt)] w := O.call0 K
      clear K
      have O : Own w0 [] [.row 3 1 (.slice (some ⟨b25, 0, none⟩) N25 N25) N25 (es.flatMap encInt), .row 51 3 (.slice P23 N23 C23) N23 ((RD es es2).flatMap encUp), .row 3 1 (.slice (some ⟨b22, 0, none⟩) N22 N22) N22 (es2.flatMap encInt), .row 3 1 (.slice (some ⟨b20, 0, none⟩) N20 N20) N20 (es.flatMap encInt)] w := O
      refine sp F (p_assign rfl) rfl rfl fun a F => c_nil (hK7 _ _ (?_))
      try clear hK7 K7
      refine c_seq fun K8 hK8 => c_region (sp F (p_move rfl) rfl rfl fun a F => so F rfl (o_call (vs := #[.slice A2 n2 c2]) F Try.en_18 rfl rfl ((toIntS_ok A2 n2 c2 es2 w (hA2.keep O) (by first | omega | (simp; omega) | (simp at *; omega)) (by omega)).mono ?_)))
      rintro e w ⟨b27, N27, rfl, h27a, K⟩
      refine ⟨_, rfl, fun a F => ?_⟩
      have O : Own w0 [] [.row 3 1 (.slice (some ⟨b27, 0, none⟩) N27 N27) N27 (es2.flatMap encInt), .row 3 1 (.slice (some ⟨b25, 0, none⟩) N25 N25) N25 (es.flatMap encInt), .row 51 3 (.slice P23 N23 C23) N23 ((RD es es2).flatMap encUp), .row 3 1 (.slice (some ⟨b22, 0, none⟩) N22 N22) N22 (es2.flatMap encInt), .row 3 1 (.slice (some ⟨b20, 0, none⟩) N20 N20) N20 (es.flatMap encInt)] w := O.call0 K
      clear K
      have O : Own w0 [] [.row 3 1 (.slice (some ⟨b27, 0, none⟩) N27 N27) N27 (es2.flatMap encInt), .row 3 1 (.slice (some ⟨b25, 0, none⟩) N25 N25) N25 (es.flatMap encInt), .row 51 3 (.slice P23 N23 C23) N23 ((RD es es2).flatMap encUp), .row 3 1 (.slice (some ⟨b22, 0, none⟩) N22 N22) N22 (es2.flatMap encInt), .row 3 1 (.slice (some ⟨b20, 0, none⟩) N20 N20) N20 (es.flatMap encInt)] w := O
      refine sp F (p_assign rfl) rfl rfl fun a F => c_nil (hK8 _ _ (?_))
      try clear hK8 K8
      refine c_seq fun K9 hK9 => c_region (sp F (p_move rfl) rfl rfl fun a F => sp F (p_move rfl) rfl rfl fun a F => so F rfl (o_call (vs := #[.slice (some ⟨b25, 0, none⟩) N25 N25, .slice (some ⟨b27, 0, none⟩) N27 N27]) F Try.en_41 rfl rfl ((iRefsDiffer_ok (some ⟨b25, 0, none⟩) N25 N25 es (some ⟨b27, 0, none⟩) N27 N27 es2 w (O.arr 1 (es := es) rfl encInt_len (by decide)) (by first | omega | (simp; omega) | (simp at *; omega)) (by omega) (O.arr 0 (es := es2) rfl encInt_len (by decide)) (by first | omega | (simp; omega) | (simp at *; omega)) (by omega)).mono ?_)))
      rintro e w ⟨P30, N30, C30, rfl, h30a, h30b, K⟩
      refine ⟨_, rfl, fun a F => ?_⟩
      have O : Own w0 [] [.row 51 3 (.slice P30 N30 C30) N30 ((RD es es2).flatMap encUp), .row 3 1 (.slice (some ⟨b27, 0, none⟩) N27 N27) N27 (es2.flatMap encInt), .row 3 1 (.slice (some ⟨b25, 0, none⟩) N25 N25) N25 (es.flatMap encInt), .row 51 3 (.slice P23 N23 C23) N23 ((RD es es2).flatMap encUp), .row 3 1 (.slice (some ⟨b22, 0, none⟩) N22 N22) N22 (es2.flatMap encInt), .row 3 1 (.slice (some ⟨b20, 0, none⟩) N20 N20) N20 (es.flatMap encInt)] w := O.call0 K
      clear K
      have O : Own w0 [] [.row 51 3 (.slice P30 N30 C30) N30 ((RD es es2).flatMap encUp), .row 3 1 (.slice (some ⟨b27, 0, none⟩) N27 N27) N27 (es2.flatMap encInt), .row 3 1 (.slice (some ⟨b25, 0, none⟩) N25 N25) N25 (es.flatMap encInt), .row 51 3 (.slice P23 N23 C23) N23 ((RD es es2).flatMap encUp), .row 3 1 (.slice (some ⟨b22, 0, none⟩) N22 N22) N22 (es2.flatMap encInt), .row 3 1 (.slice (some ⟨b20, 0, none⟩) N20 N20) N20 (es.flatMap encInt)] w := O
      refine sp F (p_assign rfl) rfl rfl fun a F => c_nil (hK9 _ _ (?_))
      try clear hK9 K9
      refine c_seq fun K10 hK10 => c_seq fun K11 hK11 => c_region (sp F (p_move rfl) rfl rfl fun a F => sp F (p_move rfl) rfl rfl fun a F => so F rfl (o_call (vs := #[.slice P30 N30 C30, .slice P23 N23 C23]) F Try.en_28 rfl rfl ((eqUpdateS_ok P30 N30 C30 (RD es es2) P23 N23 C23 (RD es es2) w (O.arr 0 (es := RD es es2) rfl encUp_len (by decide)) (by first | omega | (simp; omega) | (simp at *; omega)) (by omega) (O.arr 3 (es := RD es es2) rfl encUp_len (by decide)) (by first | omega | (simp; omega) | (simp at *; omega)) (by omega)).mono ?_)))
      rintro e w ⟨rfl, K⟩
      refine ⟨_, rfl, fun a F => ?_⟩
      have O : Own w0 [] [.row 51 3 (.slice P30 N30 C30) N30 ((RD es es2).flatMap encUp), .row 3 1 (.slice (some ⟨b27, 0, none⟩) N27 N27) N27 (es2.flatMap encInt), .row 3 1 (.slice (some ⟨b25, 0, none⟩) N25 N25) N25 (es.flatMap encInt), .row 51 3 (.slice P23 N23 C23) N23 ((RD es es2).flatMap encUp), .row 3 1 (.slice (some ⟨b22, 0, none⟩) N22 N22) N22 (es2.flatMap encInt), .row 3 1 (.slice (some ⟨b20, 0, none⟩) N20 N20) N20 (es.flatMap encInt)] w := O.call0 K
      clear K
      have c33 : (RD es es2) = (RD es es2) := by rfl
      have F := F.setB (d := 33) rfl (decide_eq_true c33)
      have O : Own w0 [] [.row 51 3 (.slice P30 N30 C30) N30 ((RD es es2).flatMap encUp), .row 3 1 (.slice (some ⟨b27, 0, none⟩) N27 N27) N27 (es2.flatMap encInt), .row 3 1 (.slice (some ⟨b25, 0, none⟩) N25 N25) N25 (es.flatMap encInt), .row 51 3 (.slice P23 N23 C23) N23 ((RD es es2).flatMap encUp), .row 3 1 (.slice (some ⟨b22, 0, none⟩) N22 N22) N22 (es2.flatMap encInt), .row 3 1 (.slice (some ⟨b20, 0, none⟩) N20 N20) N20 (es.flatMap encInt)] w := O
      refine sp F (p_not rfl) rfl rfl fun a F => c_nil (hK11 _ _ (?_))
      try clear hK11 K11
      refine c_iff F rfl (wp_skip (hK10 _ _ (?_)))
      try clear hK10 K10
      refine c_seq fun K12 hK12 => c_seq fun K13 hK13 => c_region (sp F (p_move rfl) rfl rfl fun a F => sp F (p_move rfl) rfl rfl fun a F => so F rfl (o_call (vs := #[.slice A n c]) F Try.en_18 rfl rfl ((toIntS_ok A n c es w (hA.keep O) (by first | omega | (simp; omega) | (simp at *; omega)) (by omega)).mono ?_)))
      rintro e w ⟨b37, N37, rfl, h37a, K⟩
      refine ⟨_, rfl, fun a F => ?_⟩
      have O : Own w0 [] [.row 3 1 (.slice (some ⟨b37, 0, none⟩) N37 N37) N37 (es.flatMap encInt), .row 51 3 (.slice P30 N30 C30) N30 ((RD es es2).flatMap encUp), .row 3 1 (.slice (some ⟨b27, 0, none⟩) N27 N27) N27 (es2.flatMap encInt), .row 3 1 (.slice (some ⟨b25, 0, none⟩) N25 N25) N25 (es.flatMap encInt), .row 51 3 (.slice P23 N23 C23) N23 ((RD es es2).flatMap encUp), .row 3 1 (.slice (some ⟨b22, 0, none⟩) N22 N22) N22 (es2.flatMap encInt), .row 3 1 (.slice (some ⟨b20, 0, none⟩) N20 N20) N20 (es.flatMap encInt)] w := O.call0 K
      clear K
      have O : Own w0 [] [.row 3 1 (.slice (some ⟨b37, 0, none⟩) N37 N37) N37 (es.flatMap encInt), .row 51 3 (.slice P30 N30 C30) N30 ((RD es es2).flatMap encUp), .row 3 1 (.slice (some ⟨b27, 0, none⟩) N27 N27) N27 (es2.flatMap encInt), .row 3 1 (.slice (some ⟨b25, 0, none⟩) N25 N25) N25 (es.flatMap encInt), .row 51 3 (.slice P23 N23 C23) N23 ((RD es es2).flatMap encUp), .row 3 1 (.slice (some ⟨b22, 0, none⟩) N22 N22) N22 (es2.flatMap encInt), .row 3 1 (.slice (some ⟨b20, 0, none⟩) N20 N20) N20 (es.flatMap encInt)] w := O
      refine so F rfl (o_call (vs := #[.slice (some ⟨b25, 0, none⟩) N25 N25, .slice (some ⟨b37, 0, none⟩) N37 N37]) F Try.en_20 rfl rfl ((eqIntS_ok (some ⟨b25, 0, none⟩) N25 N25 es (some ⟨b37, 0, none⟩) N37 N37 es w (O.arr 3 (es := es) rfl encInt_len (by decide)) (by first | omega | (simp; omega) | (simp at *; omega)) (by omega) (O.arr 0 (es := es) rfl encInt_len (by decide)) (by first | omega | (simp; omega) | (simp at *; omega)) (by omega)).mono ?_))
      rintro e w ⟨rfl, K⟩
      refine ⟨_, rfl, fun a F => ?_⟩
      have O : Own w0 [] [.row 3 1 (.slice (some ⟨b37, 0, none⟩) N37 N37) N37 (es.flatMap encInt), .row 51 3 (.slice P30 N30 C30) N30 ((RD es es2).flatMap encUp), .row 3 1 (.slice (some ⟨b27, 0, none⟩) N27 N27) N27 (es2.flatMap encInt), .row 3 1 (.slice (some ⟨b25, 0, none⟩) N25 N25) N25 (es.flatMap encInt), .row 51 3 (.slice P23 N23 C23) N23 ((RD es es2).flatMap encUp), .row 3 1 (.slice (some ⟨b22, 0, none⟩) N22 N22) N22 (es2.flatMap encInt), .row 3 1 (.slice (some ⟨b20, 0, none⟩) N20 N20) N20 (es.flatMap encInt)] w := O.call0 K
      clear K
      have c38 : es = es := by rfl
      have F := F.setB (d := 38) rfl (decide_eq_true c38)
      have O : Own w0 [] [.row 3 1 (.slice (some ⟨b37, 0, none⟩) N37 N37) N37 (es.flatMap encInt), .row 51 3 (.slice P30 N30 C30) N30 ((RD es es2).flatMap encUp), .row 3 1 (.slice (some ⟨b27, 0, none⟩) N27 N27) N27 (es2.flatMap encInt), .row 3 1 (.slice (some ⟨b25, 0, none⟩) N25 N25) N25 (es.flatMap encInt), .row 51 3 (.slice P23 N23 C23) N23 ((RD es es2).flatMap encUp), .row 3 1 (.slice (some ⟨b22, 0, none⟩) N22 N22) N22 (es2.flatMap encInt), .row 3 1 (.slice (some ⟨b20, 0, none⟩) N20 N20) N20 (es.flatMap encInt)] w := O
      refine sp F (p_not rfl) rfl rfl fun a F => c_nil (hK13 _ _ (?_))
      try clear hK13 K13
      refine c_iff F rfl (wp_skip (hK12 _ _ (?_)))
      try clear hK12 K12
      refine c_seq fun K14 hK14 => c_seq fun K15 hK15 => c_region (sp F (p_move rfl) rfl rfl fun a F => sp F (p_move rfl) rfl rfl fun a F => so F rfl (o_call (vs := #[.slice A2 n2 c2]) F Try.en_18 rfl rfl ((toIntS_ok A2 n2 c2 es2 w (hA2.keep O) (by first | omega | (simp; omega) | (simp at *; omega)) (by omega)).mono ?_)))
      rintro e w ⟨b42, N42, rfl, h42a, K⟩
      refine ⟨_, rfl, fun a F => ?_⟩
      have O : Own w0 [] [.row 3 1 (.slice (some ⟨b42, 0, none⟩) N42 N42) N42 (es2.flatMap encInt), .row 3 1 (.slice (some ⟨b37, 0, none⟩) N37 N37) N37 (es.flatMap encInt), .row 51 3 (.slice P30 N30 C30) N30 ((RD es es2).flatMap encUp), .row 3 1 (.slice (some ⟨b27, 0, none⟩) N27 N27) N27 (es2.flatMap encInt), .row 3 1 (.slice (some ⟨b25, 0, none⟩) N25 N25) N25 (es.flatMap encInt), .row 51 3 (.slice P23 N23 C23) N23 ((RD es es2).flatMap encUp), .row 3 1 (.slice (some ⟨b22, 0, none⟩) N22 N22) N22 (es2.flatMap encInt), .row 3 1 (.slice (some ⟨b20, 0, none⟩) N20 N20) N20 (es.flatMap encInt)] w := O.call0 K
      clear K
      have O : Own w0 [] [.row 3 1 (.slice (some ⟨b42, 0, none⟩) N42 N42) N42 (es2.flatMap encInt), .row 3 1 (.slice (some ⟨b37, 0, none⟩) N37 N37) N37 (es.flatMap encInt), .row 51 3 (.slice P30 N30 C30) N30 ((RD es es2).flatMap encUp), .row 3 1 (.slice (some ⟨b27, 0, none⟩) N27 N27) N27 (es2.flatMap encInt), .row 3 1 (.slice (some ⟨b25, 0, none⟩) N25 N25) N25 (es.flatMap encInt), .row 51 3 (.slice P23 N23 C23) N23 ((RD es es2).flatMap encUp), .row 3 1 (.slice (some ⟨b22, 0, none⟩) N22 N22) N22 (es2.flatMap encInt), .row 3 1 (.slice (some ⟨b20, 0, none⟩) N20 N20) N20 (es.flatMap encInt)] w := O
      refine so F rfl (o_call (vs := #[.slice (some ⟨b27, 0, none⟩) N27 N27, .slice (some ⟨b42, 0, none⟩) N42 N42]) F Try.en_20 rfl rfl ((eqIntS_ok (some ⟨b27, 0, none⟩) N27 N27 es2 (some ⟨b42, 0, none⟩) N42 N42 es2 w (O.arr 3 (es := es2) rfl encInt_len (by decide)) (by first | omega | (simp; omega) | (simp at *; omega)) (by omega) (O.arr 0 (es := es2) rfl encInt_len (by decide)) (by first | omega | (simp; omega) | (simp at *; omega)) (by omega)).mono ?_))
      rintro e w ⟨rfl, K⟩
      refine ⟨_, rfl, fun a F => ?_⟩
      have O : Own w0 [] [.row 3 1 (.slice (some ⟨b42, 0, none⟩) N42 N42) N42 (es2.flatMap encInt), .row 3 1 (.slice (some ⟨b37, 0, none⟩) N37 N37) N37 (es.flatMap encInt), .row 51 3 (.slice P30 N30 C30) N30 ((RD es es2).flatMap encUp), .row 3 1 (.slice (some ⟨b27, 0, none⟩) N27 N27) N27 (es2.flatMap encInt), .row 3 1 (.slice (some ⟨b25, 0, none⟩) N25 N25) N25 (es.flatMap encInt), .row 51 3 (.slice P23 N23 C23) N23 ((RD es es2).flatMap encUp), .row 3 1 (.slice (some ⟨b22, 0, none⟩) N22 N22) N22 (es2.flatMap encInt), .row 3 1 (.slice (some ⟨b20, 0, none⟩) N20 N20) N20 (es.flatMap encInt)] w := O.call0 K
      clear K
      have c43 : es2 = es2 := by rfl
      have F := F.setB (d := 43) rfl (decide_eq_true c43)
      have O : Own w0 [] [.row 3 1 (.slice (some ⟨b42, 0, none⟩) N42 N42) N42 (es2.flatMap encInt), .row 3 1 (.slice (some ⟨b37, 0, none⟩) N37 N37) N37 (es.flatMap encInt), .row 51 3 (.slice P30 N30 C30) N30 ((RD es es2).flatMap encUp), .row 3 1 (.slice (some ⟨b27, 0, none⟩) N27 N27) N27 (es2.flatMap encInt), .row 3 1 (.slice (some ⟨b25, 0, none⟩) N25 N25) N25 (es.flatMap encInt), .row 51 3 (.slice P23 N23 C23) N23 ((RD es es2).flatMap encUp), .row 3 1 (.slice (some ⟨b22, 0, none⟩) N22 N22) N22 (es2.flatMap encInt), .row 3 1 (.slice (some ⟨b20, 0, none⟩) N20 N20) N20 (es.flatMap encInt)] w := O
      refine sp F (p_not rfl) rfl rfl fun a F => c_nil (hK15 _ _ (?_))
      try clear hK15 K15
      refine c_iff F rfl (wp_skip (hK14 _ _ (?_)))
      try clear hK14 K14
      refine c_seq fun K16 hK16 => c_region (sp F (p_assign rfl) rfl rfl fun a F => c_nil (hK16 _ _ (?_)))
      try clear hK16 K16
      refine c_seq fun K17 hK17 => c_region (sp F (p_move rfl) rfl rfl fun a F => sp F (p_move rfl) rfl rfl fun a F => ?_)
      have O := O.pull 4 rfl
      have O : Own w0 [] [.row 3 1 (.slice (some ⟨b25, 0, none⟩) N25 N25) N25 (es.flatMap encInt), .row 3 1 (.slice (some ⟨b42, 0, none⟩) N42 N42) N42 (es2.flatMap encInt), .row 3 1 (.slice (some ⟨b37, 0, none⟩) N37 N37) N37 (es.flatMap encInt), .row 51 3 (.slice P30 N30 C30) N30 ((RD es es2).flatMap encUp), .row 3 1 (.slice (some ⟨b27, 0, none⟩) N27 N27) N27 (es2.flatMap encInt), .row 51 3 (.slice P23 N23 C23) N23 ((RD es es2).flatMap encUp), .row 3 1 (.slice (some ⟨b22, 0, none⟩) N22 N22) N22 (es2.flatMap encInt), .row 3 1 (.slice (some ⟨b20, 0, none⟩) N20 N20) N20 (es.flatMap encInt)] w := O
      refine so F rfl (o_call (vs := #[.slice (some ⟨b25, 0, none⟩) N25 N25, .int .i64 (1)]) F Try.en_31 rfl rfl ((markIntS_some b25 N25 N25 es 1 w (by first | omega | (simp; omega) | (simp at *; omega)) (by omega) (by omega) (by omega) (O.hand1 rfl)).mono ?_))
      rintro e w ⟨es147, rfl, h47a, h47b, K⟩
      refine ⟨_, rfl, fun a F => ?_⟩
      have O : Own w0 [] [.row 3 1 (.slice (some ⟨b25, 0, none⟩) N25 N25) N25 (es147.flatMap encInt), .row 3 1 (.slice (some ⟨b42, 0, none⟩) N42 N42) N42 (es2.flatMap encInt), .row 3 1 (.slice (some ⟨b37, 0, none⟩) N37 N37) N37 (es.flatMap encInt), .row 51 3 (.slice P30 N30 C30) N30 ((RD es es2).flatMap encUp), .row 3 1 (.slice (some ⟨b27, 0, none⟩) N27 N27) N27 (es2.flatMap encInt), .row 51 3 (.slice P23 N23 C23) N23 ((RD es es2).flatMap encUp), .row 3 1 (.slice (some ⟨b22, 0, none⟩) N22 N22) N22 (es2.flatMap encInt), .row 3 1 (.slice (some ⟨b20, 0, none⟩) N20 N20) N20 (es.flatMap encInt)] w := O.call1 K rfl
      clear K
      have O : Own w0 [] [.row 3 1 (.slice (some ⟨b25, 0, none⟩) N25 N25) N25 (es147.flatMap encInt), .row 3 1 (.slice (some ⟨b42, 0, none⟩) N42 N42) N42 (es2.flatMap encInt), .row 3 1 (.slice (some ⟨b37, 0, none⟩) N37 N37) N37 (es.flatMap encInt), .row 51 3 (.slice P30 N30 C30) N30 ((RD es es2).flatMap encUp), .row 3 1 (.slice (some ⟨b27, 0, none⟩) N27 N27) N27 (es2.flatMap encInt), .row 51 3 (.slice P23 N23 C23) N23 ((RD es es2).flatMap encUp), .row 3 1 (.slice (some ⟨b22, 0, none⟩) N22 N22) N22 (es2.flatMap encInt), .row 3 1 (.slice (some ⟨b20, 0, none⟩) N20 N20) N20 (es.flatMap encInt)] w := O
      refine sp F (p_assign rfl) rfl rfl fun a F => c_nil (hK17 _ _ (?_))
      try clear hK17 K17
      refine c_seq fun K18 hK18 => c_region (sp F (p_move rfl) rfl rfl fun a F => sp F (p_move rfl) rfl rfl fun a F => ?_)
      have O := O.pull 4 rfl
      have O : Own w0 [] [.row 3 1 (.slice (some ⟨b27, 0, none⟩) N27 N27) N27 (es2.flatMap encInt), .row 3 1 (.slice (some ⟨b25, 0, none⟩) N25 N25) N25 (es147.flatMap encInt), .row 3 1 (.slice (some ⟨b42, 0, none⟩) N42 N42) N42 (es2.flatMap encInt), .row 3 1 (.slice (some ⟨b37, 0, none⟩) N37 N37) N37 (es.flatMap encInt), .row 51 3 (.slice P30 N30 C30) N30 ((RD es es2).flatMap encUp), .row 51 3 (.slice P23 N23 C23) N23 ((RD es es2).flatMap encUp), .row 3 1 (.slice (some ⟨b22, 0, none⟩) N22 N22) N22 (es2.flatMap encInt), .row 3 1 (.slice (some ⟨b20, 0, none⟩) N20 N20) N20 (es.flatMap encInt)] w := O
      refine so F rfl (o_call (vs := #[.slice (some ⟨b27, 0, none⟩) N27 N27, .int .i64 (1 + (N25 : Int))]) F Try.en_31 rfl rfl ((markIntS_some b27 N27 N27 es2 (1 + (N25 : Int)) w (by first | omega | (simp; omega) | (simp at *; omega)) (by omega) (by omega) (by omega) (O.hand1 rfl)).mono ?_))
      rintro e w ⟨es150, rfl, h50a, h50b, K⟩
      refine ⟨_, rfl, fun a F => ?_⟩
      have O : Own w0 [] [.row 3 1 (.slice (some ⟨b27, 0, none⟩) N27 N27) N27 (es150.flatMap encInt), .row 3 1 (.slice (some ⟨b25, 0, none⟩) N25 N25) N25 (es147.flatMap encInt), .row 3 1 (.slice (some ⟨b42, 0, none⟩) N42 N42) N42 (es2.flatMap encInt), .row 3 1 (.slice (some ⟨b37, 0, none⟩) N37 N37) N37 (es.flatMap encInt), .row 51 3 (.slice P30 N30 C30) N30 ((RD es es2).flatMap encUp), .row 51 3 (.slice P23 N23 C23) N23 ((RD es es2).flatMap encUp), .row 3 1 (.slice (some ⟨b22, 0, none⟩) N22 N22) N22 (es2.flatMap encInt), .row 3 1 (.slice (some ⟨b20, 0, none⟩) N20 N20) N20 (es.flatMap encInt)] w := O.call1 K rfl
      clear K
      have O : Own w0 [] [.row 3 1 (.slice (some ⟨b27, 0, none⟩) N27 N27) N27 (es150.flatMap encInt), .row 3 1 (.slice (some ⟨b25, 0, none⟩) N25 N25) N25 (es147.flatMap encInt), .row 3 1 (.slice (some ⟨b42, 0, none⟩) N42 N42) N42 (es2.flatMap encInt), .row 3 1 (.slice (some ⟨b37, 0, none⟩) N37 N37) N37 (es.flatMap encInt), .row 51 3 (.slice P30 N30 C30) N30 ((RD es es2).flatMap encUp), .row 51 3 (.slice P23 N23 C23) N23 ((RD es es2).flatMap encUp), .row 3 1 (.slice (some ⟨b22, 0, none⟩) N22 N22) N22 (es2.flatMap encInt), .row 3 1 (.slice (some ⟨b20, 0, none⟩) N20 N20) N20 (es.flatMap encInt)] w := O
      refine sp F (p_assign rfl) rfl rfl fun a F => c_nil (hK18 _ _ (?_))
      try clear hK18 K18
      refine c_seq fun K19 hK19 => c_seq fun K20 hK20 => c_region (sp F (p_move rfl) rfl rfl fun a F => sp F (p_lss rfl rfl) rfl rfl fun a F => ?_)
      have c52 : ¬ (((1 + (N25 : Int)) + (N27 : Int)) < 0) := by omega
      have F := F.setB (d := 52) rfl (decide_eq_false c52)
      refine sp F (p_move rfl) rfl rfl fun a F => sp F (p_move rfl) rfl rfl fun a F => sp F (p_move rfl) rfl rfl fun a F => so F rfl (o_call (vs := #[.slice P30 N30 C30, .slice P23 N23 C23]) F Try.en_28 rfl rfl ((eqUpdateS_ok P30 N30 C30 (RD es es2) P23 N23 C23 (RD es es2) w (O.arr 4 (es := RD es es2) rfl encUp_len (by decide)) (by first | omega | (simp; omega) | (simp at *; omega)) (by omega) (O.arr 5 (es := RD es es2) rfl encUp_len (by decide)) (by first | omega | (simp; omega) | (simp at *; omega)) (by omega)).mono ?_))
      rintro e w ⟨rfl, K⟩
      refine ⟨_, rfl, fun a F => ?_⟩
      have O : Own w0 [] [.row 3 1 (.slice (some ⟨b27, 0, none⟩) N27 N27) N27 (es150.flatMap encInt), .row 3 1 (.slice (some ⟨b25, 0, none⟩) N25 N25) N25 (es147.flatMap encInt), .row 3 1 (.slice (some ⟨b42, 0, none⟩) N42 N42) N42 (es2.flatMap encInt), .row 3 1 (.slice (some ⟨b37, 0, none⟩) N37 N37) N37 (es.flatMap encInt), .row 51 3 (.slice P30 N30 C30) N30 ((RD es es2).flatMap encUp), .row 51 3 (.slice P23 N23 C23) N23 ((RD es es2).flatMap encUp), .row 3 1 (.slice (some ⟨b22, 0, none⟩) N22 N22) N22 (es2.flatMap encInt), .row 3 1 (.slice (some ⟨b20, 0, none⟩) N20 N20) N20 (es.flatMap encInt)] w := O.call0 K
      clear K
      have F := F.setB (d := 56) rfl (decide_eq_true c33)
      have O : Own w0 [] [.row 3 1 (.slice (some ⟨b27, 0, none⟩) N27 N27) N27 (es150.flatMap encInt), .row 3 1 (.slice (some ⟨b25, 0, none⟩) N25 N25) N25 (es147.flatMap encInt), .row 3 1 (.slice (some ⟨b42, 0, none⟩) N42 N42) N42 (es2.flatMap encInt), .row 3 1 (.slice (some ⟨b37, 0, none⟩) N37 N37) N37 (es.flatMap encInt), .row 51 3 (.slice P30 N30 C30) N30 ((RD es es2).flatMap encUp), .row 51 3 (.slice P23 N23 C23) N23 ((RD es es2).flatMap encUp), .row 3 1 (.slice (some ⟨b22, 0, none⟩) N22 N22) N22 (es2.flatMap encInt), .row 3 1 (.slice (some ⟨b20, 0, none⟩) N20 N20) N20 (es.flatMap encInt)] w := O
      refine sp F (p_not rfl) rfl rfl fun a F => sp F (p_pick (t := false) rfl rfl) rfl rfl fun a F => c_nil (hK20 _ _ (?_))
      try clear hK20 K20
      refine c_iff F rfl (wp_skip (hK19 _ _ (?_)))
      try clear hK19 K19
      refine c_seq fun K21 hK21 => c_region (sp F (p_assign rfl) rfl rfl fun a F => c_nil (hK21 _ _ (?_)))
      try clear hK21 K21
      refine c_seq fun K22 hK22 => c_region (sp F (p_move rfl) rfl rfl fun a F => sp F (p_move rfl) rfl rfl fun a F => ?_)
      have O := O.pull 4 rfl
      have O : Own w0 [] [.row 51 3 (.slice P30 N30 C30) N30 ((RD es es2).flatMap encUp), .row 3 1 (.slice (some ⟨b27, 0, none⟩) N27 N27) N27 (es150.flatMap encInt), .row 3 1 (.slice (some ⟨b25, 0, none⟩) N25 N25) N25 (es147.flatMap encInt), .row 3 1 (.slice (some ⟨b42, 0, none⟩) N42 N42) N42 (es2.flatMap encInt), .row 3 1 (.slice (some ⟨b37, 0, none⟩) N37 N37) N37 (es.flatMap encInt), .row 51 3 (.slice P23 N23 C23) N23 ((RD es es2).flatMap encUp), .row 3 1 (.slice (some ⟨b22, 0, none⟩) N22 N22) N22 (es2.flatMap encInt), .row 3 1 (.slice (some ⟨b20, 0, none⟩) N20 N20) N20 (es.flatMap encInt)] w := O
      refine so F rfl (o_call (vs := #[.slice P30 N30 C30, .int .i64 (1)]) F Try.en_47 rfl rfl ((markUpdateS P30 N30 C30 (RD es es2) 1 w (by first | omega | (simp; omega) | (simp at *; omega)) (by omega) (by omega) (by omega) O.handR).mono ?_))
      rintro e w ⟨es161, rfl, h61a, h61b, K⟩
      refine ⟨_, rfl, fun a F => ?_⟩
      have O : Own w0 [] [.row 51 3 (.slice P30 N30 C30) N30 (es161.flatMap encUp), .row 3 1 (.slice (some ⟨b27, 0, none⟩) N27 N27) N27 (es150.flatMap encInt), .row 3 1 (.slice (some ⟨b25, 0, none⟩) N25 N25) N25 (es147.flatMap encInt), .row 3 1 (.slice (some ⟨b42, 0, none⟩) N42 N42) N42 (es2.flatMap encInt), .row 3 1 (.slice (some ⟨b37, 0, none⟩) N37 N37) N37 (es.flatMap encInt), .row 51 3 (.slice P23 N23 C23) N23 ((RD es es2).flatMap encUp), .row 3 1 (.slice (some ⟨b22, 0, none⟩) N22 N22) N22 (es2.flatMap encInt), .row 3 1 (.slice (some ⟨b20, 0, none⟩) N20 N20) N20 (es.flatMap encInt)] w := O.callR K
      clear K
      have O : Own w0 [] [.row 51 3 (.slice P30 N30 C30) N30 (es161.flatMap encUp), .row 3 1 (.slice (some ⟨b27, 0, none⟩) N27 N27) N27 (es150.flatMap encInt), .row 3 1 (.slice (some ⟨b25, 0, none⟩) N25 N25) N25 (es147.flatMap encInt), .row 3 1 (.slice (some ⟨b42, 0, none⟩) N42 N42) N42 (es2.flatMap encInt), .row 3 1 (.slice (some ⟨b37, 0, none⟩) N37 N37) N37 (es.flatMap encInt), .row 51 3 (.slice P23 N23 C23) N23 ((RD es es2).flatMap encUp), .row 3 1 (.slice (some ⟨b22, 0, none⟩) N22 N22) N22 (es2.flatMap encInt), .row 3 1 (.slice (some ⟨b20, 0, none⟩) N20 N20) N20 (es.flatMap encInt)] w := O
      refine sp F (p_assign rfl) rfl rfl fun a F => c_nil (hK22 _ _ (?_))
      try clear hK22 K22
      refine c_seq fun K23 hK23 => c_region (sp F (p_assign rfl) rfl rfl fun a F => c_nil (hK23 _ _ (?_)))
      try clear hK23 K23
      refine c_seq fun K24 hK24 => c_region (sp F (p_move rfl) rfl rfl fun a F => sp F (p_move rfl) rfl rfl fun a F => so F rfl (o_call (vs := #[.slice P30 N30 C30, .int .i64 (1)]) F Try.en_48 rfl rfl ((heldUpdateS_ok P30 N30 C30 es161 1 w (O.arr 0 (es := es161) rfl encUp_len (by decide)) (by first | omega | (simp; omega) | (simp at *; omega)) (by omega) (by assumption) (by omega) (by omega)).mono ?_)))
      rintro e w ⟨rfl, K⟩
      refine ⟨_, rfl, fun a F => ?_⟩
      have O : Own w0 [] [.row 51 3 (.slice P30 N30 C30) N30 (es161.flatMap encUp), .row 3 1 (.slice (some ⟨b27, 0, none⟩) N27 N27) N27 (es150.flatMap encInt), .row 3 1 (.slice (some ⟨b25, 0, none⟩) N25 N25) N25 (es147.flatMap encInt), .row 3 1 (.slice (some ⟨b42, 0, none⟩) N42 N42) N42 (es2.flatMap encInt), .row 3 1 (.slice (some ⟨b37, 0, none⟩) N37 N37) N37 (es.flatMap encInt), .row 51 3 (.slice P23 N23 C23) N23 ((RD es es2).flatMap encUp), .row 3 1 (.slice (some ⟨b22, 0, none⟩) N22 N22) N22 (es2.flatMap encInt), .row 3 1 (.slice (some ⟨b20, 0, none⟩) N20 N20) N20 (es.flatMap encInt)] w := O.call0 K
      clear K
      have O : Own w0 [] [.row 51 3 (.slice P30 N30 C30) N30 (es161.flatMap encUp), .row 3 1 (.slice (some ⟨b27, 0, none⟩) N27 N27) N27 (es150.flatMap encInt), .row 3 1 (.slice (some ⟨b25, 0, none⟩) N25 N25) N25 (es147.flatMap encInt), .row 3 1 (.slice (some ⟨b42, 0, none⟩) N42 N42) N42 (es2.flatMap encInt), .row 3 1 (.slice (some ⟨b37, 0, none⟩) N37 N37) N37 (es.flatMap encInt), .row 51 3 (.slice P23 N23 C23) N23 ((RD es es2).flatMap encUp), .row 3 1 (.slice (some ⟨b22, 0, none⟩) N22 N22) N22 (es2.flatMap encInt), .row 3 1 (.slice (some ⟨b20, 0, none⟩) N20 N20) N20 (es.flatMap encInt)] w := O
      refine sp F (p_assign rfl) rfl rfl fun a F => c_nil (hK24 _ _ (?_))
      try clear hK24 K24
      refine c_seq fun K25 hK25 => c_seq fun K26 hK26 => c_region (sp F (p_move rfl) rfl rfl fun a F => sp F (p_lss rfl rfl) rfl rfl fun a F => ?_)
      have c66 : ¬ ((1 + 3 * (N30 : Int)) < 0) := by omega
      have F := F.setB (d := 66) rfl (decide_eq_false c66)
      refine c_nil (hK26 _ _ (?_))
      try clear hK26 K26
      refine c_iff F rfl (wp_skip (hK25 _ _ (?_)))
      try clear hK25 K25
      refine c_seq fun K27 hK27 => c_seq fun K28 hK28 => c_region (sp F (p_move rfl) rfl rfl fun a F => sp F (p_move rfl) rfl rfl fun a F => sp F (p_neq rfl rfl) rfl rfl fun a F => ?_)
      have c69 : (1 + 3 * (N30 : Int)) = (1 + 3 * (N30 : Int)) := by omega
      have F := F.setB (d := 69) rfl (decide_eq_false (fun h => h c69))
      refine c_nil (hK28 _ _ (?_))
      try clear hK28 K28
      refine c_iff F rfl (wp_skip (hK27 _ _ (?_)))
      try clear hK27 K27
      refine c_seq fun K29 hK29 => c_region (sp F (p_move rfl) rfl rfl fun a F => so F rfl (o_call (vs := #[.slice A n c]) F Try.en_18 rfl rfl ((toIntS_ok A n c es w (hA.keep O) (by first | omega | (simp; omega) | (simp at *; omega)) (by omega)).mono ?_)))
      rintro e w ⟨b71, N71, rfl, h71a, K⟩
      refine ⟨_, rfl, fun a F => ?_⟩
      have O : Own w0 [] [.row 3 1 (.slice (some ⟨b71, 0, none⟩) N71 N71) N71 (es.flatMap encInt), .row 51 3 (.slice P30 N30 C30) N30 (es161.flatMap encUp), .row 3 1 (.slice (some ⟨b27, 0, none⟩) N27 N27) N27 (es150.flatMap encInt), .row 3 1 (.slice (some ⟨b25, 0, none⟩) N25 N25) N25 (es147.flatMap encInt), .row 3 1 (.slice (some ⟨b42, 0, none⟩) N42 N42) N42 (es2.flatMap encInt), .row 3 1 (.slice (some ⟨b37, 0, none⟩) N37 N37) N37 (es.flatMap encInt), .row 51 3 (.slice P23 N23 C23) N23 ((RD es es2).flatMap encUp), .row 3 1 (.slice (some ⟨b22, 0, none⟩) N22 N22) N22 (es2.flatMap encInt), .row 3 1 (.slice (some ⟨b20, 0, none⟩) N20 N20) N20 (es.flatMap encInt)] w := O.call0 K
      clear K
      have O : Own w0 [] [.row 3 1 (.slice (some ⟨b71, 0, none⟩) N71 N71) N71 (es.flatMap encInt), .row 51 3 (.slice P30 N30 C30) N30 (es161.flatMap encUp), .row 3 1 (.slice (some ⟨b27, 0, none⟩) N27 N27) N27 (es150.flatMap encInt), .row 3 1 (.slice (some ⟨b25, 0, none⟩) N25 N25) N25 (es147.flatMap encInt), .row 3 1 (.slice (some ⟨b42, 0, none⟩) N42 N42) N42 (es2.flatMap encInt), .row 3 1 (.slice (some ⟨b37, 0, none⟩) N37 N37) N37 (es.flatMap encInt), .row 51 3 (.slice P23 N23 C23) N23 ((RD es es2).flatMap encUp), .row 3 1 (.slice (some ⟨b22, 0, none⟩) N22 N22) N22 (es2.flatMap encInt), .row 3 1 (.slice (some ⟨b20, 0, none⟩) N20 N20) N20 (es.flatMap encInt)] w := O
      refine sp F (p_move rfl) rfl rfl fun a F => so F rfl (o_call (vs := #[.slice A2 n2 c2]) F Try.en_18 rfl rfl ((toIntS_ok A2 n2 c2 es2 w (hA2.keep O) (by first | omega | (simp; omega) | (simp at *; omega)) (by omega)).mono ?_))
      rintro e w ⟨b73, N73, rfl, h73a, K⟩
      refine ⟨_, rfl, fun a F => ?_⟩
      have O : Own w0 [] [.row 3 1 (.slice (some ⟨b73, 0, none⟩) N73 N73) N73 (es2.flatMap encInt), .row 3 1 (.slice (some ⟨b71, 0, none⟩) N71 N71) N71 (es.flatMap encInt), .row 51 3 (.slice P30 N30 C30) N30 (es161.flatMap encUp), .row 3 1 (.slice (some ⟨b27, 0, none⟩) N27 N27) N27 (es150.flatMap encInt), .row 3 1 (.slice (some ⟨b25, 0, none⟩) N25 N25) N25 (es147.flatMap encInt), .row 3 1 (.slice (some ⟨b42, 0, none⟩) N42 N42) N42 (es2.flatMap encInt), .row 3 1 (.slice (some ⟨b37, 0, none⟩) N37 N37) N37 (es.flatMap encInt), .row 51 3 (.slice P23 N23 C23) N23 ((RD es es2).flatMap encUp), .row 3 1 (.slice (some ⟨b22, 0, none⟩) N22 N22) N22 (es2.flatMap encInt), .row 3 1 (.slice (some ⟨b20, 0, none⟩) N20 N20) N20 (es.flatMap encInt)] w := O.call0 K
      clear K
      have O : Own w0 [] [.row 3 1 (.slice (some ⟨b73, 0, none⟩) N73 N73) N73 (es2.flatMap encInt), .row 3 1 (.slice (some ⟨b71, 0, none⟩) N71 N71) N71 (es.flatMap encInt), .row 51 3 (.slice P30 N30 C30) N30 (es161.flatMap encUp), .row 3 1 (.slice (some ⟨b27, 0, none⟩) N27 N27) N27 (es150.flatMap encInt), .row 3 1 (.slice (some ⟨b25, 0, none⟩) N25 N25) N25 (es147.flatMap encInt), .row 3 1 (.slice (some ⟨b42, 0, none⟩) N42 N42) N42 (es2.flatMap encInt), .row 3 1 (.slice (some ⟨b37, 0, none⟩) N37 N37) N37 (es.flatMap encInt), .row 51 3 (.slice P23 N23 C23) N23 ((RD es es2).flatMap encUp), .row 3 1 (.slice (some ⟨b22, 0, none⟩) N22 N22) N22 (es2.flatMap encInt), .row 3 1 (.slice (some ⟨b20, 0, none⟩) N20 N20) N20 (es.flatMap encInt)] w := O
      refine so F rfl (o_call (vs := #[.slice (some ⟨b71, 0, none⟩) N71 N71, .slice (some ⟨b73, 0, none⟩) N73 N73]) F Try.en_41 rfl rfl ((iRefsDiffer_ok (some ⟨b71, 0, none⟩) N71 N71 es (some ⟨b73, 0, none⟩) N73 N73 es2 w (O.arr 1 (es := es) rfl encInt_len (by decide)) (by first | omega | (simp; omega) | (simp at *; omega)) (by omega) (O.arr 0 (es := es2) rfl encInt_len (by decide)) (by first | omega | (simp; omega) | (simp at *; omega)) (by omega)).mono ?_))
      rintro e w ⟨P74, N74, C74, rfl, h74a, h74b, K⟩
      refine ⟨_, rfl, fun a F => ?_⟩
      have O : Own w0 [] [.row 51 3 (.slice P74 N74 C74) N74 ((RD es es2).flatMap encUp), .row 3 1 (.slice (some ⟨b73, 0, none⟩) N73 N73) N73 (es2.flatMap encInt), .row 3 1 (.slice (some ⟨b71, 0, none⟩) N71 N71) N71 (es.flatMap encInt), .row 51 3 (.slice P30 N30 C30) N30 (es161.flatMap encUp), .row 3 1 (.slice (some ⟨b27, 0, none⟩) N27 N27) N27 (es150.flatMap encInt), .row 3 1 (.slice (some ⟨b25, 0, none⟩) N25 N25) N25 (es147.flatMap encInt), .row 3 1 (.slice (some ⟨b42, 0, none⟩) N42 N42) N42 (es2.flatMap encInt), .row 3 1 (.slice (some ⟨b37, 0, none⟩) N37 N37) N37 (es.flatMap encInt), .row 51 3 (.slice P23 N23 C23) N23 ((RD es es2).flatMap encUp), .row 3 1 (.slice (some ⟨b22, 0, none⟩) N22 N22) N22 (es2.flatMap encInt), .row 3 1 (.slice (some ⟨b20, 0, none⟩) N20 N20) N20 (es.flatMap encInt)] w := O.call0 K
      clear K
      have O : Own w0 [] [.row 51 3 (.slice P74 N74 C74) N74 ((RD es es2).flatMap encUp), .row 3 1 (.slice (some ⟨b73, 0, none⟩) N73 N73) N73 (es2.flatMap encInt), .row 3 1 (.slice (some ⟨b71, 0, none⟩) N71 N71) N71 (es.flatMap encInt), .row 51 3 (.slice P30 N30 C30) N30 (es161.flatMap encUp), .row 3 1 (.slice (some ⟨b27, 0, none⟩) N27 N27) N27 (es150.flatMap encInt), .row 3 1 (.slice (some ⟨b25, 0, none⟩) N25 N25) N25 (es147.flatMap encInt), .row 3 1 (.slice (some ⟨b42, 0, none⟩) N42 N42) N42 (es2.flatMap encInt), .row 3 1 (.slice (some ⟨b37, 0, none⟩) N37 N37) N37 (es.flatMap encInt), .row 51 3 (.slice P23 N23 C23) N23 ((RD es es2).flatMap encUp), .row 3 1 (.slice (some ⟨b22, 0, none⟩) N22 N22) N22 (es2.flatMap encInt), .row 3 1 (.slice (some ⟨b20, 0, none⟩) N20 N20) N20 (es.flatMap encInt)] w := O
      refine sp F (p_assign rfl) rfl rfl fun a F => c_nil (hK29 _ _ (?_))
      try clear hK29 K29
      refine c_seq fun K30 hK30 => c_seq fun K31 hK31 => c_region (sp F (p_move rfl) rfl rfl fun a F => sp F (p_move rfl) rfl rfl fun a F => so F rfl (o_call (vs := #[.slice P74 N74 C74, .slice P23 N23 C23]) F Try.en_28 rfl rfl ((eqUpdateS_ok P74 N74 C74 (RD es es2) P23 N23 C23 (RD es es2) w (O.arr 0 (es := RD es es2) rfl encUp_len (by decide)) (by first | omega | (simp; omega) | (simp at *; omega)) (by omega) (O.arr 8 (es := RD es es2) rfl encUp_len (by decide)) (by first | omega | (simp; omega) | (simp at *; omega)) (by omega)).mono ?_)))
      rintro e w ⟨rfl, K⟩
      refine ⟨_, rfl, fun a F => ?_⟩
      have O : Own w0 [] [.row 51 3 (.slice P74 N74 C74) N74 ((RD es es2).flatMap encUp), .row 3 1 (.slice (some ⟨b73, 0, none⟩) N73 N73) N73 (es2.flatMap encInt), .row 3 1 (.slice (some ⟨b71, 0, none⟩) N71 N71) N71 (es.flatMap encInt), .row 51 3 (.slice P30 N30 C30) N30 (es161.flatMap encUp), .row 3 1 (.slice (some ⟨b27, 0, none⟩) N27 N27) N27 (es150.flatMap encInt), .row 3 1 (.slice (some ⟨b25, 0, none⟩) N25 N25) N25 (es147.flatMap encInt), .row 3 1 (.slice (some ⟨b42, 0, none⟩) N42 N42) N42 (es2.flatMap encInt), .row 3 1 (.slice (some ⟨b37, 0, none⟩) N37 N37) N37 (es.flatMap encInt), .row 51 3 (.slice P23 N23 C23) N23 ((RD es es2).flatMap encUp), .row 3 1 (.slice (some ⟨b22, 0, none⟩) N22 N22) N22 (es2.flatMap encInt), .row 3 1 (.slice (some ⟨b20, 0, none⟩) N20 N20) N20 (es.flatMap encInt)] w := O.call0 K
      clear K
      have F := F.setB (d := 77) rfl (decide_eq_true c33)
      have O : Own w0 [] [.row 51 3 (.slice P74 N74 C74) N74 ((RD es es2).flatMap encUp), .row 3 1 (.slice (some ⟨b73, 0, none⟩) N73 N73) N73 (es2.flatMap encInt), .row 3 1 (.slice (some ⟨b71, 0, none⟩) N71 N71) N71 (es.flatMap encInt), .row 51 3 (.slice P30 N30 C30) N30 (es161.flatMap encUp), .row 3 1 (.slice (some ⟨b27, 0, none⟩) N27 N27) N27 (es150.flatMap encInt), .row 3 1 (.slice (some ⟨b25, 0, none⟩) N25 N25) N25 (es147.flatMap encInt), .row 3 1 (.slice (some ⟨b42, 0, none⟩) N42 N42) N42 (es2.flatMap encInt), .row 3 1 (.slice (some ⟨b37, 0, none⟩) N37 N37) N37 (es.flatMap encInt), .row 51 3 (.slice P23 N23 C23) N23 ((RD es es2).flatMap encUp), .row 3 1 (.slice (some ⟨b22, 0, none⟩) N22 N22) N22 (es2.flatMap encInt), .row 3 1 (.slice (some ⟨b20, 0, none⟩) N20 N20) N20 (es.flatMap encInt)] w := O
      refine sp F (p_not rfl) rfl rfl fun a F => c_nil (hK31 _ _ (?_))
      try clear hK31 K31
      refine c_iff F rfl (wp_skip (hK30 _ _ (?_)))
      try clear hK30 K30
      refine c_seq fun K32 hK32 => c_region (sp F (p_assign rfl) rfl rfl fun a F => c_nil (hK32 _ _ (?_)))
      try clear hK32 K32
      refine c_seq fun K33 hK33 => c_region (sp F (p_move rfl) rfl rfl fun a F => sp F (p_move rfl) rfl rfl fun a F => so F rfl (o_call (vs := #[.slice P30 N30 C30, .int .i64 (1)]) F Try.en_48 rfl rfl ((heldUpdateS_ok P30 N30 C30 es161 1 w (O.arr 3 (es := es161) rfl encUp_len (by decide)) (by first | omega | (simp; omega) | (simp at *; omega)) (by omega) (by assumption) (by omega) (by omega)).mono ?_)))
      rintro e w ⟨rfl, K⟩
      refine ⟨_, rfl, fun a F => ?_⟩
      have O : Own w0 [] [.row 51 3 (.slice P74 N74 C74) N74 ((RD es es2).flatMap encUp), .row 3 1 (.slice (some ⟨b73, 0, none⟩) N73 N73) N73 (es2.flatMap encInt), .row 3 1 (.slice (some ⟨b71, 0, none⟩) N71 N71) N71 (es.flatMap encInt), .row 51 3 (.slice P30 N30 C30) N30 (es161.flatMap encUp), .row 3 1 (.slice (some ⟨b27, 0, none⟩) N27 N27) N27 (es150.flatMap encInt), .row 3 1 (.slice (some ⟨b25, 0, none⟩) N25 N25) N25 (es147.flatMap encInt), .row 3 1 (.slice (some ⟨b42, 0, none⟩) N42 N42) N42 (es2.flatMap encInt), .row 3 1 (.slice (some ⟨b37, 0, none⟩) N37 N37) N37 (es.flatMap encInt), .row 51 3 (.slice P23 N23 C23) N23 ((RD es es2).flatMap encUp), .row 3 1 (.slice (some ⟨b22, 0, none⟩) N22 N22) N22 (es2.flatMap encInt), .row 3 1 (.slice (some ⟨b20, 0, none⟩) N20 N20) N20 (es.flatMap encInt)] w := O.call0 K
      clear K
      have O : Own w0 [] [.row 51 3 (.slice P74 N74 C74) N74 ((RD es es2).flatMap encUp), .row 3 1 (.slice (some ⟨b73, 0, none⟩) N73 N73) N73 (es2.flatMap encInt), .row 3 1 (.slice (some ⟨b71, 0, none⟩) N71 N71) N71 (es.flatMap encInt), .row 51 3 (.slice P30 N30 C30) N30 (es161.flatMap encUp), .row 3 1 (.slice (some ⟨b27, 0, none⟩) N27 N27) N27 (es150.flatMap encInt), .row 3 1 (.slice (some ⟨b25, 0, none⟩) N25 N25) N25 (es147.flatMap encInt), .row 3 1 (.slice (some ⟨b42, 0, none⟩) N42 N42) N42 (es2.flatMap encInt), .row 3 1 (.slice (some ⟨b37, 0, none⟩) N37 N37) N37 (es.flatMap encInt), .row 51 3 (.slice P23 N23 C23) N23 ((RD es es2).flatMap encUp), .row 3 1 (.slice (some ⟨b22, 0, none⟩) N22 N22) N22 (es2.flatMap encInt), .row 3 1 (.slice (some ⟨b20, 0, none⟩) N20 N20) N20 (es.flatMap encInt)] w := O
      refine sp F (p_assign rfl) rfl rfl fun a F => c_nil (hK33 _ _ (?_))
      try clear hK33 K33
      refine c_seq fun K34 hK34 => c_seq fun K35 hK35 => c_region (sp F (p_move rfl) rfl rfl fun a F => sp F (p_lss rfl rfl) rfl rfl fun a F => ?_)
      have F := F.setB (d := 83) rfl (decide_eq_false c66)
      refine c_nil (hK35 _ _ (?_))
      try clear hK35 K35
      refine c_iff F rfl (wp_skip (hK34 _ _ (?_)))
      try clear hK34 K34
      refine c_seq fun K36 hK36 => c_seq fun K37 hK37 => c_region (sp F (p_move rfl) rfl rfl fun a F => sp F (p_move rfl) rfl rfl fun a F => sp F (p_neq rfl rfl) rfl rfl fun a F => ?_)
      have F := F.setB (d := 86) rfl (decide_eq_false (fun h => h c69))
      refine c_nil (hK37 _ _ (?_))
      try clear hK37 K37
      refine c_iff F rfl (wp_skip (hK36 _ _ (?_)))
      try clear hK36 K36
      refine c_seq fun K38 hK38 => c_region (sp F (p_assign rfl) rfl rfl fun a F => c_nil (hK38 _ _ (?_)))
      try clear hK38 K38
      refine wp_ret (ret1 F rfl rfl (?_))
      have O : Own w0 [] [] w := (O.take 0)
      exact ⟨rfl, O⟩

set_option maxRecDepth 100000 in
theorem exRefsDiffer_lifted (os : Os) (started : os.Started) (H : Type) (enc : TypeId × Value → H) :
    ReturnsInHanded {} Try.checked os 15 .any (Rows.fnExactRefsDifferSpec.pre6 enc Try.prog Try.f15 Rows.fnExactRefsDifferRow.domain false) (Rows.fnExactRefsDifferSpec.post enc Try.prog Try.f15 false true false false) := by
  have e0 : Rows.fnExactRefsDifferRow.domain = [] := rfl
  rw [e0]
  refine lifted_of (C := Try.checked) Try.facts started (by kernel_rfl) Try.func15 rfl ?_ (tb := 4) (by kernel_rfl) Try.underlying4 (by kernel_rfl)
    (ChangeSpec.witness6 (enc := enc) (C := Try.checked) false ⟨#[], #[.slice none 0 0, .slice none 0 0], []⟩ 8 (by kernel_rfl) (by kernel_rfl) (by kernel_rfl) (by kernel_rfl)) ?_
  · intro ds hds
    match ds, hds with
    | [_, _], _ => rfl
  intro W base args ds p hval0 hA0
  have hval : ∀ (j : Nat) t v, Try.f15.params[j]? = some t → args[j]? = some v → Value.okWide Try.prog W .any base t v := hval0
  have hA : DataW.TrodAll enc Try.prog W 0 (fun _ => true) true Try.f15.params.toList args.toList ds p := hA0
  clear hA0 hval0
  show Calls Try.prog 15 args W _
  rw [Try.params15] at hA hval
  obtain ⟨v0, v1, d0, d1, p0, p1, hargs, rfl, rfl, h0, h1⟩ := trodAll_two hA
  obtain rfl : args = #[v0, v1] := by cases args; simp_all
  obtain ⟨a, n, c, es, rfl, hArr, hn, hb⟩ := open_intsIn (hval 0 22 v0 rfl rfl) h0
  obtain ⟨a2, n2, c2, es2, rfl, hArr2, hn2, hb2⟩ := open_intsIn (hval 1 22 v1 rfl rfl) h1
  exact (exRefsDiffer_ok a n c es a2 n2 c2 es2 W hArr hn hb hArr2 hn2 hb2).mono fun e w' h => ⟨h.1, h.2.below⟩

theorem exRefsDiffer_pkg : ¬ Check.packageOf Try.f15.name = "main" := by
  intro h
  have h2 := congrArg String.toList h
  simp only [Check.packageOf, Try.f15] at h2
  simp at h2

theorem exRefsDiffer_closed : lawFacts Try.prog 15 Try.f15 Rows.fnExactRefsDifferSpec Rows.fnExactRefsDifferRow = true := by kernel_rfl
theorem exRefsDiffer_facts : joinedFacts Try.pinned.checked.prog 15 Try.f15 Rows.fnExactRefsDifferSpec Rows.fnExactRefsDifferRow = true := facts_of (P := Try.prog) Try.facts exRefsDiffer_closed

theorem exRefsDiffer_wrap : Func.isWrapper Try.pinned.checked.prog Try.f15 Rows.fnExactRefsDifferRow.wrapper Rows.fnExactRefsDifferRow.mainSum := by
  have e1 : Rows.fnExactRefsDifferRow.wrapper = false := rfl
  have e2 : Rows.fnExactRefsDifferRow.mainSum = "" := rfl
  rw [e1, e2]
  exact wrapper_of Try.pinned.checked.prog Try.f15 exRefsDiffer_pkg

/-- The statement. -/
theorem exRefsDiffer_over : Rows.fnExactRefsDifferRow.holds Try.pinned (OpenSpec.ofChange Rows.fnExactRefsDifferSpec) :=
  OpenClaim.holds_of_wide 15 Try.f15 rfl rfl rfl rfl rfl rfl rfl ⟨rfl, rfl, rfl, rfl, rfl⟩ rfl rfl rfl rfl rfl (by kernel_rfl) Try.func15 exRefsDiffer_facts
    (of_decide_eq_true (by kernel_rfl)) exRefsDiffer_wrap
    (fun os started H enc _ => exRefsDiffer_lifted os started H enc)
theorem exRefsDiffer_holds : Rows.FnExactRefsDifferSaid := exRefsDiffer_over
#print axioms exRefsDiffer_holds

end Go.Proofs.Ytilpbddeijolbaa
