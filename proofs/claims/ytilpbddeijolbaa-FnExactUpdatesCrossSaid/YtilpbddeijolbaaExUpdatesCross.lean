/- The law FnExactUpdatesCross returns true for all arguments. No conditions. -/
import Derived.Test.YtilpbddeijolbaaRefB
import Derived.Test.YtilpbddeijolbaaOpenU
namespace Go.Proofs.Ytilpbddeijolbaa
open Go.ChangeShapes Go.WideShapes Go.ChangeAt Go.RowKit
set_option linter.unusedVariables false
set_option linter.unusedSimpArgs false

set_option maxRecDepth 100000 in
/-- laws.FnExactUpdatesCross -/
theorem exUpdatesCross_ok (A : Option Addr) (n : Nat) (c : Nat) (es : List (Int × Int × Int)) (A2 : Option Addr) (n2 : Nat) (c2 : Nat) (es2 : List (Int × Int × Int)) (w0 : World) (hA : Arr w0 encUp 3 A es) (hn : (n : Int) = es.length) (hb : (n : Int) ≤ 9223372036854775807) (hA2 : Arr w0 encUp 3 A2 es2) (hn2 : (n2 : Int) = es2.length) (hb2 : (n2 : Int) ≤ 9223372036854775807) :
    Calls Try.prog 10 #[.slice A n c, .slice A2 n2 c2] w0 fun e w => e = .returned (.bool true) ∧ Own w0 [] [] w := by
  have O := Own.start w0
  refine enterO (n := 45) Try.func10 rfl rfl rfl O fun a w F O => ?_
  refine c_seq fun K1 hK1 => c_region (sp F (p_assign rfl) rfl rfl fun a F => c_nil (hK1 _ _ (?_)))
  try clear hK1 K1
  refine c_seq fun K2 hK2 => c_region (sp F (p_assign rfl) rfl rfl fun a F => c_nil (hK2 _ _ (?_)))
  try clear hK2 K2
  refine c_seq fun K3 hK3 => c_region (sp F (p_move rfl) rfl rfl fun a F => sp F (p_move rfl) rfl rfl fun a F => so F rfl (o_call (vs := #[.slice A n c, .int .i64 (1048576)]) F Try.en_24 rfl rfl ((szUpdateS_ok A n c es 1048576 w (hA.keep O) (by first | omega | (simp; omega) | (simp at *; omega)) (by omega) (by omega) (by omega)).mono ?_)))
  rintro e w ⟨q12, rfl, h12a, K⟩
  refine ⟨_, rfl, fun a F => ?_⟩
  have O : Own w0 [] [] w := O.call0 K
  clear K
  have O : Own w0 [] [] w := O
  refine sp F (p_assign rfl) rfl rfl fun a F => c_nil (hK3 _ _ (?_))
  try clear hK3 K3
  refine c_seq fun K4 hK4 => c_seq fun K5 hK5 => c_region (sp F (p_move rfl) rfl rfl fun a F => sp F (p_lss rfl rfl) rfl rfl fun a F => c_nil (hK5 _ _ (?_)))
  try clear hK5 K5
  by_cases c14 : q12 < 0
  · have F := F.setB (d := 14) rfl (decide_eq_true c14)
    refine c_ift F rfl (c_seq fun K6 hK6 => c_region (sp F (p_assign rfl) rfl rfl fun a F => c_nil (hK6 _ _ (?_))))
    try clear hK6 K6
    refine wp_ret (r_then (ret1 F rfl rfl (?_)))
    exact ⟨rfl, O⟩
  · have F := F.setB (d := 14) rfl (decide_eq_false c14)
    refine c_iff F rfl (wp_skip (hK4 _ _ (?_)))
    try clear hK4 K4
    refine c_seq fun K6 hK6 => c_region (sp F (p_move rfl) rfl rfl fun a F => sp F (p_move rfl) rfl rfl fun a F => so F rfl (o_call (vs := #[.slice A2 n2 c2, .int .i64 (q12)]) F Try.en_24 rfl rfl ((szUpdateS_ok A2 n2 c2 es2 q12 w (hA2.keep O) (by first | omega | (simp; omega) | (simp at *; omega)) (by omega) (by omega) (by omega)).mono ?_)))
    rintro e w ⟨q17, rfl, h17a, K⟩
    refine ⟨_, rfl, fun a F => ?_⟩
    have O : Own w0 [] [] w := O.call0 K
    clear K
    have O : Own w0 [] [] w := O
    refine sp F (p_assign rfl) rfl rfl fun a F => c_nil (hK6 _ _ (?_))
    try clear hK6 K6
    refine c_seq fun K7 hK7 => c_seq fun K8 hK8 => c_region (sp F (p_move rfl) rfl rfl fun a F => sp F (p_lss rfl rfl) rfl rfl fun a F => c_nil (hK8 _ _ (?_)))
    try clear hK8 K8
    by_cases c19 : q17 < 0
    · have F := F.setB (d := 19) rfl (decide_eq_true c19)
      refine c_ift F rfl (c_seq fun K9 hK9 => c_region (sp F (p_assign rfl) rfl rfl fun a F => c_nil (hK9 _ _ (?_))))
      try clear hK9 K9
      refine wp_ret (r_then (ret1 F rfl rfl (?_)))
      exact ⟨rfl, O⟩
    · have F := F.setB (d := 19) rfl (decide_eq_false c19)
      refine c_iff F rfl (wp_skip (hK7 _ _ (?_)))
      try clear hK7 K7
      refine c_seq fun K9 hK9 => c_region (sp F (p_move rfl) rfl rfl fun a F => so F rfl (o_call (vs := #[.slice A n c]) F Try.en_26 rfl rfl ((toUpdateS_ok A n c es w (hA.keep O) (by first | omega | (simp; omega) | (simp at *; omega)) (by omega)).mono ?_)))
      rintro e w ⟨b21, N21, rfl, h21a, K⟩
      refine ⟨_, rfl, fun a F => ?_⟩
      have O : Own w0 [] [.row 51 3 (.slice (some ⟨b21, 0, none⟩) N21 N21) N21 (es.flatMap encUp)] w := O.call0 K
      clear K
      have O : Own w0 [] [.row 51 3 (.slice (some ⟨b21, 0, none⟩) N21 N21) N21 (es.flatMap encUp)] w := O
      refine sp F (p_move rfl) rfl rfl fun a F => so F rfl (o_call (vs := #[.slice A2 n2 c2]) F Try.en_26 rfl rfl ((toUpdateS_ok A2 n2 c2 es2 w (hA2.keep O) (by first | omega | (simp; omega) | (simp at *; omega)) (by omega)).mono ?_))
      rintro e w ⟨b23, N23, rfl, h23a, K⟩
      refine ⟨_, rfl, fun a F => ?_⟩
      have O : Own w0 [] [.row 51 3 (.slice (some ⟨b23, 0, none⟩) N23 N23) N23 (es2.flatMap encUp), .row 51 3 (.slice (some ⟨b21, 0, none⟩) N21 N21) N21 (es.flatMap encUp)] w := O.call0 K
      clear K
      have O : Own w0 [] [.row 51 3 (.slice (some ⟨b23, 0, none⟩) N23 N23) N23 (es2.flatMap encUp), .row 51 3 (.slice (some ⟨b21, 0, none⟩) N21 N21) N21 (es.flatMap encUp)] w := O
      refine so F rfl (o_call (vs := #[.slice (some ⟨b21, 0, none⟩) N21 N21, .slice (some ⟨b23, 0, none⟩) N23 N23]) F Try.en_36 rfl rfl ((sUpdatesCross_ok (some ⟨b21, 0, none⟩) N21 N21 es (some ⟨b23, 0, none⟩) N23 N23 es2 w (O.arr 1 (es := es) rfl encUp_len (by decide)) (by first | omega | (simp; omega) | (simp at *; omega)) (by omega) (O.arr 0 (es := es2) rfl encUp_len (by decide)) (by first | omega | (simp; omega) | (simp at *; omega)) (by omega)).mono ?_))
      rintro e w ⟨rfl, K⟩
      refine ⟨_, rfl, fun a F => ?_⟩
      have O : Own w0 [] [.row 51 3 (.slice (some ⟨b23, 0, none⟩) N23 N23) N23 (es2.flatMap encUp), .row 51 3 (.slice (some ⟨b21, 0, none⟩) N21 N21) N21 (es.flatMap encUp)] w := O.call0 K
      clear K
      have O : Own w0 [] [.row 51 3 (.slice (some ⟨b23, 0, none⟩) N23 N23) N23 (es2.flatMap encUp), .row 51 3 (.slice (some ⟨b21, 0, none⟩) N21 N21) N21 (es.flatMap encUp)] w := O
      refine sp F (p_assign rfl) rfl rfl fun a F => c_nil (hK9 _ _ (?_))
      try clear hK9 K9
      refine c_seq fun K10 hK10 => c_region (sp F (p_move rfl) rfl rfl fun a F => so F rfl (o_call (vs := #[.slice A n c]) F Try.en_26 rfl rfl ((toUpdateS_ok A n c es w (hA.keep O) (by first | omega | (simp; omega) | (simp at *; omega)) (by omega)).mono ?_)))
      rintro e w ⟨b26, N26, rfl, h26a, K⟩
      refine ⟨_, rfl, fun a F => ?_⟩
      have O : Own w0 [] [.row 51 3 (.slice (some ⟨b26, 0, none⟩) N26 N26) N26 (es.flatMap encUp), .row 51 3 (.slice (some ⟨b23, 0, none⟩) N23 N23) N23 (es2.flatMap encUp), .row 51 3 (.slice (some ⟨b21, 0, none⟩) N21 N21) N21 (es.flatMap encUp)] w := O.call0 K
      clear K
      have O : Own w0 [] [.row 51 3 (.slice (some ⟨b26, 0, none⟩) N26 N26) N26 (es.flatMap encUp), .row 51 3 (.slice (some ⟨b23, 0, none⟩) N23 N23) N23 (es2.flatMap encUp), .row 51 3 (.slice (some ⟨b21, 0, none⟩) N21 N21) N21 (es.flatMap encUp)] w := O
      refine sp F (p_assign rfl) rfl rfl fun a F => c_nil (hK10 _ _ (?_))
      try clear hK10 K10
      refine c_seq fun K11 hK11 => c_region (sp F (p_move rfl) rfl rfl fun a F => so F rfl (o_call (vs := #[.slice A2 n2 c2]) F Try.en_26 rfl rfl ((toUpdateS_ok A2 n2 c2 es2 w (hA2.keep O) (by first | omega | (simp; omega) | (simp at *; omega)) (by omega)).mono ?_)))
      rintro e w ⟨b28, N28, rfl, h28a, K⟩
      refine ⟨_, rfl, fun a F => ?_⟩
      have O : Own w0 [] [.row 51 3 (.slice (some ⟨b28, 0, none⟩) N28 N28) N28 (es2.flatMap encUp), .row 51 3 (.slice (some ⟨b26, 0, none⟩) N26 N26) N26 (es.flatMap encUp), .row 51 3 (.slice (some ⟨b23, 0, none⟩) N23 N23) N23 (es2.flatMap encUp), .row 51 3 (.slice (some ⟨b21, 0, none⟩) N21 N21) N21 (es.flatMap encUp)] w := O.call0 K
      clear K
      have O : Own w0 [] [.row 51 3 (.slice (some ⟨b28, 0, none⟩) N28 N28) N28 (es2.flatMap encUp), .row 51 3 (.slice (some ⟨b26, 0, none⟩) N26 N26) N26 (es.flatMap encUp), .row 51 3 (.slice (some ⟨b23, 0, none⟩) N23 N23) N23 (es2.flatMap encUp), .row 51 3 (.slice (some ⟨b21, 0, none⟩) N21 N21) N21 (es.flatMap encUp)] w := O
      refine sp F (p_assign rfl) rfl rfl fun a F => c_nil (hK11 _ _ (?_))
      try clear hK11 K11
      refine c_seq fun K12 hK12 => c_region (sp F (p_move rfl) rfl rfl fun a F => sp F (p_move rfl) rfl rfl fun a F => so F rfl (o_call (vs := #[.slice (some ⟨b26, 0, none⟩) N26 N26, .slice (some ⟨b28, 0, none⟩) N28 N28]) F Try.en_37 rfl rfl ((iUpdatesCross_ok (some ⟨b26, 0, none⟩) N26 N26 es (some ⟨b28, 0, none⟩) N28 N28 es2 w (O.arr 1 (es := es) rfl encUp_len (by decide)) (by first | omega | (simp; omega) | (simp at *; omega)) (by omega) (O.arr 0 (es := es2) rfl encUp_len (by decide)) (by first | omega | (simp; omega) | (simp at *; omega)) (by omega)).mono ?_)))
      rintro e w ⟨rfl, K⟩
      refine ⟨_, rfl, fun a F => ?_⟩
      have O : Own w0 [] [.row 51 3 (.slice (some ⟨b28, 0, none⟩) N28 N28) N28 (es2.flatMap encUp), .row 51 3 (.slice (some ⟨b26, 0, none⟩) N26 N26) N26 (es.flatMap encUp), .row 51 3 (.slice (some ⟨b23, 0, none⟩) N23 N23) N23 (es2.flatMap encUp), .row 51 3 (.slice (some ⟨b21, 0, none⟩) N21 N21) N21 (es.flatMap encUp)] w := O.call0 K
      clear K
      have O : Own w0 [] [.row 51 3 (.slice (some ⟨b28, 0, none⟩) N28 N28) N28 (es2.flatMap encUp), .row 51 3 (.slice (some ⟨b26, 0, none⟩) N26 N26) N26 (es.flatMap encUp), .row 51 3 (.slice (some ⟨b23, 0, none⟩) N23 N23) N23 (es2.flatMap encUp), .row 51 3 (.slice (some ⟨b21, 0, none⟩) N21 N21) N21 (es.flatMap encUp)] w := O
      refine sp F (p_assign rfl) rfl rfl fun a F => c_nil (hK12 _ _ (?_))
      try clear hK12 K12
      refine c_seq fun K13 hK13 => c_seq fun K14 hK14 => c_region (sp F (p_move rfl) rfl rfl fun a F => sp F (p_move rfl) rfl rfl fun a F => sp F (p_bneL rfl rfl Try.underlying4 false (by simp)) rfl rfl fun a F => c_nil (hK14 _ _ (?_)))
      try clear hK14 K14
      refine c_iff F rfl (wp_skip (hK13 _ _ (?_)))
      try clear hK13 K13
      refine c_seq fun K15 hK15 => c_seq fun K16 hK16 => c_region (sp F (p_move rfl) rfl rfl fun a F => sp F (p_move rfl) rfl rfl fun a F => so F rfl (o_call (vs := #[.slice A n c]) F Try.en_26 rfl rfl ((toUpdateS_ok A n c es w (hA.keep O) (by first | omega | (simp; omega) | (simp at *; omega)) (by omega)).mono ?_)))
      rintro e w ⟨b37, N37, rfl, h37a, K⟩
      refine ⟨_, rfl, fun a F => ?_⟩
      have O : Own w0 [] [.row 51 3 (.slice (some ⟨b37, 0, none⟩) N37 N37) N37 (es.flatMap encUp), .row 51 3 (.slice (some ⟨b28, 0, none⟩) N28 N28) N28 (es2.flatMap encUp), .row 51 3 (.slice (some ⟨b26, 0, none⟩) N26 N26) N26 (es.flatMap encUp), .row 51 3 (.slice (some ⟨b23, 0, none⟩) N23 N23) N23 (es2.flatMap encUp), .row 51 3 (.slice (some ⟨b21, 0, none⟩) N21 N21) N21 (es.flatMap encUp)] w := O.call0 K
      clear K
      have O : Own w0 [] [.row 51 3 (.slice (some ⟨b37, 0, none⟩) N37 N37) N37 (es.flatMap encUp), .row 51 3 (.slice (some ⟨b28, 0, none⟩) N28 N28) N28 (es2.flatMap encUp), .row 51 3 (.slice (some ⟨b26, 0, none⟩) N26 N26) N26 (es.flatMap encUp), .row 51 3 (.slice (some ⟨b23, 0, none⟩) N23 N23) N23 (es2.flatMap encUp), .row 51 3 (.slice (some ⟨b21, 0, none⟩) N21 N21) N21 (es.flatMap encUp)] w := O
      refine so F rfl (o_call (vs := #[.slice (some ⟨b26, 0, none⟩) N26 N26, .slice (some ⟨b37, 0, none⟩) N37 N37]) F Try.en_28 rfl rfl ((eqUpdateS_ok (some ⟨b26, 0, none⟩) N26 N26 es (some ⟨b37, 0, none⟩) N37 N37 es w (O.arr 2 (es := es) rfl encUp_len (by decide)) (by first | omega | (simp; omega) | (simp at *; omega)) (by omega) (O.arr 0 (es := es) rfl encUp_len (by decide)) (by first | omega | (simp; omega) | (simp at *; omega)) (by omega)).mono ?_))
      rintro e w ⟨rfl, K⟩
      refine ⟨_, rfl, fun a F => ?_⟩
      have O : Own w0 [] [.row 51 3 (.slice (some ⟨b37, 0, none⟩) N37 N37) N37 (es.flatMap encUp), .row 51 3 (.slice (some ⟨b28, 0, none⟩) N28 N28) N28 (es2.flatMap encUp), .row 51 3 (.slice (some ⟨b26, 0, none⟩) N26 N26) N26 (es.flatMap encUp), .row 51 3 (.slice (some ⟨b23, 0, none⟩) N23 N23) N23 (es2.flatMap encUp), .row 51 3 (.slice (some ⟨b21, 0, none⟩) N21 N21) N21 (es.flatMap encUp)] w := O.call0 K
      clear K
      have c38 : es = es := by rfl
      have F := F.setB (d := 38) rfl (decide_eq_true c38)
      have O : Own w0 [] [.row 51 3 (.slice (some ⟨b37, 0, none⟩) N37 N37) N37 (es.flatMap encUp), .row 51 3 (.slice (some ⟨b28, 0, none⟩) N28 N28) N28 (es2.flatMap encUp), .row 51 3 (.slice (some ⟨b26, 0, none⟩) N26 N26) N26 (es.flatMap encUp), .row 51 3 (.slice (some ⟨b23, 0, none⟩) N23 N23) N23 (es2.flatMap encUp), .row 51 3 (.slice (some ⟨b21, 0, none⟩) N21 N21) N21 (es.flatMap encUp)] w := O
      refine sp F (p_not rfl) rfl rfl fun a F => c_nil (hK16 _ _ (?_))
      try clear hK16 K16
      refine c_iff F rfl (wp_skip (hK15 _ _ (?_)))
      try clear hK15 K15
      refine c_seq fun K17 hK17 => c_seq fun K18 hK18 => c_region (sp F (p_move rfl) rfl rfl fun a F => sp F (p_move rfl) rfl rfl fun a F => so F rfl (o_call (vs := #[.slice A2 n2 c2]) F Try.en_26 rfl rfl ((toUpdateS_ok A2 n2 c2 es2 w (hA2.keep O) (by first | omega | (simp; omega) | (simp at *; omega)) (by omega)).mono ?_)))
      rintro e w ⟨b42, N42, rfl, h42a, K⟩
      refine ⟨_, rfl, fun a F => ?_⟩
      have O : Own w0 [] [.row 51 3 (.slice (some ⟨b42, 0, none⟩) N42 N42) N42 (es2.flatMap encUp), .row 51 3 (.slice (some ⟨b37, 0, none⟩) N37 N37) N37 (es.flatMap encUp), .row 51 3 (.slice (some ⟨b28, 0, none⟩) N28 N28) N28 (es2.flatMap encUp), .row 51 3 (.slice (some ⟨b26, 0, none⟩) N26 N26) N26 (es.flatMap encUp), .row 51 3 (.slice (some ⟨b23, 0, none⟩) N23 N23) N23 (es2.flatMap encUp), .row 51 3 (.slice (some ⟨b21, 0, none⟩) N21 N21) N21 (es.flatMap encUp)] w := O.call0 K
      clear K
      have O : Own w0 [] [.row 51 3 (.slice (some ⟨b42, 0, none⟩) N42 N42) N42 (es2.flatMap encUp), .row 51 3 (.slice (some ⟨b37, 0, none⟩) N37 N37) N37 (es.flatMap encUp), .row 51 3 (.slice (some ⟨b28, 0, none⟩) N28 N28) N28 (es2.flatMap encUp), .row 51 3 (.slice (some ⟨b26, 0, none⟩) N26 N26) N26 (es.flatMap encUp), .row 51 3 (.slice (some ⟨b23, 0, none⟩) N23 N23) N23 (es2.flatMap encUp), .row 51 3 (.slice (some ⟨b21, 0, none⟩) N21 N21) N21 (es.flatMap encUp)] w := O
      refine so F rfl (o_call (vs := #[.slice (some ⟨b28, 0, none⟩) N28 N28, .slice (some ⟨b42, 0, none⟩) N42 N42]) F Try.en_28 rfl rfl ((eqUpdateS_ok (some ⟨b28, 0, none⟩) N28 N28 es2 (some ⟨b42, 0, none⟩) N42 N42 es2 w (O.arr 2 (es := es2) rfl encUp_len (by decide)) (by first | omega | (simp; omega) | (simp at *; omega)) (by omega) (O.arr 0 (es := es2) rfl encUp_len (by decide)) (by first | omega | (simp; omega) | (simp at *; omega)) (by omega)).mono ?_))
      rintro e w ⟨rfl, K⟩
      refine ⟨_, rfl, fun a F => ?_⟩
      have O : Own w0 [] [.row 51 3 (.slice (some ⟨b42, 0, none⟩) N42 N42) N42 (es2.flatMap encUp), .row 51 3 (.slice (some ⟨b37, 0, none⟩) N37 N37) N37 (es.flatMap encUp), .row 51 3 (.slice (some ⟨b28, 0, none⟩) N28 N28) N28 (es2.flatMap encUp), .row 51 3 (.slice (some ⟨b26, 0, none⟩) N26 N26) N26 (es.flatMap encUp), .row 51 3 (.slice (some ⟨b23, 0, none⟩) N23 N23) N23 (es2.flatMap encUp), .row 51 3 (.slice (some ⟨b21, 0, none⟩) N21 N21) N21 (es.flatMap encUp)] w := O.call0 K
      clear K
      have c43 : es2 = es2 := by rfl
      have F := F.setB (d := 43) rfl (decide_eq_true c43)
      have O : Own w0 [] [.row 51 3 (.slice (some ⟨b42, 0, none⟩) N42 N42) N42 (es2.flatMap encUp), .row 51 3 (.slice (some ⟨b37, 0, none⟩) N37 N37) N37 (es.flatMap encUp), .row 51 3 (.slice (some ⟨b28, 0, none⟩) N28 N28) N28 (es2.flatMap encUp), .row 51 3 (.slice (some ⟨b26, 0, none⟩) N26 N26) N26 (es.flatMap encUp), .row 51 3 (.slice (some ⟨b23, 0, none⟩) N23 N23) N23 (es2.flatMap encUp), .row 51 3 (.slice (some ⟨b21, 0, none⟩) N21 N21) N21 (es.flatMap encUp)] w := O
      refine sp F (p_not rfl) rfl rfl fun a F => c_nil (hK18 _ _ (?_))
      try clear hK18 K18
      refine c_iff F rfl (wp_skip (hK17 _ _ (?_)))
      try clear hK17 K17
      refine c_seq fun K19 hK19 => c_region (sp F (p_assign rfl) rfl rfl fun a F => c_nil (hK19 _ _ (?_)))
      try clear hK19 K19
      refine wp_ret (ret1 F rfl rfl (?_))
      have O : Own w0 [] [] w := (O.take 0)
      exact ⟨rfl, O⟩

set_option maxRecDepth 100000 in
theorem exUpdatesCross_lifted (os : Os) (started : os.Started) (H : Type) (enc : TypeId × Value → H) :
    ReturnsInHanded {} Try.checked os 10 .any (Rows.fnExactUpdatesCrossSpec.pre6 enc Try.prog Try.f10 Rows.fnExactUpdatesCrossRow.domain false) (Rows.fnExactUpdatesCrossSpec.post enc Try.prog Try.f10 false true false false) := by
  have e0 : Rows.fnExactUpdatesCrossRow.domain = [] := rfl
  rw [e0]
  refine lifted_of (C := Try.checked) Try.facts started (by kernel_rfl) Try.func10 rfl ?_ (tb := 4) (by kernel_rfl) Try.underlying4 (by kernel_rfl)
    (ChangeSpec.witness6 (enc := enc) (C := Try.checked) false ⟨#[], #[.slice none 0 0, .slice none 0 0], []⟩ 8 (by kernel_rfl) (by kernel_rfl) (by kernel_rfl) (by kernel_rfl)) ?_
  · intro ds hds
    match ds, hds with
    | [_, _], _ => rfl
  intro W base args ds p hval0 hA0
  have hval : ∀ (j : Nat) t v, Try.f10.params[j]? = some t → args[j]? = some v → Value.okWide Try.prog W .any base t v := hval0
  have hA : DataW.TrodAll enc Try.prog W 0 (fun _ => true) true Try.f10.params.toList args.toList ds p := hA0
  clear hA0 hval0
  show Calls Try.prog 10 args W _
  rw [Try.params10] at hA hval
  obtain ⟨v0, v1, d0, d1, p0, p1, hargs, rfl, rfl, h0, h1⟩ := trodAll_two hA
  obtain rfl : args = #[v0, v1] := by cases args; simp_all
  obtain ⟨a, n, c, es, rfl, hArr, hn, hb⟩ := open_upsIn (hval 0 29 v0 rfl rfl) h0
  obtain ⟨a2, n2, c2, es2, rfl, hArr2, hn2, hb2⟩ := open_upsIn (hval 1 29 v1 rfl rfl) h1
  exact (exUpdatesCross_ok a n c es a2 n2 c2 es2 W hArr hn hb hArr2 hn2 hb2).mono fun e w' h => ⟨h.1, h.2.below⟩

theorem exUpdatesCross_pkg : ¬ Check.packageOf Try.f10.name = "main" := by
  intro h
  have h2 := congrArg String.toList h
  simp only [Check.packageOf, Try.f10] at h2
  simp at h2

theorem exUpdatesCross_closed : lawFacts Try.prog 10 Try.f10 Rows.fnExactUpdatesCrossSpec Rows.fnExactUpdatesCrossRow = true := by kernel_rfl
theorem exUpdatesCross_facts : joinedFacts Try.pinned.checked.prog 10 Try.f10 Rows.fnExactUpdatesCrossSpec Rows.fnExactUpdatesCrossRow = true := facts_of (P := Try.prog) Try.facts exUpdatesCross_closed

theorem exUpdatesCross_wrap : Func.isWrapper Try.pinned.checked.prog Try.f10 Rows.fnExactUpdatesCrossRow.wrapper Rows.fnExactUpdatesCrossRow.mainSum := by
  have e1 : Rows.fnExactUpdatesCrossRow.wrapper = false := rfl
  have e2 : Rows.fnExactUpdatesCrossRow.mainSum = "" := rfl
  rw [e1, e2]
  exact wrapper_of Try.pinned.checked.prog Try.f10 exUpdatesCross_pkg

/-- The statement. -/
theorem exUpdatesCross_over : Rows.fnExactUpdatesCrossRow.holds Try.pinned (OpenSpec.ofChange Rows.fnExactUpdatesCrossSpec) :=
  OpenClaim.holds_of_wide 10 Try.f10 rfl rfl rfl rfl rfl rfl rfl ⟨rfl, rfl, rfl, rfl, rfl⟩ rfl rfl rfl rfl rfl (by kernel_rfl) Try.func10 exUpdatesCross_facts
    (of_decide_eq_true (by kernel_rfl)) exUpdatesCross_wrap
    (fun os started H enc _ => exUpdatesCross_lifted os started H enc)
theorem exUpdatesCross_holds : Rows.FnExactUpdatesCrossSaid := exUpdatesCross_over
#print axioms exUpdatesCross_holds

end Go.Proofs.Ytilpbddeijolbaa
