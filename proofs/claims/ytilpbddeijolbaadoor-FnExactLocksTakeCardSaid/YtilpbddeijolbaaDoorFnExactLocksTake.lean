/- The two programs agree on taking locks: the law FnExactLocksTake returns true: the row, and its card. No conditions. -/
import Derived.Test.YtilpbddeijolbaaDoorRefD
import Derived.Test.YtilpbddeijolbaaDoorRefL
import Derived.Test.YtilpbddeijolbaaDoorOpenC
import Derived.Test.YtilpbddeijolbaaDoorOpenU
import Derived.Test.YtilpbddeijolbaaDoorDoor
import Derived.Test.YtilpbddeijolbaaDoorCards
import Derived.Test.YtilpbddeijolbaaDoorTie
import Derived.SevenTiedAt
namespace Go.Proofs.YtilpbddeijolbaaDoor
open Go.ChangeShapes Go.WideShapes Go.ChangeAt Go.RowKit
set_option linter.unusedVariables false
set_option linter.unusedSimpArgs false

set_option maxRecDepth 100000 in
/-- laws.FnExactLocksTake -/
theorem exLocksTake_ok (A : Option Addr) (n : Nat) (c : Nat) (es : List (Int)) (t : Int) (A2 : Option Addr) (n2 : Nat) (c2 : Nat) (es2 : List (Int × Int × Int)) (a0 : Addr) (w0 : World) (hA : Arr w0 encInt 1 A es) (hn : (n : Int) = es.length) (hb : (n : Int) ≤ 9223372036854775807) (hA2 : Arr w0 encUp 3 A2 es2) (hn2 : (n2 : Int) = es2.length) (hb2 : (n2 : Int) ≤ 9223372036854775807) (hl_0 : 0 < w0.heap.size) (hm_0_0 : w0.cell? ⟨0, 0, none⟩ = some (.iface 78 (.pointer (some a0)))) :
    Calls Tryd.prog 3 #[.slice A n c, .int .i64 (t), .slice A2 n2 c2] w0 fun e w => e = .returned (.bool true) ∧ Own w0 [] [] w := by
  have O := Own.start w0
  refine enterO (n := 122) Tryd.func3 rfl rfl rfl O fun a w F O => ?_
  refine c_seq fun K1 hK1 => c_region (sp F (p_assign rfl) rfl rfl fun a F => c_nil (hK1 _ _ (?_)))
  try clear hK1 K1
  refine c_seq fun K2 hK2 => c_seq fun K3 hK3 => c_region (sp F (p_move rfl) rfl rfl fun a F => sp F (p_len_l rfl Tryd.underlying22) rfl rfl fun a F => sp F (p_gtr rfl rfl) rfl rfl fun a F => c_nil (hK3 _ _ (?_)))
  try clear hK3 K3
  by_cases c21 : 1048576 < (n : Int)
  · have F := F.setB (d := 21) rfl (decide_eq_true c21)
    refine c_ift F rfl (c_seq fun K4 hK4 => c_region (sp F (p_assign rfl) rfl rfl fun a F => c_nil (hK4 _ _ (?_))))
    try clear hK4 K4
    refine wp_ret (r_then (ret1 F rfl rfl (?_)))
    exact ⟨rfl, O⟩
  · have F := F.setB (d := 21) rfl (decide_eq_false c21)
    refine c_iff F rfl (wp_skip (hK2 _ _ (?_)))
    try clear hK2 K2
    refine c_seq fun K4 hK4 => c_region (sp F (p_assign rfl) rfl rfl fun a F => c_nil (hK4 _ _ (?_)))
    try clear hK4 K4
    refine c_seq fun K5 hK5 => c_region (sp F (p_move rfl) rfl rfl fun a F => sp F (p_move rfl) rfl rfl fun a F => so F rfl (o_call (vs := #[.slice A2 n2 c2, .int .i64 (1048576)]) F Tryd.en_6 rfl rfl ((szUpdateS_ok A2 n2 c2 es2 1048576 w (hA2.keep O) (by first | omega | (simp; done) | (simp; omega) | (simp at *; omega)) (by omega) (by omega) (by omega)).mono ?_)))
    rintro e w ⟨q24, rfl, h24a, K⟩
    refine ⟨_, rfl, fun a F => ?_⟩
    have O : Own w0 [] [] w := O.call0 K
    clear K
    have O : Own w0 [] [] w := O
    refine sp F (p_assign rfl) rfl rfl fun a F => c_nil (hK5 _ _ (?_))
    try clear hK5 K5
    refine c_seq fun K6 hK6 => c_seq fun K7 hK7 => c_region (sp F (p_move rfl) rfl rfl fun a F => sp F (p_lss rfl rfl) rfl rfl fun a F => c_nil (hK7 _ _ (?_)))
    try clear hK7 K7
    by_cases c26 : q24 < 0
    · have F := F.setB (d := 26) rfl (decide_eq_true c26)
      refine c_ift F rfl (c_seq fun K8 hK8 => c_region (sp F (p_assign rfl) rfl rfl fun a F => c_nil (hK8 _ _ (?_))))
      try clear hK8 K8
      refine wp_ret (r_then (ret1 F rfl rfl (?_)))
      exact ⟨rfl, O⟩
    · have F := F.setB (d := 26) rfl (decide_eq_false c26)
      refine c_iff F rfl (wp_skip (hK6 _ _ (?_)))
      try clear hK6 K6
      refine c_seq fun K8 hK8 => c_region (sp F (p_move rfl) rfl rfl fun a F => so F rfl (o_call (vs := #[.slice A n c]) F Tryd.en_8 rfl rfl ((toIntS_ok A n c es w (hA.keep O) (by first | omega | (simp; done) | (simp; omega) | (simp at *; omega)) (by omega)).mono ?_)))
      rintro e w ⟨b29, N29, rfl, h29a, K⟩
      refine ⟨_, rfl, fun a F => ?_⟩
      have O : Own w0 [] [.row 3 1 (.slice (some ⟨b29, 0, none⟩) N29 N29) N29 (es.flatMap encInt)] w := O.call0 K
      clear K
      have O : Own w0 [] [.row 3 1 (.slice (some ⟨b29, 0, none⟩) N29 N29) N29 (es.flatMap encInt)] w := O
      refine sp F (p_move rfl) rfl rfl fun a F => sp F (p_move rfl) rfl rfl fun a F => so F rfl (o_call (vs := #[.slice A2 n2 c2]) F Tryd.en_9 rfl rfl ((toUpdateS_ok A2 n2 c2 es2 w (hA2.keep O) (by first | omega | (simp; done) | (simp; omega) | (simp at *; omega)) (by omega)).mono ?_))
      rintro e w ⟨b32, N32, rfl, h32a, K⟩
      refine ⟨_, rfl, fun a F => ?_⟩
      have O : Own w0 [] [.row 39 3 (.slice (some ⟨b32, 0, none⟩) N32 N32) N32 (es2.flatMap encUp), .row 3 1 (.slice (some ⟨b29, 0, none⟩) N29 N29) N29 (es.flatMap encInt)] w := O.call0 K
      clear K
      have O : Own w0 [] [.row 39 3 (.slice (some ⟨b32, 0, none⟩) N32 N32) N32 (es2.flatMap encUp), .row 3 1 (.slice (some ⟨b29, 0, none⟩) N29 N29) N29 (es.flatMap encInt)] w := O
      refine so F rfl (o_call (vs := #[.slice (some ⟨b29, 0, none⟩) N29 N29, .int .i64 (t), .slice (some ⟨b32, 0, none⟩) N32 N32]) F Tryd.en_7 rfl rfl ((sLocksTake_ok (some ⟨b29, 0, none⟩) N29 N29 es t (some ⟨b32, 0, none⟩) N32 N32 es2 w (O.arr 1 (es := es) rfl encInt_len (by decide)) (by first | omega | (simp; done) | (simp; omega) | (simp at *; omega)) (by omega) (O.arr 0 (es := es2) rfl encUp_len (by decide)) (by first | omega | (simp; done) | (simp; omega) | (simp at *; omega)) (by omega)).mono ?_))
      rintro e w ⟨P33, N33, C33, rfl, h33a, h33b, K⟩
      refine ⟨_, rfl, fun a F => ?_⟩
      have O : Own w0 [] [.row 3 1 (.slice P33 N33 C33) N33 ((LT es t es2).flatMap encInt), .row 39 3 (.slice (some ⟨b32, 0, none⟩) N32 N32) N32 (es2.flatMap encUp), .row 3 1 (.slice (some ⟨b29, 0, none⟩) N29 N29) N29 (es.flatMap encInt)] w := O.call0 K
      clear K
      have O : Own w0 [] [.row 3 1 (.slice P33 N33 C33) N33 ((LT es t es2).flatMap encInt), .row 39 3 (.slice (some ⟨b32, 0, none⟩) N32 N32) N32 (es2.flatMap encUp), .row 3 1 (.slice (some ⟨b29, 0, none⟩) N29 N29) N29 (es.flatMap encInt)] w := O
      refine sp F (p_move rfl) rfl rfl fun a F => sp F (p_extract rfl rfl) rfl rfl fun a F => sp F (p_extract rfl rfl) rfl rfl fun a F => sp F (p_assign rfl) rfl rfl fun a F => sp F (p_assign rfl) rfl rfl fun a F => c_nil (hK8 _ _ (?_))
      try clear hK8 K8
      refine c_seq fun K9 hK9 => c_region (sp F (p_move rfl) rfl rfl fun a F => so F rfl (o_call (vs := #[.slice A n c]) F Tryd.en_8 rfl rfl ((toIntS_ok A n c es w (hA.keep O) (by first | omega | (simp; done) | (simp; omega) | (simp at *; omega)) (by omega)).mono ?_)))
      rintro e w ⟨b37, N37, rfl, h37a, K⟩
      refine ⟨_, rfl, fun a F => ?_⟩
      have O : Own w0 [] [.row 3 1 (.slice (some ⟨b37, 0, none⟩) N37 N37) N37 (es.flatMap encInt), .row 3 1 (.slice P33 N33 C33) N33 ((LT es t es2).flatMap encInt), .row 39 3 (.slice (some ⟨b32, 0, none⟩) N32 N32) N32 (es2.flatMap encUp), .row 3 1 (.slice (some ⟨b29, 0, none⟩) N29 N29) N29 (es.flatMap encInt)] w := O.call0 K
      clear K
      have O : Own w0 [] [.row 3 1 (.slice (some ⟨b37, 0, none⟩) N37 N37) N37 (es.flatMap encInt), .row 3 1 (.slice P33 N33 C33) N33 ((LT es t es2).flatMap encInt), .row 39 3 (.slice (some ⟨b32, 0, none⟩) N32 N32) N32 (es2.flatMap encUp), .row 3 1 (.slice (some ⟨b29, 0, none⟩) N29 N29) N29 (es.flatMap encInt)] w := O
      refine sp F (p_assign rfl) rfl rfl fun a F => c_nil (hK9 _ _ (?_))
      try clear hK9 K9
      refine c_seq fun K10 hK10 => c_region (sp F (p_move rfl) rfl rfl fun a F => so F rfl (o_call (vs := #[.slice A2 n2 c2]) F Tryd.en_9 rfl rfl ((toUpdateS_ok A2 n2 c2 es2 w (hA2.keep O) (by first | omega | (simp; done) | (simp; omega) | (simp at *; omega)) (by omega)).mono ?_)))
      rintro e w ⟨b39, N39, rfl, h39a, K⟩
      refine ⟨_, rfl, fun a F => ?_⟩
      have O : Own w0 [] [.row 39 3 (.slice (some ⟨b39, 0, none⟩) N39 N39) N39 (es2.flatMap encUp), .row 3 1 (.slice (some ⟨b37, 0, none⟩) N37 N37) N37 (es.flatMap encInt), .row 3 1 (.slice P33 N33 C33) N33 ((LT es t es2).flatMap encInt), .row 39 3 (.slice (some ⟨b32, 0, none⟩) N32 N32) N32 (es2.flatMap encUp), .row 3 1 (.slice (some ⟨b29, 0, none⟩) N29 N29) N29 (es.flatMap encInt)] w := O.call0 K
      clear K
      have O : Own w0 [] [.row 39 3 (.slice (some ⟨b39, 0, none⟩) N39 N39) N39 (es2.flatMap encUp), .row 3 1 (.slice (some ⟨b37, 0, none⟩) N37 N37) N37 (es.flatMap encInt), .row 3 1 (.slice P33 N33 C33) N33 ((LT es t es2).flatMap encInt), .row 39 3 (.slice (some ⟨b32, 0, none⟩) N32 N32) N32 (es2.flatMap encUp), .row 3 1 (.slice (some ⟨b29, 0, none⟩) N29 N29) N29 (es.flatMap encInt)] w := O
      refine sp F (p_assign rfl) rfl rfl fun a F => c_nil (hK10 _ _ (?_))
      try clear hK10 K10
      refine c_seq fun K11 hK11 => c_region (sp F (p_move rfl) rfl rfl fun a F => sp F (p_move rfl) rfl rfl fun a F => sp F (p_move rfl) rfl rfl fun a F => so F rfl (o_call (vs := #[.slice (some ⟨b37, 0, none⟩) N37 N37, .int .i64 (t), .slice (some ⟨b39, 0, none⟩) N39 N39]) F Tryd.en_10 rfl rfl ((iLocksTake_ok (some ⟨b37, 0, none⟩) N37 N37 es t (some ⟨b39, 0, none⟩) N39 N39 es2 a0 w (O.arr 1 (es := es) rfl encInt_len (by decide)) (by first | omega | (simp; done) | (simp; omega) | (simp at *; omega)) (by omega) (O.arr 0 (es := es2) rfl encUp_len (by decide)) (by first | omega | (simp; done) | (simp; omega) | (simp at *; omega)) (by omega) (Nat.lt_of_lt_of_le hl_0 O.size) (((O.old hl_0 (by simp)).trans hm_0_0))).mono ?_)))
      rintro e w ⟨P44, N44, C44, rfl, h44a, h44b, K⟩
      refine ⟨_, rfl, fun a F => ?_⟩
      have O : Own w0 [] [.row 3 1 (.slice P44 N44 C44) N44 ((LT es t es2).flatMap encInt), .row 39 3 (.slice (some ⟨b39, 0, none⟩) N39 N39) N39 (es2.flatMap encUp), .row 3 1 (.slice (some ⟨b37, 0, none⟩) N37 N37) N37 (es.flatMap encInt), .row 3 1 (.slice P33 N33 C33) N33 ((LT es t es2).flatMap encInt), .row 39 3 (.slice (some ⟨b32, 0, none⟩) N32 N32) N32 (es2.flatMap encUp), .row 3 1 (.slice (some ⟨b29, 0, none⟩) N29 N29) N29 (es.flatMap encInt)] w := O.call0 K
      clear K
      have O : Own w0 [] [.row 3 1 (.slice P44 N44 C44) N44 ((LT es t es2).flatMap encInt), .row 39 3 (.slice (some ⟨b39, 0, none⟩) N39 N39) N39 (es2.flatMap encUp), .row 3 1 (.slice (some ⟨b37, 0, none⟩) N37 N37) N37 (es.flatMap encInt), .row 3 1 (.slice P33 N33 C33) N33 ((LT es t es2).flatMap encInt), .row 39 3 (.slice (some ⟨b32, 0, none⟩) N32 N32) N32 (es2.flatMap encUp), .row 3 1 (.slice (some ⟨b29, 0, none⟩) N29 N29) N29 (es.flatMap encInt)] w := O
      refine sp F (p_move rfl) rfl rfl fun a F => sp F (p_extract rfl rfl) rfl rfl fun a F => sp F (p_extract rfl rfl) rfl rfl fun a F => sp F (p_assign rfl) rfl rfl fun a F => sp F (p_assign rfl) rfl rfl fun a F => c_nil (hK11 _ _ (?_))
      try clear hK11 K11
      refine c_seq fun K12 hK12 => c_seq fun K13 hK13 => c_region (sp F (p_move rfl) rfl rfl fun a F => sp F (p_move rfl) rfl rfl fun a F => so F rfl (o_call (vs := #[.slice P44 N44 C44, .slice P33 N33 C33]) F Tryd.en_11 rfl rfl ((eqIntS_ok P44 N44 C44 (LT es t es2) P33 N33 C33 (LT es t es2) w (O.arr 0 (es := LT es t es2) rfl encInt_len (by decide)) (by first | omega | (simp; done) | (simp; omega) | (simp at *; omega)) (by omega) (O.arr 3 (es := LT es t es2) rfl encInt_len (by decide)) (by first | omega | (simp; done) | (simp; omega) | (simp at *; omega)) (by omega)).mono ?_)))
      rintro e w ⟨rfl, K⟩
      refine ⟨_, rfl, fun a F => ?_⟩
      have O : Own w0 [] [.row 3 1 (.slice P44 N44 C44) N44 ((LT es t es2).flatMap encInt), .row 39 3 (.slice (some ⟨b39, 0, none⟩) N39 N39) N39 (es2.flatMap encUp), .row 3 1 (.slice (some ⟨b37, 0, none⟩) N37 N37) N37 (es.flatMap encInt), .row 3 1 (.slice P33 N33 C33) N33 ((LT es t es2).flatMap encInt), .row 39 3 (.slice (some ⟨b32, 0, none⟩) N32 N32) N32 (es2.flatMap encUp), .row 3 1 (.slice (some ⟨b29, 0, none⟩) N29 N29) N29 (es.flatMap encInt)] w := O.call0 K
      clear K
      have c49 : (LT es t es2) = (LT es t es2) := by rfl
      have F := F.setB (d := 49) rfl (decide_eq_true c49)
      have O : Own w0 [] [.row 3 1 (.slice P44 N44 C44) N44 ((LT es t es2).flatMap encInt), .row 39 3 (.slice (some ⟨b39, 0, none⟩) N39 N39) N39 (es2.flatMap encUp), .row 3 1 (.slice (some ⟨b37, 0, none⟩) N37 N37) N37 (es.flatMap encInt), .row 3 1 (.slice P33 N33 C33) N33 ((LT es t es2).flatMap encInt), .row 39 3 (.slice (some ⟨b32, 0, none⟩) N32 N32) N32 (es2.flatMap encUp), .row 3 1 (.slice (some ⟨b29, 0, none⟩) N29 N29) N29 (es.flatMap encInt)] w := O
      refine sp F (p_not rfl) rfl rfl fun a F => sp F (p_move rfl) rfl rfl fun a F => sp F (p_move rfl) rfl rfl fun a F => sp F (p_move rfl) rfl rfl fun a F => sp F (p_bneL rfl rfl Tryd.underlying4 false (by simp)) rfl rfl fun a F => sp F (p_pick (t := false) rfl rfl) rfl rfl fun a F => c_nil (hK13 _ _ (?_))
      try clear hK13 K13
      refine c_iff F rfl (wp_skip (hK12 _ _ (?_)))
      try clear hK12 K12
      refine c_seq fun K14 hK14 => c_seq fun K15 hK15 => c_region (sp F (p_move rfl) rfl rfl fun a F => sp F (p_move rfl) rfl rfl fun a F => so F rfl (o_call (vs := #[.slice A n c]) F Tryd.en_8 rfl rfl ((toIntS_ok A n c es w (hA.keep O) (by first | omega | (simp; done) | (simp; omega) | (simp at *; omega)) (by omega)).mono ?_)))
      rintro e w ⟨b58, N58, rfl, h58a, K⟩
      refine ⟨_, rfl, fun a F => ?_⟩
      have O : Own w0 [] [.row 3 1 (.slice (some ⟨b58, 0, none⟩) N58 N58) N58 (es.flatMap encInt), .row 3 1 (.slice P44 N44 C44) N44 ((LT es t es2).flatMap encInt), .row 39 3 (.slice (some ⟨b39, 0, none⟩) N39 N39) N39 (es2.flatMap encUp), .row 3 1 (.slice (some ⟨b37, 0, none⟩) N37 N37) N37 (es.flatMap encInt), .row 3 1 (.slice P33 N33 C33) N33 ((LT es t es2).flatMap encInt), .row 39 3 (.slice (some ⟨b32, 0, none⟩) N32 N32) N32 (es2.flatMap encUp), .row 3 1 (.slice (some ⟨b29, 0, none⟩) N29 N29) N29 (es.flatMap encInt)] w := O.call0 K
      clear K
      have O : Own w0 [] [.row 3 1 (.slice (some ⟨b58, 0, none⟩) N58 N58) N58 (es.flatMap encInt), .row 3 1 (.slice P44 N44 C44) N44 ((LT es t es2).flatMap encInt), .row 39 3 (.slice (some ⟨b39, 0, none⟩) N39 N39) N39 (es2.flatMap encUp), .row 3 1 (.slice (some ⟨b37, 0, none⟩) N37 N37) N37 (es.flatMap encInt), .row 3 1 (.slice P33 N33 C33) N33 ((LT es t es2).flatMap encInt), .row 39 3 (.slice (some ⟨b32, 0, none⟩) N32 N32) N32 (es2.flatMap encUp), .row 3 1 (.slice (some ⟨b29, 0, none⟩) N29 N29) N29 (es.flatMap encInt)] w := O
      refine so F rfl (o_call (vs := #[.slice (some ⟨b37, 0, none⟩) N37 N37, .slice (some ⟨b58, 0, none⟩) N58 N58]) F Tryd.en_11 rfl rfl ((eqIntS_ok (some ⟨b37, 0, none⟩) N37 N37 es (some ⟨b58, 0, none⟩) N58 N58 es w (O.arr 3 (es := es) rfl encInt_len (by decide)) (by first | omega | (simp; done) | (simp; omega) | (simp at *; omega)) (by omega) (O.arr 0 (es := es) rfl encInt_len (by decide)) (by first | omega | (simp; done) | (simp; omega) | (simp at *; omega)) (by omega)).mono ?_))
      rintro e w ⟨rfl, K⟩
      refine ⟨_, rfl, fun a F => ?_⟩
      have O : Own w0 [] [.row 3 1 (.slice (some ⟨b58, 0, none⟩) N58 N58) N58 (es.flatMap encInt), .row 3 1 (.slice P44 N44 C44) N44 ((LT es t es2).flatMap encInt), .row 39 3 (.slice (some ⟨b39, 0, none⟩) N39 N39) N39 (es2.flatMap encUp), .row 3 1 (.slice (some ⟨b37, 0, none⟩) N37 N37) N37 (es.flatMap encInt), .row 3 1 (.slice P33 N33 C33) N33 ((LT es t es2).flatMap encInt), .row 39 3 (.slice (some ⟨b32, 0, none⟩) N32 N32) N32 (es2.flatMap encUp), .row 3 1 (.slice (some ⟨b29, 0, none⟩) N29 N29) N29 (es.flatMap encInt)] w := O.call0 K
      clear K
      have c59 : es = es := by rfl
      have F := F.setB (d := 59) rfl (decide_eq_true c59)
      have O : Own w0 [] [.row 3 1 (.slice (some ⟨b58, 0, none⟩) N58 N58) N58 (es.flatMap encInt), .row 3 1 (.slice P44 N44 C44) N44 ((LT es t es2).flatMap encInt), .row 39 3 (.slice (some ⟨b39, 0, none⟩) N39 N39) N39 (es2.flatMap encUp), .row 3 1 (.slice (some ⟨b37, 0, none⟩) N37 N37) N37 (es.flatMap encInt), .row 3 1 (.slice P33 N33 C33) N33 ((LT es t es2).flatMap encInt), .row 39 3 (.slice (some ⟨b32, 0, none⟩) N32 N32) N32 (es2.flatMap encUp), .row 3 1 (.slice (some ⟨b29, 0, none⟩) N29 N29) N29 (es.flatMap encInt)] w := O
      refine sp F (p_not rfl) rfl rfl fun a F => c_nil (hK15 _ _ (?_))
      try clear hK15 K15
      refine c_iff F rfl (wp_skip (hK14 _ _ (?_)))
      try clear hK14 K14
      refine c_seq fun K16 hK16 => c_seq fun K17 hK17 => c_region (sp F (p_move rfl) rfl rfl fun a F => sp F (p_move rfl) rfl rfl fun a F => so F rfl (o_call (vs := #[.slice A2 n2 c2]) F Tryd.en_9 rfl rfl ((toUpdateS_ok A2 n2 c2 es2 w (hA2.keep O) (by first | omega | (simp; done) | (simp; omega) | (simp at *; omega)) (by omega)).mono ?_)))
      rintro e w ⟨b63, N63, rfl, h63a, K⟩
      refine ⟨_, rfl, fun a F => ?_⟩
      have O : Own w0 [] [.row 39 3 (.slice (some ⟨b63, 0, none⟩) N63 N63) N63 (es2.flatMap encUp), .row 3 1 (.slice (some ⟨b58, 0, none⟩) N58 N58) N58 (es.flatMap encInt), .row 3 1 (.slice P44 N44 C44) N44 ((LT es t es2).flatMap encInt), .row 39 3 (.slice (some ⟨b39, 0, none⟩) N39 N39) N39 (es2.flatMap encUp), .row 3 1 (.slice (some ⟨b37, 0, none⟩) N37 N37) N37 (es.flatMap encInt), .row 3 1 (.slice P33 N33 C33) N33 ((LT es t es2).flatMap encInt), .row 39 3 (.slice (some ⟨b32, 0, none⟩) N32 N32) N32 (es2.flatMap encUp), .row 3 1 (.slice (some ⟨b29, 0, none⟩) N29 N29) N29 (es.flatMap encInt)] w := O.call0 K
      clear K
      have O : Own w0 [] [.row 39 3 (.slice (some ⟨b63, 0, none⟩) N63 N63) N63 (es2.flatMap encUp), .row 3 1 (.slice (some ⟨b58, 0, none⟩) N58 N58) N58 (es.flatMap encInt), .row 3 1 (.slice P44 N44 C44) N44 ((LT es t es2).flatMap encInt), .row 39 3 (.slice (some ⟨b39, 0, none⟩) N39 N39) N39 (es2.flatMap encUp), .row 3 1 (.slice (some ⟨b37, 0, none⟩) N37 N37) N37 (es.flatMap encInt), .row 3 1 (.slice P33 N33 C33) N33 ((LT es t es2).flatMap encInt), .row 39 3 (.slice (some ⟨b32, 0, none⟩) N32 N32) N32 (es2.flatMap encUp), .row 3 1 (.slice (some ⟨b29, 0, none⟩) N29 N29) N29 (es.flatMap encInt)] w := O
      refine so F rfl (o_call (vs := #[.slice (some ⟨b39, 0, none⟩) N39 N39, .slice (some ⟨b63, 0, none⟩) N63 N63]) F Tryd.en_12 rfl rfl ((eqUpdateS_ok (some ⟨b39, 0, none⟩) N39 N39 es2 (some ⟨b63, 0, none⟩) N63 N63 es2 w (O.arr 3 (es := es2) rfl encUp_len (by decide)) (by first | omega | (simp; done) | (simp; omega) | (simp at *; omega)) (by omega) (O.arr 0 (es := es2) rfl encUp_len (by decide)) (by first | omega | (simp; done) | (simp; omega) | (simp at *; omega)) (by omega)).mono ?_))
      rintro e w ⟨rfl, K⟩
      refine ⟨_, rfl, fun a F => ?_⟩
      have O : Own w0 [] [.row 39 3 (.slice (some ⟨b63, 0, none⟩) N63 N63) N63 (es2.flatMap encUp), .row 3 1 (.slice (some ⟨b58, 0, none⟩) N58 N58) N58 (es.flatMap encInt), .row 3 1 (.slice P44 N44 C44) N44 ((LT es t es2).flatMap encInt), .row 39 3 (.slice (some ⟨b39, 0, none⟩) N39 N39) N39 (es2.flatMap encUp), .row 3 1 (.slice (some ⟨b37, 0, none⟩) N37 N37) N37 (es.flatMap encInt), .row 3 1 (.slice P33 N33 C33) N33 ((LT es t es2).flatMap encInt), .row 39 3 (.slice (some ⟨b32, 0, none⟩) N32 N32) N32 (es2.flatMap encUp), .row 3 1 (.slice (some ⟨b29, 0, none⟩) N29 N29) N29 (es.flatMap encInt)] w := O.call0 K
      clear K
      have c64 : es2 = es2 := by rfl
      have F := F.setB (d := 64) rfl (decide_eq_true c64)
      have O : Own w0 [] [.row 39 3 (.slice (some ⟨b63, 0, none⟩) N63 N63) N63 (es2.flatMap encUp), .row 3 1 (.slice (some ⟨b58, 0, none⟩) N58 N58) N58 (es.flatMap encInt), .row 3 1 (.slice P44 N44 C44) N44 ((LT es t es2).flatMap encInt), .row 39 3 (.slice (some ⟨b39, 0, none⟩) N39 N39) N39 (es2.flatMap encUp), .row 3 1 (.slice (some ⟨b37, 0, none⟩) N37 N37) N37 (es.flatMap encInt), .row 3 1 (.slice P33 N33 C33) N33 ((LT es t es2).flatMap encInt), .row 39 3 (.slice (some ⟨b32, 0, none⟩) N32 N32) N32 (es2.flatMap encUp), .row 3 1 (.slice (some ⟨b29, 0, none⟩) N29 N29) N29 (es.flatMap encInt)] w := O
      refine sp F (p_not rfl) rfl rfl fun a F => c_nil (hK17 _ _ (?_))
      try clear hK17 K17
      refine c_iff F rfl (wp_skip (hK16 _ _ (?_)))
      try clear hK16 K16
      refine c_seq fun K18 hK18 => c_region (sp F (p_assign rfl) rfl rfl fun a F => c_nil (hK18 _ _ (?_)))
      try clear hK18 K18
      refine c_seq fun K19 hK19 => c_region (sp F (p_move rfl) rfl rfl fun a F => sp F (p_move rfl) rfl rfl fun a F => ?_)
      have O := O.pull 4 rfl
      have O : Own w0 [] [.row 3 1 (.slice (some ⟨b37, 0, none⟩) N37 N37) N37 (es.flatMap encInt), .row 39 3 (.slice (some ⟨b63, 0, none⟩) N63 N63) N63 (es2.flatMap encUp), .row 3 1 (.slice (some ⟨b58, 0, none⟩) N58 N58) N58 (es.flatMap encInt), .row 3 1 (.slice P44 N44 C44) N44 ((LT es t es2).flatMap encInt), .row 39 3 (.slice (some ⟨b39, 0, none⟩) N39 N39) N39 (es2.flatMap encUp), .row 3 1 (.slice P33 N33 C33) N33 ((LT es t es2).flatMap encInt), .row 39 3 (.slice (some ⟨b32, 0, none⟩) N32 N32) N32 (es2.flatMap encUp), .row 3 1 (.slice (some ⟨b29, 0, none⟩) N29 N29) N29 (es.flatMap encInt)] w := O
      refine so F rfl (o_call (vs := #[.slice (some ⟨b37, 0, none⟩) N37 N37, .int .i64 (1)]) F Tryd.en_13 rfl rfl ((markIntS_some b37 N37 N37 es 1 w (by first | omega | (simp; done) | (simp; omega) | (simp at *; omega)) (by omega) (by omega) (by omega) (O.hand1 rfl)).mono ?_))
      rintro e w ⟨es168, rfl, h68a, h68b, K⟩
      refine ⟨_, rfl, fun a F => ?_⟩
      have O : Own w0 [] [.row 3 1 (.slice (some ⟨b37, 0, none⟩) N37 N37) N37 (es168.flatMap encInt), .row 39 3 (.slice (some ⟨b63, 0, none⟩) N63 N63) N63 (es2.flatMap encUp), .row 3 1 (.slice (some ⟨b58, 0, none⟩) N58 N58) N58 (es.flatMap encInt), .row 3 1 (.slice P44 N44 C44) N44 ((LT es t es2).flatMap encInt), .row 39 3 (.slice (some ⟨b39, 0, none⟩) N39 N39) N39 (es2.flatMap encUp), .row 3 1 (.slice P33 N33 C33) N33 ((LT es t es2).flatMap encInt), .row 39 3 (.slice (some ⟨b32, 0, none⟩) N32 N32) N32 (es2.flatMap encUp), .row 3 1 (.slice (some ⟨b29, 0, none⟩) N29 N29) N29 (es.flatMap encInt)] w := O.call1 K rfl
      clear K
      have O : Own w0 [] [.row 3 1 (.slice (some ⟨b37, 0, none⟩) N37 N37) N37 (es168.flatMap encInt), .row 39 3 (.slice (some ⟨b63, 0, none⟩) N63 N63) N63 (es2.flatMap encUp), .row 3 1 (.slice (some ⟨b58, 0, none⟩) N58 N58) N58 (es.flatMap encInt), .row 3 1 (.slice P44 N44 C44) N44 ((LT es t es2).flatMap encInt), .row 39 3 (.slice (some ⟨b39, 0, none⟩) N39 N39) N39 (es2.flatMap encUp), .row 3 1 (.slice P33 N33 C33) N33 ((LT es t es2).flatMap encInt), .row 39 3 (.slice (some ⟨b32, 0, none⟩) N32 N32) N32 (es2.flatMap encUp), .row 3 1 (.slice (some ⟨b29, 0, none⟩) N29 N29) N29 (es.flatMap encInt)] w := O
      refine sp F (p_assign rfl) rfl rfl fun a F => c_nil (hK19 _ _ (?_))
      try clear hK19 K19
      refine c_seq fun K20 hK20 => c_region (sp F (p_move rfl) rfl rfl fun a F => sp F (p_move rfl) rfl rfl fun a F => ?_)
      have O := O.pull 4 rfl
      have O : Own w0 [] [.row 39 3 (.slice (some ⟨b39, 0, none⟩) N39 N39) N39 (es2.flatMap encUp), .row 3 1 (.slice (some ⟨b37, 0, none⟩) N37 N37) N37 (es168.flatMap encInt), .row 39 3 (.slice (some ⟨b63, 0, none⟩) N63 N63) N63 (es2.flatMap encUp), .row 3 1 (.slice (some ⟨b58, 0, none⟩) N58 N58) N58 (es.flatMap encInt), .row 3 1 (.slice P44 N44 C44) N44 ((LT es t es2).flatMap encInt), .row 3 1 (.slice P33 N33 C33) N33 ((LT es t es2).flatMap encInt), .row 39 3 (.slice (some ⟨b32, 0, none⟩) N32 N32) N32 (es2.flatMap encUp), .row 3 1 (.slice (some ⟨b29, 0, none⟩) N29 N29) N29 (es.flatMap encInt)] w := O
      refine so F rfl (o_call (vs := #[.slice (some ⟨b39, 0, none⟩) N39 N39, .int .i64 (1 + (N37 : Int))]) F Tryd.en_14 rfl rfl ((markUpdateS_some b39 N39 N39 es2 (1 + (N37 : Int)) w (by first | omega | (simp; done) | (simp; omega) | (simp at *; omega)) (by omega) (by omega) (by omega) (O.hand1 rfl)).mono ?_))
      rintro e w ⟨es171, rfl, h71a, h71b, K⟩
      refine ⟨_, rfl, fun a F => ?_⟩
      have O : Own w0 [] [.row 39 3 (.slice (some ⟨b39, 0, none⟩) N39 N39) N39 (es171.flatMap encUp), .row 3 1 (.slice (some ⟨b37, 0, none⟩) N37 N37) N37 (es168.flatMap encInt), .row 39 3 (.slice (some ⟨b63, 0, none⟩) N63 N63) N63 (es2.flatMap encUp), .row 3 1 (.slice (some ⟨b58, 0, none⟩) N58 N58) N58 (es.flatMap encInt), .row 3 1 (.slice P44 N44 C44) N44 ((LT es t es2).flatMap encInt), .row 3 1 (.slice P33 N33 C33) N33 ((LT es t es2).flatMap encInt), .row 39 3 (.slice (some ⟨b32, 0, none⟩) N32 N32) N32 (es2.flatMap encUp), .row 3 1 (.slice (some ⟨b29, 0, none⟩) N29 N29) N29 (es.flatMap encInt)] w := O.call1 K rfl
      clear K
      have O : Own w0 [] [.row 39 3 (.slice (some ⟨b39, 0, none⟩) N39 N39) N39 (es171.flatMap encUp), .row 3 1 (.slice (some ⟨b37, 0, none⟩) N37 N37) N37 (es168.flatMap encInt), .row 39 3 (.slice (some ⟨b63, 0, none⟩) N63 N63) N63 (es2.flatMap encUp), .row 3 1 (.slice (some ⟨b58, 0, none⟩) N58 N58) N58 (es.flatMap encInt), .row 3 1 (.slice P44 N44 C44) N44 ((LT es t es2).flatMap encInt), .row 3 1 (.slice P33 N33 C33) N33 ((LT es t es2).flatMap encInt), .row 39 3 (.slice (some ⟨b32, 0, none⟩) N32 N32) N32 (es2.flatMap encUp), .row 3 1 (.slice (some ⟨b29, 0, none⟩) N29 N29) N29 (es.flatMap encInt)] w := O
      refine sp F (p_assign rfl) rfl rfl fun a F => c_nil (hK20 _ _ (?_))
      try clear hK20 K20
      refine c_seq fun K21 hK21 => c_seq fun K22 hK22 => c_region (sp F (p_move rfl) rfl rfl fun a F => sp F (p_lss rfl rfl) rfl rfl fun a F => ?_)
      have c73 : ¬ (((1 + (N37 : Int)) + 3 * (N39 : Int)) < 0) := by omega
      have F := F.setB (d := 73) rfl (decide_eq_false c73)
      refine sp F (p_move rfl) rfl rfl fun a F => sp F (p_move rfl) rfl rfl fun a F => sp F (p_move rfl) rfl rfl fun a F => so F rfl (o_call (vs := #[.slice P44 N44 C44, .slice P33 N33 C33]) F Tryd.en_11 rfl rfl ((eqIntS_ok P44 N44 C44 (LT es t es2) P33 N33 C33 (LT es t es2) w (O.arr 4 (es := LT es t es2) rfl encInt_len (by decide)) (by first | omega | (simp; done) | (simp; omega) | (simp at *; omega)) (by omega) (O.arr 5 (es := LT es t es2) rfl encInt_len (by decide)) (by first | omega | (simp; done) | (simp; omega) | (simp at *; omega)) (by omega)).mono ?_))
      rintro e w ⟨rfl, K⟩
      refine ⟨_, rfl, fun a F => ?_⟩
      have O : Own w0 [] [.row 39 3 (.slice (some ⟨b39, 0, none⟩) N39 N39) N39 (es171.flatMap encUp), .row 3 1 (.slice (some ⟨b37, 0, none⟩) N37 N37) N37 (es168.flatMap encInt), .row 39 3 (.slice (some ⟨b63, 0, none⟩) N63 N63) N63 (es2.flatMap encUp), .row 3 1 (.slice (some ⟨b58, 0, none⟩) N58 N58) N58 (es.flatMap encInt), .row 3 1 (.slice P44 N44 C44) N44 ((LT es t es2).flatMap encInt), .row 3 1 (.slice P33 N33 C33) N33 ((LT es t es2).flatMap encInt), .row 39 3 (.slice (some ⟨b32, 0, none⟩) N32 N32) N32 (es2.flatMap encUp), .row 3 1 (.slice (some ⟨b29, 0, none⟩) N29 N29) N29 (es.flatMap encInt)] w := O.call0 K
      clear K
      have F := F.setB (d := 77) rfl (decide_eq_true c49)
      have O : Own w0 [] [.row 39 3 (.slice (some ⟨b39, 0, none⟩) N39 N39) N39 (es171.flatMap encUp), .row 3 1 (.slice (some ⟨b37, 0, none⟩) N37 N37) N37 (es168.flatMap encInt), .row 39 3 (.slice (some ⟨b63, 0, none⟩) N63 N63) N63 (es2.flatMap encUp), .row 3 1 (.slice (some ⟨b58, 0, none⟩) N58 N58) N58 (es.flatMap encInt), .row 3 1 (.slice P44 N44 C44) N44 ((LT es t es2).flatMap encInt), .row 3 1 (.slice P33 N33 C33) N33 ((LT es t es2).flatMap encInt), .row 39 3 (.slice (some ⟨b32, 0, none⟩) N32 N32) N32 (es2.flatMap encUp), .row 3 1 (.slice (some ⟨b29, 0, none⟩) N29 N29) N29 (es.flatMap encInt)] w := O
      refine sp F (p_not rfl) rfl rfl fun a F => sp F (p_pick (t := false) rfl rfl) rfl rfl fun a F => sp F (p_move rfl) rfl rfl fun a F => sp F (p_move rfl) rfl rfl fun a F => sp F (p_move rfl) rfl rfl fun a F => sp F (p_bneL rfl rfl Tryd.underlying4 false (by simp)) rfl rfl fun a F => sp F (p_pick (t := false) rfl rfl) rfl rfl fun a F => c_nil (hK22 _ _ (?_))
      try clear hK22 K22
      refine c_iff F rfl (wp_skip (hK21 _ _ (?_)))
      try clear hK21 K21
      refine c_seq fun K23 hK23 => c_region (sp F (p_assign rfl) rfl rfl fun a F => c_nil (hK23 _ _ (?_)))
      try clear hK23 K23
      refine c_seq fun K24 hK24 => c_region (sp F (p_move rfl) rfl rfl fun a F => sp F (p_move rfl) rfl rfl fun a F => ?_)
      have O := O.pull 4 rfl
      have O : Own w0 [] [.row 3 1 (.slice P44 N44 C44) N44 ((LT es t es2).flatMap encInt), .row 39 3 (.slice (some ⟨b39, 0, none⟩) N39 N39) N39 (es171.flatMap encUp), .row 3 1 (.slice (some ⟨b37, 0, none⟩) N37 N37) N37 (es168.flatMap encInt), .row 39 3 (.slice (some ⟨b63, 0, none⟩) N63 N63) N63 (es2.flatMap encUp), .row 3 1 (.slice (some ⟨b58, 0, none⟩) N58 N58) N58 (es.flatMap encInt), .row 3 1 (.slice P33 N33 C33) N33 ((LT es t es2).flatMap encInt), .row 39 3 (.slice (some ⟨b32, 0, none⟩) N32 N32) N32 (es2.flatMap encUp), .row 3 1 (.slice (some ⟨b29, 0, none⟩) N29 N29) N29 (es.flatMap encInt)] w := O
      refine so F rfl (o_call (vs := #[.slice P44 N44 C44, .int .i64 (1)]) F Tryd.en_13 rfl rfl ((markIntS P44 N44 C44 (LT es t es2) 1 w (by first | omega | (simp; done) | (simp; omega) | (simp at *; omega)) (by omega) (by omega) (by omega) O.handR).mono ?_))
      rintro e w ⟨es187, rfl, h87a, h87b, K⟩
      refine ⟨_, rfl, fun a F => ?_⟩
      have O : Own w0 [] [.row 3 1 (.slice P44 N44 C44) N44 (es187.flatMap encInt), .row 39 3 (.slice (some ⟨b39, 0, none⟩) N39 N39) N39 (es171.flatMap encUp), .row 3 1 (.slice (some ⟨b37, 0, none⟩) N37 N37) N37 (es168.flatMap encInt), .row 39 3 (.slice (some ⟨b63, 0, none⟩) N63 N63) N63 (es2.flatMap encUp), .row 3 1 (.slice (some ⟨b58, 0, none⟩) N58 N58) N58 (es.flatMap encInt), .row 3 1 (.slice P33 N33 C33) N33 ((LT es t es2).flatMap encInt), .row 39 3 (.slice (some ⟨b32, 0, none⟩) N32 N32) N32 (es2.flatMap encUp), .row 3 1 (.slice (some ⟨b29, 0, none⟩) N29 N29) N29 (es.flatMap encInt)] w := O.callR K
      clear K
      have O : Own w0 [] [.row 3 1 (.slice P44 N44 C44) N44 (es187.flatMap encInt), .row 39 3 (.slice (some ⟨b39, 0, none⟩) N39 N39) N39 (es171.flatMap encUp), .row 3 1 (.slice (some ⟨b37, 0, none⟩) N37 N37) N37 (es168.flatMap encInt), .row 39 3 (.slice (some ⟨b63, 0, none⟩) N63 N63) N63 (es2.flatMap encUp), .row 3 1 (.slice (some ⟨b58, 0, none⟩) N58 N58) N58 (es.flatMap encInt), .row 3 1 (.slice P33 N33 C33) N33 ((LT es t es2).flatMap encInt), .row 39 3 (.slice (some ⟨b32, 0, none⟩) N32 N32) N32 (es2.flatMap encUp), .row 3 1 (.slice (some ⟨b29, 0, none⟩) N29 N29) N29 (es.flatMap encInt)] w := O
      refine sp F (p_assign rfl) rfl rfl fun a F => c_nil (hK24 _ _ (?_))
      try clear hK24 K24
      refine c_seq fun K25 hK25 => c_region (sp F (p_assign rfl) rfl rfl fun a F => c_nil (hK25 _ _ (?_)))
      try clear hK25 K25
      refine c_seq fun K26 hK26 => c_region (sp F (p_move rfl) rfl rfl fun a F => sp F (p_move rfl) rfl rfl fun a F => so F rfl (o_call (vs := #[.slice P44 N44 C44, .int .i64 (1)]) F Tryd.en_15 rfl rfl ((heldIntS_ok P44 N44 C44 es187 1 w (O.arr 0 (es := es187) rfl encInt_len (by decide)) (by first | omega | (simp; done) | (simp; omega) | (simp at *; omega)) (by omega) (by assumption) (by omega) (by omega)).mono ?_)))
      rintro e w ⟨rfl, K⟩
      refine ⟨_, rfl, fun a F => ?_⟩
      have O : Own w0 [] [.row 3 1 (.slice P44 N44 C44) N44 (es187.flatMap encInt), .row 39 3 (.slice (some ⟨b39, 0, none⟩) N39 N39) N39 (es171.flatMap encUp), .row 3 1 (.slice (some ⟨b37, 0, none⟩) N37 N37) N37 (es168.flatMap encInt), .row 39 3 (.slice (some ⟨b63, 0, none⟩) N63 N63) N63 (es2.flatMap encUp), .row 3 1 (.slice (some ⟨b58, 0, none⟩) N58 N58) N58 (es.flatMap encInt), .row 3 1 (.slice P33 N33 C33) N33 ((LT es t es2).flatMap encInt), .row 39 3 (.slice (some ⟨b32, 0, none⟩) N32 N32) N32 (es2.flatMap encUp), .row 3 1 (.slice (some ⟨b29, 0, none⟩) N29 N29) N29 (es.flatMap encInt)] w := O.call0 K
      clear K
      have O : Own w0 [] [.row 3 1 (.slice P44 N44 C44) N44 (es187.flatMap encInt), .row 39 3 (.slice (some ⟨b39, 0, none⟩) N39 N39) N39 (es171.flatMap encUp), .row 3 1 (.slice (some ⟨b37, 0, none⟩) N37 N37) N37 (es168.flatMap encInt), .row 39 3 (.slice (some ⟨b63, 0, none⟩) N63 N63) N63 (es2.flatMap encUp), .row 3 1 (.slice (some ⟨b58, 0, none⟩) N58 N58) N58 (es.flatMap encInt), .row 3 1 (.slice P33 N33 C33) N33 ((LT es t es2).flatMap encInt), .row 39 3 (.slice (some ⟨b32, 0, none⟩) N32 N32) N32 (es2.flatMap encUp), .row 3 1 (.slice (some ⟨b29, 0, none⟩) N29 N29) N29 (es.flatMap encInt)] w := O
      refine sp F (p_assign rfl) rfl rfl fun a F => c_nil (hK26 _ _ (?_))
      try clear hK26 K26
      refine c_seq fun K27 hK27 => c_seq fun K28 hK28 => c_region (sp F (p_move rfl) rfl rfl fun a F => sp F (p_lss rfl rfl) rfl rfl fun a F => ?_)
      have c92 : ¬ ((1 + (N44 : Int)) < 0) := by omega
      have F := F.setB (d := 92) rfl (decide_eq_false c92)
      refine c_nil (hK28 _ _ (?_))
      try clear hK28 K28
      refine c_iff F rfl (wp_skip (hK27 _ _ (?_)))
      try clear hK27 K27
      refine c_seq fun K29 hK29 => c_seq fun K30 hK30 => c_region (sp F (p_move rfl) rfl rfl fun a F => sp F (p_move rfl) rfl rfl fun a F => sp F (p_neq rfl rfl) rfl rfl fun a F => ?_)
      have c95 : (1 + (N44 : Int)) = (1 + (N44 : Int)) := by omega
      have F := F.setB (d := 95) rfl (decide_eq_false (fun h => h c95))
      refine c_nil (hK30 _ _ (?_))
      try clear hK30 K30
      refine c_iff F rfl (wp_skip (hK29 _ _ (?_)))
      try clear hK29 K29
      refine c_seq fun K31 hK31 => c_region (sp F (p_move rfl) rfl rfl fun a F => so F rfl (o_call (vs := #[.slice A n c]) F Tryd.en_8 rfl rfl ((toIntS_ok A n c es w (hA.keep O) (by first | omega | (simp; done) | (simp; omega) | (simp at *; omega)) (by omega)).mono ?_)))
      rintro e w ⟨b98, N98, rfl, h98a, K⟩
      refine ⟨_, rfl, fun a F => ?_⟩
      have O : Own w0 [] [.row 3 1 (.slice (some ⟨b98, 0, none⟩) N98 N98) N98 (es.flatMap encInt), .row 3 1 (.slice P44 N44 C44) N44 (es187.flatMap encInt), .row 39 3 (.slice (some ⟨b39, 0, none⟩) N39 N39) N39 (es171.flatMap encUp), .row 3 1 (.slice (some ⟨b37, 0, none⟩) N37 N37) N37 (es168.flatMap encInt), .row 39 3 (.slice (some ⟨b63, 0, none⟩) N63 N63) N63 (es2.flatMap encUp), .row 3 1 (.slice (some ⟨b58, 0, none⟩) N58 N58) N58 (es.flatMap encInt), .row 3 1 (.slice P33 N33 C33) N33 ((LT es t es2).flatMap encInt), .row 39 3 (.slice (some ⟨b32, 0, none⟩) N32 N32) N32 (es2.flatMap encUp), .row 3 1 (.slice (some ⟨b29, 0, none⟩) N29 N29) N29 (es.flatMap encInt)] w := O.call0 K
      clear K
      have O : Own w0 [] [.row 3 1 (.slice (some ⟨b98, 0, none⟩) N98 N98) N98 (es.flatMap encInt), .row 3 1 (.slice P44 N44 C44) N44 (es187.flatMap encInt), .row 39 3 (.slice (some ⟨b39, 0, none⟩) N39 N39) N39 (es171.flatMap encUp), .row 3 1 (.slice (some ⟨b37, 0, none⟩) N37 N37) N37 (es168.flatMap encInt), .row 39 3 (.slice (some ⟨b63, 0, none⟩) N63 N63) N63 (es2.flatMap encUp), .row 3 1 (.slice (some ⟨b58, 0, none⟩) N58 N58) N58 (es.flatMap encInt), .row 3 1 (.slice P33 N33 C33) N33 ((LT es t es2).flatMap encInt), .row 39 3 (.slice (some ⟨b32, 0, none⟩) N32 N32) N32 (es2.flatMap encUp), .row 3 1 (.slice (some ⟨b29, 0, none⟩) N29 N29) N29 (es.flatMap encInt)] w := O
      refine sp F (p_move rfl) rfl rfl fun a F => sp F (p_move rfl) rfl rfl fun a F => so F rfl (o_call (vs := #[.slice A2 n2 c2]) F Tryd.en_9 rfl rfl ((toUpdateS_ok A2 n2 c2 es2 w (hA2.keep O) (by first | omega | (simp; done) | (simp; omega) | (simp at *; omega)) (by omega)).mono ?_))
      rintro e w ⟨b101, N101, rfl, h101a, K⟩
      refine ⟨_, rfl, fun a F => ?_⟩
      have O : Own w0 [] [.row 39 3 (.slice (some ⟨b101, 0, none⟩) N101 N101) N101 (es2.flatMap encUp), .row 3 1 (.slice (some ⟨b98, 0, none⟩) N98 N98) N98 (es.flatMap encInt), .row 3 1 (.slice P44 N44 C44) N44 (es187.flatMap encInt), .row 39 3 (.slice (some ⟨b39, 0, none⟩) N39 N39) N39 (es171.flatMap encUp), .row 3 1 (.slice (some ⟨b37, 0, none⟩) N37 N37) N37 (es168.flatMap encInt), .row 39 3 (.slice (some ⟨b63, 0, none⟩) N63 N63) N63 (es2.flatMap encUp), .row 3 1 (.slice (some ⟨b58, 0, none⟩) N58 N58) N58 (es.flatMap encInt), .row 3 1 (.slice P33 N33 C33) N33 ((LT es t es2).flatMap encInt), .row 39 3 (.slice (some ⟨b32, 0, none⟩) N32 N32) N32 (es2.flatMap encUp), .row 3 1 (.slice (some ⟨b29, 0, none⟩) N29 N29) N29 (es.flatMap encInt)] w := O.call0 K
      clear K
      have O : Own w0 [] [.row 39 3 (.slice (some ⟨b101, 0, none⟩) N101 N101) N101 (es2.flatMap encUp), .row 3 1 (.slice (some ⟨b98, 0, none⟩) N98 N98) N98 (es.flatMap encInt), .row 3 1 (.slice P44 N44 C44) N44 (es187.flatMap encInt), .row 39 3 (.slice (some ⟨b39, 0, none⟩) N39 N39) N39 (es171.flatMap encUp), .row 3 1 (.slice (some ⟨b37, 0, none⟩) N37 N37) N37 (es168.flatMap encInt), .row 39 3 (.slice (some ⟨b63, 0, none⟩) N63 N63) N63 (es2.flatMap encUp), .row 3 1 (.slice (some ⟨b58, 0, none⟩) N58 N58) N58 (es.flatMap encInt), .row 3 1 (.slice P33 N33 C33) N33 ((LT es t es2).flatMap encInt), .row 39 3 (.slice (some ⟨b32, 0, none⟩) N32 N32) N32 (es2.flatMap encUp), .row 3 1 (.slice (some ⟨b29, 0, none⟩) N29 N29) N29 (es.flatMap encInt)] w := O
      refine so F rfl (o_call (vs := #[.slice (some ⟨b98, 0, none⟩) N98 N98, .int .i64 (t), .slice (some ⟨b101, 0, none⟩) N101 N101]) F Tryd.en_10 rfl rfl ((iLocksTake_ok (some ⟨b98, 0, none⟩) N98 N98 es t (some ⟨b101, 0, none⟩) N101 N101 es2 a0 w (O.arr 1 (es := es) rfl encInt_len (by decide)) (by first | omega | (simp; done) | (simp; omega) | (simp at *; omega)) (by omega) (O.arr 0 (es := es2) rfl encUp_len (by decide)) (by first | omega | (simp; done) | (simp; omega) | (simp at *; omega)) (by omega) (Nat.lt_of_lt_of_le hl_0 O.size) (((O.old hl_0 (by simp)).trans hm_0_0))).mono ?_))
      rintro e w ⟨P102, N102, C102, rfl, h102a, h102b, K⟩
      refine ⟨_, rfl, fun a F => ?_⟩
      have O : Own w0 [] [.row 3 1 (.slice P102 N102 C102) N102 ((LT es t es2).flatMap encInt), .row 39 3 (.slice (some ⟨b101, 0, none⟩) N101 N101) N101 (es2.flatMap encUp), .row 3 1 (.slice (some ⟨b98, 0, none⟩) N98 N98) N98 (es.flatMap encInt), .row 3 1 (.slice P44 N44 C44) N44 (es187.flatMap encInt), .row 39 3 (.slice (some ⟨b39, 0, none⟩) N39 N39) N39 (es171.flatMap encUp), .row 3 1 (.slice (some ⟨b37, 0, none⟩) N37 N37) N37 (es168.flatMap encInt), .row 39 3 (.slice (some ⟨b63, 0, none⟩) N63 N63) N63 (es2.flatMap encUp), .row 3 1 (.slice (some ⟨b58, 0, none⟩) N58 N58) N58 (es.flatMap encInt), .row 3 1 (.slice P33 N33 C33) N33 ((LT es t es2).flatMap encInt), .row 39 3 (.slice (some ⟨b32, 0, none⟩) N32 N32) N32 (es2.flatMap encUp), .row 3 1 (.slice (some ⟨b29, 0, none⟩) N29 N29) N29 (es.flatMap encInt)] w := O.call0 K
      clear K
      have O : Own w0 [] [.row 3 1 (.slice P102 N102 C102) N102 ((LT es t es2).flatMap encInt), .row 39 3 (.slice (some ⟨b101, 0, none⟩) N101 N101) N101 (es2.flatMap encUp), .row 3 1 (.slice (some ⟨b98, 0, none⟩) N98 N98) N98 (es.flatMap encInt), .row 3 1 (.slice P44 N44 C44) N44 (es187.flatMap encInt), .row 39 3 (.slice (some ⟨b39, 0, none⟩) N39 N39) N39 (es171.flatMap encUp), .row 3 1 (.slice (some ⟨b37, 0, none⟩) N37 N37) N37 (es168.flatMap encInt), .row 39 3 (.slice (some ⟨b63, 0, none⟩) N63 N63) N63 (es2.flatMap encUp), .row 3 1 (.slice (some ⟨b58, 0, none⟩) N58 N58) N58 (es.flatMap encInt), .row 3 1 (.slice P33 N33 C33) N33 ((LT es t es2).flatMap encInt), .row 39 3 (.slice (some ⟨b32, 0, none⟩) N32 N32) N32 (es2.flatMap encUp), .row 3 1 (.slice (some ⟨b29, 0, none⟩) N29 N29) N29 (es.flatMap encInt)] w := O
      refine sp F (p_move rfl) rfl rfl fun a F => sp F (p_extract rfl rfl) rfl rfl fun a F => sp F (p_extract rfl rfl) rfl rfl fun a F => sp F (p_assign rfl) rfl rfl fun a F => sp F (p_assign rfl) rfl rfl fun a F => c_nil (hK31 _ _ (?_))
      try clear hK31 K31
      refine c_seq fun K32 hK32 => c_seq fun K33 hK33 => c_region (sp F (p_move rfl) rfl rfl fun a F => sp F (p_move rfl) rfl rfl fun a F => so F rfl (o_call (vs := #[.slice P102 N102 C102, .slice P33 N33 C33]) F Tryd.en_11 rfl rfl ((eqIntS_ok P102 N102 C102 (LT es t es2) P33 N33 C33 (LT es t es2) w (O.arr 0 (es := LT es t es2) rfl encInt_len (by decide)) (by first | omega | (simp; done) | (simp; omega) | (simp at *; omega)) (by omega) (O.arr 8 (es := LT es t es2) rfl encInt_len (by decide)) (by first | omega | (simp; done) | (simp; omega) | (simp at *; omega)) (by omega)).mono ?_)))
      rintro e w ⟨rfl, K⟩
      refine ⟨_, rfl, fun a F => ?_⟩
      have O : Own w0 [] [.row 3 1 (.slice P102 N102 C102) N102 ((LT es t es2).flatMap encInt), .row 39 3 (.slice (some ⟨b101, 0, none⟩) N101 N101) N101 (es2.flatMap encUp), .row 3 1 (.slice (some ⟨b98, 0, none⟩) N98 N98) N98 (es.flatMap encInt), .row 3 1 (.slice P44 N44 C44) N44 (es187.flatMap encInt), .row 39 3 (.slice (some ⟨b39, 0, none⟩) N39 N39) N39 (es171.flatMap encUp), .row 3 1 (.slice (some ⟨b37, 0, none⟩) N37 N37) N37 (es168.flatMap encInt), .row 39 3 (.slice (some ⟨b63, 0, none⟩) N63 N63) N63 (es2.flatMap encUp), .row 3 1 (.slice (some ⟨b58, 0, none⟩) N58 N58) N58 (es.flatMap encInt), .row 3 1 (.slice P33 N33 C33) N33 ((LT es t es2).flatMap encInt), .row 39 3 (.slice (some ⟨b32, 0, none⟩) N32 N32) N32 (es2.flatMap encUp), .row 3 1 (.slice (some ⟨b29, 0, none⟩) N29 N29) N29 (es.flatMap encInt)] w := O.call0 K
      clear K
      have F := F.setB (d := 107) rfl (decide_eq_true c49)
      have O : Own w0 [] [.row 3 1 (.slice P102 N102 C102) N102 ((LT es t es2).flatMap encInt), .row 39 3 (.slice (some ⟨b101, 0, none⟩) N101 N101) N101 (es2.flatMap encUp), .row 3 1 (.slice (some ⟨b98, 0, none⟩) N98 N98) N98 (es.flatMap encInt), .row 3 1 (.slice P44 N44 C44) N44 (es187.flatMap encInt), .row 39 3 (.slice (some ⟨b39, 0, none⟩) N39 N39) N39 (es171.flatMap encUp), .row 3 1 (.slice (some ⟨b37, 0, none⟩) N37 N37) N37 (es168.flatMap encInt), .row 39 3 (.slice (some ⟨b63, 0, none⟩) N63 N63) N63 (es2.flatMap encUp), .row 3 1 (.slice (some ⟨b58, 0, none⟩) N58 N58) N58 (es.flatMap encInt), .row 3 1 (.slice P33 N33 C33) N33 ((LT es t es2).flatMap encInt), .row 39 3 (.slice (some ⟨b32, 0, none⟩) N32 N32) N32 (es2.flatMap encUp), .row 3 1 (.slice (some ⟨b29, 0, none⟩) N29 N29) N29 (es.flatMap encInt)] w := O
      refine sp F (p_not rfl) rfl rfl fun a F => sp F (p_move rfl) rfl rfl fun a F => sp F (p_move rfl) rfl rfl fun a F => sp F (p_move rfl) rfl rfl fun a F => sp F (p_bneL rfl rfl Tryd.underlying4 false (by simp)) rfl rfl fun a F => sp F (p_pick (t := false) rfl rfl) rfl rfl fun a F => c_nil (hK33 _ _ (?_))
      try clear hK33 K33
      refine c_iff F rfl (wp_skip (hK32 _ _ (?_)))
      try clear hK32 K32
      refine c_seq fun K34 hK34 => c_region (sp F (p_assign rfl) rfl rfl fun a F => c_nil (hK34 _ _ (?_)))
      try clear hK34 K34
      refine c_seq fun K35 hK35 => c_region (sp F (p_move rfl) rfl rfl fun a F => sp F (p_move rfl) rfl rfl fun a F => so F rfl (o_call (vs := #[.slice P44 N44 C44, .int .i64 (1)]) F Tryd.en_15 rfl rfl ((heldIntS_ok P44 N44 C44 es187 1 w (O.arr 3 (es := es187) rfl encInt_len (by decide)) (by first | omega | (simp; done) | (simp; omega) | (simp at *; omega)) (by omega) (by assumption) (by omega) (by omega)).mono ?_)))
      rintro e w ⟨rfl, K⟩
      refine ⟨_, rfl, fun a F => ?_⟩
      have O : Own w0 [] [.row 3 1 (.slice P102 N102 C102) N102 ((LT es t es2).flatMap encInt), .row 39 3 (.slice (some ⟨b101, 0, none⟩) N101 N101) N101 (es2.flatMap encUp), .row 3 1 (.slice (some ⟨b98, 0, none⟩) N98 N98) N98 (es.flatMap encInt), .row 3 1 (.slice P44 N44 C44) N44 (es187.flatMap encInt), .row 39 3 (.slice (some ⟨b39, 0, none⟩) N39 N39) N39 (es171.flatMap encUp), .row 3 1 (.slice (some ⟨b37, 0, none⟩) N37 N37) N37 (es168.flatMap encInt), .row 39 3 (.slice (some ⟨b63, 0, none⟩) N63 N63) N63 (es2.flatMap encUp), .row 3 1 (.slice (some ⟨b58, 0, none⟩) N58 N58) N58 (es.flatMap encInt), .row 3 1 (.slice P33 N33 C33) N33 ((LT es t es2).flatMap encInt), .row 39 3 (.slice (some ⟨b32, 0, none⟩) N32 N32) N32 (es2.flatMap encUp), .row 3 1 (.slice (some ⟨b29, 0, none⟩) N29 N29) N29 (es.flatMap encInt)] w := O.call0 K
      clear K
      have O : Own w0 [] [.row 3 1 (.slice P102 N102 C102) N102 ((LT es t es2).flatMap encInt), .row 39 3 (.slice (some ⟨b101, 0, none⟩) N101 N101) N101 (es2.flatMap encUp), .row 3 1 (.slice (some ⟨b98, 0, none⟩) N98 N98) N98 (es.flatMap encInt), .row 3 1 (.slice P44 N44 C44) N44 (es187.flatMap encInt), .row 39 3 (.slice (some ⟨b39, 0, none⟩) N39 N39) N39 (es171.flatMap encUp), .row 3 1 (.slice (some ⟨b37, 0, none⟩) N37 N37) N37 (es168.flatMap encInt), .row 39 3 (.slice (some ⟨b63, 0, none⟩) N63 N63) N63 (es2.flatMap encUp), .row 3 1 (.slice (some ⟨b58, 0, none⟩) N58 N58) N58 (es.flatMap encInt), .row 3 1 (.slice P33 N33 C33) N33 ((LT es t es2).flatMap encInt), .row 39 3 (.slice (some ⟨b32, 0, none⟩) N32 N32) N32 (es2.flatMap encUp), .row 3 1 (.slice (some ⟨b29, 0, none⟩) N29 N29) N29 (es.flatMap encInt)] w := O
      refine sp F (p_assign rfl) rfl rfl fun a F => c_nil (hK35 _ _ (?_))
      try clear hK35 K35
      refine c_seq fun K36 hK36 => c_seq fun K37 hK37 => c_region (sp F (p_move rfl) rfl rfl fun a F => sp F (p_lss rfl rfl) rfl rfl fun a F => ?_)
      have F := F.setB (d := 118) rfl (decide_eq_false c92)
      refine c_nil (hK37 _ _ (?_))
      try clear hK37 K37
      refine c_iff F rfl (wp_skip (hK36 _ _ (?_)))
      try clear hK36 K36
      refine c_seq fun K38 hK38 => c_seq fun K39 hK39 => c_region (sp F (p_move rfl) rfl rfl fun a F => sp F (p_move rfl) rfl rfl fun a F => sp F (p_neq rfl rfl) rfl rfl fun a F => ?_)
      have F := F.setB (d := 121) rfl (decide_eq_false (fun h => h c95))
      refine c_nil (hK39 _ _ (?_))
      try clear hK39 K39
      refine c_iff F rfl (wp_skip (hK38 _ _ (?_)))
      try clear hK38 K38
      refine c_seq fun K40 hK40 => c_region (sp F (p_assign rfl) rfl rfl fun a F => c_nil (hK40 _ _ (?_)))
      try clear hK40 K40
      refine wp_ret (ret1 F rfl rfl (?_))
      have O : Own w0 [] [] w := (O.take 0)
      exact ⟨rfl, O⟩

set_option maxRecDepth 100000 in
theorem exLocksTake_lifted (os : Os) (started : os.Started) (H : Type) (enc : TypeId × Value → H) :
    ReturnsInHanded {} Tryd.checked os 3 .any (fun w args => (Rows.fnExactLocksTakeSpec.pre enc Tryd.prog Tryd.f3 [] false w args ∧ laidMet Tryd.prog laidList w) ∧ sizedMet enc Tryd.prog Tryd.f3 (OpenSpec.ofChange Rows.fnExactLocksTakeSpec) false w args)
      (Rows.fnExactLocksTakeSpec.post enc Tryd.prog Tryd.f3 false true false false) := by
  refine lifted_laid started (by kernel_rfl) Tryd.func3 rfl ?_ (by kernel_rfl) (by kernel_rfl)
    (ChangeSpec.witness_at (enc := enc) (C := Tryd.checked) (os := os) (X := fun w _ => laidMet Tryd.prog laidList w) false (laidWorld os) #[.slice none 0 0, .int .i64 0, .slice none 0 0] 8 rfl (by kernel_rfl) (by kernel_rfl) (by kernel_rfl) (by kernel_rfl) (by kernel_rfl) (laidWorld_met os _)) ?_
  · intro ds g hds
    match ds, hds with
    | [_, _, _], _ => rfl
  intro W base args ds p a0 hval0 hA0 hm hl
  have hval : ∀ (j : Nat) t v, Tryd.f3.params[j]? = some t → args[j]? = some v → Value.okWide Tryd.prog W .any base t v := hval0
  have hA : DataW.TrodAll enc Tryd.prog W 0 (fun _ => true) true Tryd.f3.params.toList args.toList ds p := hA0
  clear hA0 hval0
  show Calls Tryd.prog 3 args W _
  rw [Tryd.params3] at hA hval
  obtain ⟨v0, v1, v2, d0, d1, d2, p0, p1, p2, hargs, rfl, rfl, h0, h1, h2⟩ := trodAll_three hA
  obtain rfl : args = #[v0, v1, v2] := by cases args; simp_all
  obtain ⟨a, n, c, es, rfl, hArr, hn, hb⟩ := open_intsIn (hval 0 22 v0 rfl rfl) h0
  obtain ⟨t, rfl⟩ := okWide_int Tryd.underlying3 (hval 1 3 v1 rfl rfl)
  obtain ⟨a2, n2, c2, es2, rfl, hArr2, hn2, hb2⟩ := open_upsIn (hval 2 23 v2 rfl rfl) h2
  exact (exLocksTake_ok a n c es t a2 n2 c2 es2 a0 W hArr hn hb hArr2 hn2 hb2 hl hm).mono fun e w' h => ⟨h.1, h.2.below⟩

theorem exLocksTake_pkg : ¬ Check.packageOf Tryd.f3.name = "main" := by
  intro h
  have h2 := congrArg String.toList h
  simp only [Check.packageOf, Tryd.f3] at h2
  simp at h2
theorem exLocksTake_closed : lawFacts Tryd.prog 3 Tryd.f3 Rows.fnExactLocksTakeSpec Rows.fnExactLocksTakeRow = true := by kernel_rfl
theorem exLocksTake_facts : joinedFacts Tryd.pinned.checked.prog 3 Tryd.f3 Rows.fnExactLocksTakeSpec Rows.fnExactLocksTakeRow = true := facts_of (P := Tryd.prog) Tryd.facts exLocksTake_closed
theorem exLocksTake_wrap : Func.isWrapper Tryd.pinned.checked.prog Tryd.f3 Rows.fnExactLocksTakeRow.wrapper Rows.fnExactLocksTakeRow.mainSum := by
  have e1 : Rows.fnExactLocksTakeRow.wrapper = false := rfl
  have e2 : Rows.fnExactLocksTakeRow.mainSum = "" := rfl
  rw [e1, e2]
  exact wrapper_of Tryd.pinned.checked.prog Tryd.f3 exLocksTake_pkg

/-- The row's statement. -/
theorem exLocksTake_row : Rows.FnExactLocksTakeSaid :=
  OpenClaim.holds_of_wide 3 Tryd.f3 rfl rfl rfl rfl rfl rfl rfl ⟨rfl, rfl, rfl, rfl, rfl⟩ rfl rfl rfl rfl rfl (by kernel_rfl) Tryd.func3 exLocksTake_facts
    (of_decide_eq_true (by kernel_rfl)) exLocksTake_wrap
    (fun os started H enc _ => exLocksTake_lifted os started H enc)

/-- The card. -/
theorem exLocksTake_card : Rows.FnExactLocksTakeCardSaid :=
  Claim7.holds_tied_plain_at .later [] [.sentinel] true (true, "c717c8195f219aaf927d0a0cab96f2e152b24509bb0c3ef00b87cd3ed97c83eb") true
    exLocksTake_row (fun _ h => by cases h) (by kernel_rfl) (fun _ h => by cases h) fnExactLocksTake_row_tie rfl ⟨rfl, rfl⟩ (by kernel_rfl) rfl
    (fun f fn hf hfn => by
      obtain rfl : f = 3 := Option.some.inj ((show Tryd.prog.funcNamed "loop.example/atomicpush/laws.FnExactLocksTake" = some 3 by kernel_rfl).symm.trans hf) |>.symm
      obtain rfl : fn = Tryd.f3 := (Option.some.inj (Tryd.func3.symm.trans hfn)).symm
      exact ⟨by kernel_rfl, fun j t ht => by
        rw [Tryd.params3] at ht
        rcases j with _ | _ | _ | j <;> simp at ht <;> subst ht <;> kernel_rfl⟩)
    (by kernel_rfl)
#print axioms exLocksTake_card
end Go.Proofs.YtilpbddeijolbaaDoor
