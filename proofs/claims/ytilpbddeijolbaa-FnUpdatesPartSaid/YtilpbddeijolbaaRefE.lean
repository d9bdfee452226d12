/- What the laws on refs and locks draw from a code. No conditions. -/
import Derived.Test.YtilpbddeijolbaaRefD
namespace Go.Proofs.Ytilpbddeijolbaa
open Go.ChangeShapes Go.WideShapes Go.ChangeAt Go.RowKit
set_option linter.unusedVariables false
set_option linter.unusedSimpArgs false

set_option maxRecDepth 100000 in
/-- spec.DrawRefsValid -/
theorem dRefsValid_ok (A : Option Addr) (cn : Nat) (cc : Nat) (w0 : World) (hC : CodeIn w0 A cn cc) :
    Calls Try.prog 23 #[.slice A cn cc] w0 fun e w => ∃ (b : Nat), ∃ (N : Nat), ∃ (C : Nat), ∃ (es : List (Int)), e = .returned (.slice (some ⟨b, 0, none⟩) N C) ∧ ((N : Int) = es.length) ∧ ((N : Int) ≤ 4) ∧ Own w0 [] [.row 3 1 (.slice (some ⟨b, 0, none⟩) N C) N (es.flatMap encInt)] w := by
  have O := Own.start w0
  have hcc : (cn : Int) ≤ cc := by have := hC.1; omega
  have hcm : (cc : Int) ≤ 9223372036854775807 := by have := hC.2.1; unfold maxLen at this; omega
  refine enterO (n := 6) Try.func23 rfl rfl rfl O fun a w F O => ?_
  refine c_seq fun K1 hK1 => c_region (sp F (p_assign rfl) rfl rfl fun a F => c_nil (hK1 _ _ (?_)))
  try clear hK1 K1
  refine c_seq fun K2 hK2 => c_region (sp F (p_move rfl) rfl rfl fun a F => so F rfl (o_call (vs := #[.slice A cn cc]) F Try.en_58 rfl rfl ((l6Open_ok A cn cc w (by omega) (by omega)).mono ?_)))
  rintro e w ⟨b4, m4, rfl, h4a, h4b, K⟩
  refine ⟨_, rfl, fun a F => ?_⟩
  have O : Own w0 [] [.cells b4 [.slice A m4 cc, .int .i64 (0)] 71] w := O.call0 K
  clear K
  have hCode : Code w0 b4 A m4 := Code.of hC (by omega) (by omega) (O.fresh 0 rfl rfl)
  have O : Own w0 [] [.cells b4 [.slice A m4 cc, .int .i64 (0)] 71] w := O
  refine so F rfl (o_call (vs := #[.pointer (some ⟨b4, 0, none⟩)]) F Try.en_57 rfl rfl ((l92Refs_ok b4 A m4 cc 0 w (hCode.keep O (by simp)) (by omega) (by omega) (O.hand1 rfl)).mono ?_))
  rintro e w ⟨b5, N5, C5, es5, q5, rfl, h5a, h5b, h5c, h5d, K⟩
  refine ⟨_, rfl, fun a F => ?_⟩
  have O : Own w0 [] [.cells b4 [.slice A m4 cc, .int .i64 (q5)] 71, .row 3 1 (.slice (some ⟨b5, 0, none⟩) N5 C5) N5 (es5.flatMap encInt)] w := O.call1 K rfl
  clear K
  have O : Own w0 [] [.cells b4 [.slice A m4 cc, .int .i64 (q5)] 71, .row 3 1 (.slice (some ⟨b5, 0, none⟩) N5 C5) N5 (es5.flatMap encInt)] w := O
  refine sp F (p_assign rfl) rfl rfl fun a F => c_nil (hK2 _ _ (?_))
  try clear hK2 K2
  refine wp_ret (ret1 F rfl rfl (?_))
  have O : Own w0 [] [.row 3 1 (.slice (some ⟨b5, 0, none⟩) N5 C5) N5 (es5.flatMap encInt)] w := ((O.pull 1 rfl).take 1)
  exact ⟨b5, N5, C5, es5, rfl, by first | assumption | omega, by first | assumption | omega, O⟩

set_option maxRecDepth 100000 in
/-- spec.DrawLocksValid -/
theorem dLocksValid_ok (A : Option Addr) (cn : Nat) (cc : Nat) (w0 : World) (hC : CodeIn w0 A cn cc) :
    Calls Try.prog 33 #[.slice A cn cc] w0 fun e w => ∃ (b : Nat), ∃ (N : Nat), ∃ (C : Nat), ∃ (es : List (Int)), e = .returned (.slice (some ⟨b, 0, none⟩) N C) ∧ ((N : Int) = es.length) ∧ ((N : Int) ≤ 4) ∧ Own w0 [] [.row 3 1 (.slice (some ⟨b, 0, none⟩) N C) N (es.flatMap encInt)] w := by
  have O := Own.start w0
  have hcc : (cn : Int) ≤ cc := by have := hC.1; omega
  have hcm : (cc : Int) ≤ 9223372036854775807 := by have := hC.2.1; unfold maxLen at this; omega
  refine enterO (n := 6) Try.func33 rfl rfl rfl O fun a w F O => ?_
  refine c_seq fun K1 hK1 => c_region (sp F (p_assign rfl) rfl rfl fun a F => c_nil (hK1 _ _ (?_)))
  try clear hK1 K1
  refine c_seq fun K2 hK2 => c_region (sp F (p_move rfl) rfl rfl fun a F => so F rfl (o_call (vs := #[.slice A cn cc]) F Try.en_58 rfl rfl ((l6Open_ok A cn cc w (by omega) (by omega)).mono ?_)))
  rintro e w ⟨b4, m4, rfl, h4a, h4b, K⟩
  refine ⟨_, rfl, fun a F => ?_⟩
  have O : Own w0 [] [.cells b4 [.slice A m4 cc, .int .i64 (0)] 71] w := O.call0 K
  clear K
  have hCode : Code w0 b4 A m4 := Code.of hC (by omega) (by omega) (O.fresh 0 rfl rfl)
  have O : Own w0 [] [.cells b4 [.slice A m4 cc, .int .i64 (0)] 71] w := O
  refine so F rfl (o_call (vs := #[.pointer (some ⟨b4, 0, none⟩)]) F Try.en_63 rfl rfl ((l92Locks_ok b4 A m4 cc 0 w (hCode.keep O (by simp)) (by omega) (by omega) (O.hand1 rfl)).mono ?_))
  rintro e w ⟨b5, N5, C5, es5, q5, rfl, h5a, h5b, h5c, h5d, K⟩
  refine ⟨_, rfl, fun a F => ?_⟩
  have O : Own w0 [] [.cells b4 [.slice A m4 cc, .int .i64 (q5)] 71, .row 3 1 (.slice (some ⟨b5, 0, none⟩) N5 C5) N5 (es5.flatMap encInt)] w := O.call1 K rfl
  clear K
  have O : Own w0 [] [.cells b4 [.slice A m4 cc, .int .i64 (q5)] 71, .row 3 1 (.slice (some ⟨b5, 0, none⟩) N5 C5) N5 (es5.flatMap encInt)] w := O
  refine sp F (p_assign rfl) rfl rfl fun a F => c_nil (hK2 _ _ (?_))
  try clear hK2 K2
  refine wp_ret (ret1 F rfl rfl (?_))
  have O : Own w0 [] [.row 3 1 (.slice (some ⟨b5, 0, none⟩) N5 C5) N5 (es5.flatMap encInt)] w := ((O.pull 1 rfl).take 1)
  exact ⟨b5, N5, C5, es5, rfl, by first | assumption | omega, by first | assumption | omega, O⟩

set_option maxRecDepth 100000 in
/-- spec.DrawLocksFree -/
theorem dLocksFree_ok (A : Option Addr) (cn : Nat) (cc : Nat) (w0 : World) (hC : CodeIn w0 A cn cc) :
    Calls Try.prog 49 #[.slice A cn cc] w0 fun e w => ∃ (b : Nat), ∃ (N : Nat), ∃ (C : Nat), ∃ (es : List (Int)), ∃ (t : Int), e = .returned (.tuple #[.slice (some ⟨b, 0, none⟩) N C, .int .i64 (t)]) ∧ ((N : Int) = es.length) ∧ ((N : Int) ≤ 4) ∧ (-1 ≤ t) ∧ (t ≤ 12) ∧ Own w0 [] [.row 3 1 (.slice (some ⟨b, 0, none⟩) N C) N (es.flatMap encInt)] w := by
  have O := Own.start w0
  have hcc : (cn : Int) ≤ cc := by have := hC.1; omega
  have hcm : (cc : Int) ≤ 9223372036854775807 := by have := hC.2.1; unfold maxLen at this; omega
  refine enterO (n := 13) Try.func49 rfl rfl rfl O fun a w F O => ?_
  refine c_seq fun K1 hK1 => c_region (sp F (p_assign rfl) rfl rfl fun a F => sp F (p_assign rfl) rfl rfl fun a F => c_nil (hK1 _ _ (?_)))
  try clear hK1 K1
  refine c_seq fun K2 hK2 => c_region (sp F (p_move rfl) rfl rfl fun a F => so F rfl (o_call (vs := #[.slice A cn cc]) F Try.en_58 rfl rfl ((l6Open_ok A cn cc w (by omega) (by omega)).mono ?_)))
  rintro e w ⟨b7, m7, rfl, h7a, h7b, K⟩
  refine ⟨_, rfl, fun a F => ?_⟩
  have O : Own w0 [] [.cells b7 [.slice A m7 cc, .int .i64 (0)] 71] w := O.call0 K
  clear K
  have hCode : Code w0 b7 A m7 := Code.of hC (by omega) (by omega) (O.fresh 0 rfl rfl)
  have O : Own w0 [] [.cells b7 [.slice A m7 cc, .int .i64 (0)] 71] w := O
  refine sp F (p_assign rfl) rfl rfl fun a F => c_nil (hK2 _ _ (?_))
  try clear hK2 K2
  refine c_seq fun K3 hK3 => c_region (sp F (p_move rfl) rfl rfl fun a F => so F rfl (o_call (vs := #[.pointer (some ⟨b7, 0, none⟩)]) F Try.en_63 rfl rfl ((l92Locks_ok b7 A m7 cc 0 w (hCode.keep O (by simp)) (by omega) (by omega) (O.hand1 rfl)).mono ?_)))
  rintro e w ⟨b9, N9, C9, es9, q9, rfl, h9a, h9b, h9c, h9d, K⟩
  refine ⟨_, rfl, fun a F => ?_⟩
  have O : Own w0 [] [.cells b7 [.slice A m7 cc, .int .i64 (q9)] 71, .row 3 1 (.slice (some ⟨b9, 0, none⟩) N9 C9) N9 (es9.flatMap encInt)] w := O.call1 K rfl
  clear K
  have O : Own w0 [] [.cells b7 [.slice A m7 cc, .int .i64 (q9)] 71, .row 3 1 (.slice (some ⟨b9, 0, none⟩) N9 C9) N9 (es9.flatMap encInt)] w := O
  refine sp F (p_assign rfl) rfl rfl fun a F => c_nil (hK3 _ _ (?_))
  try clear hK3 K3
  refine c_seq fun K4 hK4 => c_region (sp F (p_move rfl) rfl rfl fun a F => sp F (p_move rfl) rfl rfl fun a F => so F rfl (o_call (vs := #[.pointer (some ⟨b7, 0, none⟩)]) F Try.en_73 rfl rfl ((l92Txn_ok b7 A m7 cc q9 w (hCode.keep O (by simp)) (by omega) (by omega) (O.hand1 rfl)).mono ?_)))
  rintro e w ⟨v12, q12, rfl, h12a, h12b, h12c, h12d, K⟩
  refine ⟨_, rfl, fun a F => ?_⟩
  have O : Own w0 [] [.cells b7 [.slice A m7 cc, .int .i64 (q12)] 71, .row 3 1 (.slice (some ⟨b9, 0, none⟩) N9 C9) N9 (es9.flatMap encInt)] w := O.call1 K rfl
  clear K
  have O : Own w0 [] [.cells b7 [.slice A m7 cc, .int .i64 (q12)] 71, .row 3 1 (.slice (some ⟨b9, 0, none⟩) N9 C9) N9 (es9.flatMap encInt)] w := O
  refine sp F (p_assign rfl) rfl rfl fun a F => sp F (p_assign rfl) rfl rfl fun a F => c_nil (hK4 _ _ (?_))
  try clear hK4 K4
  refine wp_ret (ret2 F rfl rfl rfl (?_))
  have O : Own w0 [] [.row 3 1 (.slice (some ⟨b9, 0, none⟩) N9 C9) N9 (es9.flatMap encInt)] w := ((O.pull 1 rfl).take 1)
  exact ⟨b9, N9, C9, es9, v12, rfl, by first | assumption | omega, by first | assumption | omega, by first | assumption | omega, by first | assumption | omega, O⟩

set_option maxRecDepth 100000 in
/-- spec.DrawUpdatesValid -/
theorem dUpdatesValid_ok (A : Option Addr) (cn : Nat) (cc : Nat) (w0 : World) (hC : CodeIn w0 A cn cc) :
    Calls Try.prog 35 #[.slice A cn cc] w0 fun e w => ∃ (b : Nat), ∃ (N : Nat), ∃ (C : Nat), ∃ (es : List (Int × Int × Int)), e = .returned (.slice (some ⟨b, 0, none⟩) N C) ∧ ((N : Int) = es.length) ∧ ((N : Int) ≤ 5) ∧ Own w0 [] [.row 51 3 (.slice (some ⟨b, 0, none⟩) N C) N (es.flatMap encUp)] w := by
  have O := Own.start w0
  have hcc : (cn : Int) ≤ cc := by have := hC.1; omega
  have hcm : (cc : Int) ≤ 9223372036854775807 := by have := hC.2.1; unfold maxLen at this; omega
  refine enterO (n := 10) Try.func35 rfl rfl rfl O fun a w F O => ?_
  refine c_seq fun K1 hK1 => c_region (sp F (p_assign rfl) rfl rfl fun a F => c_nil (hK1 _ _ (?_)))
  try clear hK1 K1
  refine c_seq fun K2 hK2 => c_region (sp F (p_move rfl) rfl rfl fun a F => so F rfl (o_call (vs := #[.slice A cn cc]) F Try.en_58 rfl rfl ((l6Open_ok A cn cc w (by omega) (by omega)).mono ?_)))
  rintro e w ⟨b5, m5, rfl, h5a, h5b, K⟩
  refine ⟨_, rfl, fun a F => ?_⟩
  have O : Own w0 [] [.cells b5 [.slice A m5 cc, .int .i64 (0)] 71] w := O.call0 K
  clear K
  have hCode : Code w0 b5 A m5 := Code.of hC (by omega) (by omega) (O.fresh 0 rfl rfl)
  have O : Own w0 [] [.cells b5 [.slice A m5 cc, .int .i64 (0)] 71] w := O
  refine sp F (p_assign rfl) rfl rfl fun a F => c_nil (hK2 _ _ (?_))
  try clear hK2 K2
  refine c_seq fun K3 hK3 => c_region (sp F (p_move rfl) rfl rfl fun a F => sp F (p_move rfl) rfl rfl fun a F => so F rfl (o_call (vs := #[.pointer (some ⟨b5, 0, none⟩)]) F Try.en_57 rfl rfl ((l92Refs_ok b5 A m5 cc 0 w (hCode.keep O (by simp)) (by omega) (by omega) (O.hand1 rfl)).mono ?_)))
  rintro e w ⟨b8, N8, C8, es8, q8, rfl, h8a, h8b, h8c, h8d, K⟩
  refine ⟨_, rfl, fun a F => ?_⟩
  have O : Own w0 [] [.cells b5 [.slice A m5 cc, .int .i64 (q8)] 71, .row 3 1 (.slice (some ⟨b8, 0, none⟩) N8 C8) N8 (es8.flatMap encInt)] w := O.call1 K rfl
  clear K
  have O : Own w0 [] [.cells b5 [.slice A m5 cc, .int .i64 (q8)] 71, .row 3 1 (.slice (some ⟨b8, 0, none⟩) N8 C8) N8 (es8.flatMap encInt)] w := O
  refine so F rfl (o_call (vs := #[.pointer (some ⟨b5, 0, none⟩), .slice (some ⟨b8, 0, none⟩) N8 C8]) F Try.en_64 rfl rfl ((l92Updates_ok b5 A m5 cc q8 (some ⟨b8, 0, none⟩) N8 C8 es8 w (hCode.keep O (by simp)) (by omega) (by omega) (O.arr 1 (es := es8) rfl encInt_len (by decide)) (by first | omega | (simp; done) | (simp; omega) | (simp at *; omega)) (by omega) (O.apart 1 0 rfl rfl) (O.hand1 rfl)).mono ?_))
  rintro e w ⟨b9, N9, C9, es9, q9, rfl, h9a, h9b, h9c, h9d, K⟩
  refine ⟨_, rfl, fun a F => ?_⟩
  have O : Own w0 [] [.cells b5 [.slice A m5 cc, .int .i64 (q9)] 71, .row 51 3 (.slice (some ⟨b9, 0, none⟩) N9 C9) N9 (es9.flatMap encUp), .row 3 1 (.slice (some ⟨b8, 0, none⟩) N8 C8) N8 (es8.flatMap encInt)] w := O.call1 K rfl
  clear K
  have O : Own w0 [] [.cells b5 [.slice A m5 cc, .int .i64 (q9)] 71, .row 51 3 (.slice (some ⟨b9, 0, none⟩) N9 C9) N9 (es9.flatMap encUp), .row 3 1 (.slice (some ⟨b8, 0, none⟩) N8 C8) N8 (es8.flatMap encInt)] w := O
  refine sp F (p_assign rfl) rfl rfl fun a F => c_nil (hK3 _ _ (?_))
  try clear hK3 K3
  refine wp_ret (ret1 F rfl rfl (?_))
  have O : Own w0 [] [.row 51 3 (.slice (some ⟨b9, 0, none⟩) N9 C9) N9 (es9.flatMap encUp)] w := ((O.pull 1 rfl).take 1)
  exact ⟨b9, N9, C9, es9, rfl, by first | assumption | omega, by first | assumption | omega, O⟩

set_option maxRecDepth 100000 in
/-- spec.DrawUpdatesCross -/
theorem dUpdatesCross_ok (A : Option Addr) (cn : Nat) (cc : Nat) (w0 : World) (hC : CodeIn w0 A cn cc) :
    Calls Try.prog 46 #[.slice A cn cc] w0 fun e w => ∃ (b : Nat), ∃ (N : Nat), ∃ (C : Nat), ∃ (es : List (Int × Int × Int)), ∃ (b2 : Nat), ∃ (N2 : Nat), ∃ (C2 : Nat), ∃ (es2 : List (Int × Int × Int)), e = .returned (.tuple #[.slice (some ⟨b, 0, none⟩) N C, .slice (some ⟨b2, 0, none⟩) N2 C2]) ∧ ((N : Int) = es.length) ∧ ((N : Int) ≤ 5) ∧ ((N2 : Int) = es2.length) ∧ ((N2 : Int) ≤ 5) ∧ Own w0 [] [.row 51 3 (.slice (some ⟨b, 0, none⟩) N C) N (es.flatMap encUp), .row 51 3 (.slice (some ⟨b2, 0, none⟩) N2 C2) N2 (es2.flatMap encUp)] w := by
  have O := Own.start w0
  have hcc : (cn : Int) ≤ cc := by have := hC.1; omega
  have hcm : (cc : Int) ≤ 9223372036854775807 := by have := hC.2.1; unfold maxLen at this; omega
  refine enterO (n := 18) Try.func46 rfl rfl rfl O fun a w F O => ?_
  refine c_seq fun K1 hK1 => c_region (sp F (p_assign rfl) rfl rfl fun a F => sp F (p_assign rfl) rfl rfl fun a F => c_nil (hK1 _ _ (?_)))
  try clear hK1 K1
  refine c_seq fun K2 hK2 => c_region (sp F (p_move rfl) rfl rfl fun a F => so F rfl (o_call (vs := #[.slice A cn cc]) F Try.en_58 rfl rfl ((l6Open_ok A cn cc w (by omega) (by omega)).mono ?_)))
  rintro e w ⟨b8, m8, rfl, h8a, h8b, K⟩
  refine ⟨_, rfl, fun a F => ?_⟩
  have O : Own w0 [] [.cells b8 [.slice A m8 cc, .int .i64 (0)] 71] w := O.call0 K
  clear K
  have hCode : Code w0 b8 A m8 := Code.of hC (by omega) (by omega) (O.fresh 0 rfl rfl)
  have O : Own w0 [] [.cells b8 [.slice A m8 cc, .int .i64 (0)] 71] w := O
  refine sp F (p_assign rfl) rfl rfl fun a F => c_nil (hK2 _ _ (?_))
  try clear hK2 K2
  refine c_seq fun K3 hK3 => c_region (sp F (p_move rfl) rfl rfl fun a F => so F rfl (o_call (vs := #[.pointer (some ⟨b8, 0, none⟩)]) F Try.en_57 rfl rfl ((l92Refs_ok b8 A m8 cc 0 w (hCode.keep O (by simp)) (by omega) (by omega) (O.hand1 rfl)).mono ?_)))
  rintro e w ⟨b10, N10, C10, es10, q10, rfl, h10a, h10b, h10c, h10d, K⟩
  refine ⟨_, rfl, fun a F => ?_⟩
  have O : Own w0 [] [.cells b8 [.slice A m8 cc, .int .i64 (q10)] 71, .row 3 1 (.slice (some ⟨b10, 0, none⟩) N10 C10) N10 (es10.flatMap encInt)] w := O.call1 K rfl
  clear K
  have O : Own w0 [] [.cells b8 [.slice A m8 cc, .int .i64 (q10)] 71, .row 3 1 (.slice (some ⟨b10, 0, none⟩) N10 C10) N10 (es10.flatMap encInt)] w := O
  refine sp F (p_assign rfl) rfl rfl fun a F => c_nil (hK3 _ _ (?_))
  try clear hK3 K3
  refine c_seq fun K4 hK4 => c_region (sp F (p_move rfl) rfl rfl fun a F => sp F (p_move rfl) rfl rfl fun a F => so F rfl (o_call (vs := #[.pointer (some ⟨b8, 0, none⟩), .slice (some ⟨b10, 0, none⟩) N10 C10]) F Try.en_64 rfl rfl ((l92Updates_ok b8 A m8 cc q10 (some ⟨b10, 0, none⟩) N10 C10 es10 w (hCode.keep O (by simp)) (by omega) (by omega) (O.arr 1 (es := es10) rfl encInt_len (by decide)) (by first | omega | (simp; done) | (simp; omega) | (simp at *; omega)) (by omega) (O.apart 1 0 rfl rfl) (O.hand1 rfl)).mono ?_)))
  rintro e w ⟨b13, N13, C13, es13, q13, rfl, h13a, h13b, h13c, h13d, K⟩
  refine ⟨_, rfl, fun a F => ?_⟩
  have O : Own w0 [] [.cells b8 [.slice A m8 cc, .int .i64 (q13)] 71, .row 51 3 (.slice (some ⟨b13, 0, none⟩) N13 C13) N13 (es13.flatMap encUp), .row 3 1 (.slice (some ⟨b10, 0, none⟩) N10 C10) N10 (es10.flatMap encInt)] w := O.call1 K rfl
  clear K
  have O : Own w0 [] [.cells b8 [.slice A m8 cc, .int .i64 (q13)] 71, .row 51 3 (.slice (some ⟨b13, 0, none⟩) N13 C13) N13 (es13.flatMap encUp), .row 3 1 (.slice (some ⟨b10, 0, none⟩) N10 C10) N10 (es10.flatMap encInt)] w := O
  refine sp F (p_assign rfl) rfl rfl fun a F => c_nil (hK4 _ _ (?_))
  try clear hK4 K4
  refine c_seq fun K5 hK5 => c_region (sp F (p_move rfl) rfl rfl fun a F => sp F (p_move rfl) rfl rfl fun a F => sp F (p_move rfl) rfl rfl fun a F => so F rfl (o_call (vs := #[.pointer (some ⟨b8, 0, none⟩), .slice (some ⟨b10, 0, none⟩) N10 C10]) F Try.en_64 rfl rfl ((l92Updates_ok b8 A m8 cc q13 (some ⟨b10, 0, none⟩) N10 C10 es10 w (hCode.keep O (by simp)) (by omega) (by omega) (O.arr 2 (es := es10) rfl encInt_len (by decide)) (by first | omega | (simp; done) | (simp; omega) | (simp at *; omega)) (by omega) (O.apart 2 0 rfl rfl) (O.hand1 rfl)).mono ?_)))
  rintro e w ⟨b17, N17, C17, es17, q17, rfl, h17a, h17b, h17c, h17d, K⟩
  refine ⟨_, rfl, fun a F => ?_⟩
  have O : Own w0 [] [.cells b8 [.slice A m8 cc, .int .i64 (q17)] 71, .row 51 3 (.slice (some ⟨b17, 0, none⟩) N17 C17) N17 (es17.flatMap encUp), .row 51 3 (.slice (some ⟨b13, 0, none⟩) N13 C13) N13 (es13.flatMap encUp), .row 3 1 (.slice (some ⟨b10, 0, none⟩) N10 C10) N10 (es10.flatMap encInt)] w := O.call1 K rfl
  clear K
  have O : Own w0 [] [.cells b8 [.slice A m8 cc, .int .i64 (q17)] 71, .row 51 3 (.slice (some ⟨b17, 0, none⟩) N17 C17) N17 (es17.flatMap encUp), .row 51 3 (.slice (some ⟨b13, 0, none⟩) N13 C13) N13 (es13.flatMap encUp), .row 3 1 (.slice (some ⟨b10, 0, none⟩) N10 C10) N10 (es10.flatMap encInt)] w := O
  refine sp F (p_assign rfl) rfl rfl fun a F => sp F (p_assign rfl) rfl rfl fun a F => c_nil (hK5 _ _ (?_))
  try clear hK5 K5
  refine wp_ret (ret2 F rfl rfl rfl (?_))
  have O : Own w0 [] [.row 51 3 (.slice (some ⟨b13, 0, none⟩) N13 C13) N13 (es13.flatMap encUp), .row 51 3 (.slice (some ⟨b17, 0, none⟩) N17 C17) N17 (es17.flatMap encUp)] w := (((O.pull 1 rfl).pull 2 rfl).take 2)
  exact ⟨b13, N13, C13, es13, b17, N17, C17, es17, rfl, by first | assumption | omega, by first | assumption | omega, by first | assumption | omega, by first | assumption | omega, O⟩

set_option maxRecDepth 100000 in
/-- spec.DrawRefsDiffer -/
theorem dRefsDiffer_ok (A : Option Addr) (cn : Nat) (cc : Nat) (w0 : World) (hC : CodeIn w0 A cn cc) :
    Calls Try.prog 40 #[.slice A cn cc] w0 fun e w => ∃ (b : Nat), ∃ (N : Nat), ∃ (C : Nat), ∃ (es : List (Int)), ∃ (P2 : Option Addr), ∃ (N2 : Nat), ∃ (C2 : Nat), ∃ (es2 : List (Int)), e = .returned (.tuple #[.slice (some ⟨b, 0, none⟩) N C, .slice P2 N2 C2]) ∧ ((N : Int) = es.length) ∧ ((N : Int) ≤ 4) ∧ ((N2 : Int) = es2.length) ∧ ((N2 : Int) ≤ 4) ∧ Own w0 [] [.row 3 1 (.slice (some ⟨b, 0, none⟩) N C) N (es.flatMap encInt), .row 3 1 (.slice P2 N2 C2) N2 (es2.flatMap encInt)] w := by
  have O := Own.start w0
  have hcc : (cn : Int) ≤ cc := by have := hC.1; omega
  have hcm : (cc : Int) ≤ 9223372036854775807 := by have := hC.2.1; unfold maxLen at this; omega
  refine enterO (n := 36) Try.func40 rfl rfl rfl O fun a w F O => ?_
  refine c_seq fun K1 hK1 => c_region (sp F (p_assign rfl) rfl rfl fun a F => sp F (p_assign rfl) rfl rfl fun a F => c_nil (hK1 _ _ (?_)))
  try clear hK1 K1
  refine c_seq fun K2 hK2 => c_region (sp F (p_move rfl) rfl rfl fun a F => so F rfl (o_call (vs := #[.slice A cn cc]) F Try.en_58 rfl rfl ((l6Open_ok A cn cc w (by omega) (by omega)).mono ?_)))
  rintro e w ⟨b8, m8, rfl, h8a, h8b, K⟩
  refine ⟨_, rfl, fun a F => ?_⟩
  have O : Own w0 [] [.cells b8 [.slice A m8 cc, .int .i64 (0)] 71] w := O.call0 K
  clear K
  have hCode : Code w0 b8 A m8 := Code.of hC (by omega) (by omega) (O.fresh 0 rfl rfl)
  have O : Own w0 [] [.cells b8 [.slice A m8 cc, .int .i64 (0)] 71] w := O
  refine sp F (p_assign rfl) rfl rfl fun a F => c_nil (hK2 _ _ (?_))
  try clear hK2 K2
  refine c_seq fun K3 hK3 => c_region (sp F (p_move rfl) rfl rfl fun a F => so F rfl (o_call (vs := #[.pointer (some ⟨b8, 0, none⟩)]) F Try.en_57 rfl rfl ((l92Refs_ok b8 A m8 cc 0 w (hCode.keep O (by simp)) (by omega) (by omega) (O.hand1 rfl)).mono ?_)))
  rintro e w ⟨b10, N10, C10, es10, q10, rfl, h10a, h10b, h10c, h10d, K⟩
  refine ⟨_, rfl, fun a F => ?_⟩
  have O : Own w0 [] [.cells b8 [.slice A m8 cc, .int .i64 (q10)] 71, .row 3 1 (.slice (some ⟨b10, 0, none⟩) N10 C10) N10 (es10.flatMap encInt)] w := O.call1 K rfl
  clear K
  have O : Own w0 [] [.cells b8 [.slice A m8 cc, .int .i64 (q10)] 71, .row 3 1 (.slice (some ⟨b10, 0, none⟩) N10 C10) N10 (es10.flatMap encInt)] w := O
  refine sp F (p_assign rfl) rfl rfl fun a F => c_nil (hK3 _ _ (?_))
  try clear hK3 K3
  refine c_seq fun K4 hK4 => c_region (so F rfl (o_bslice (cs := []) F O rfl Try.underlying22 Try.sz_3 Try.zero_3 rfl rfl rfl fun b11 w O a F => ?_))
  have O : Own w0 [] [.cells b11 [] 3, .cells b8 [.slice A m8 cc, .int .i64 (q10)] 71, .row 3 1 (.slice (some ⟨b10, 0, none⟩) N10 C10) N10 (es10.flatMap encInt)] w := O
  refine sp F (p_move rfl) rfl rfl fun a F => ?_
  have O := O.asRow 0 (q := 0) (sz := 1) rfl rfl (by unfold maxLen; omega)
  have O : Own w0 [] [.row 3 1 (.slice (some ⟨b11, 0, none⟩) 0 0) 0 ([]), .cells b8 [.slice A m8 cc, .int .i64 (q10)] 71, .row 3 1 (.slice (some ⟨b10, 0, none⟩) N10 C10) N10 (es10.flatMap encInt)] w := O
  refine so F rfl (o_appendX F O rfl rfl Try.underlying22 Try.elem_3 (by decide) 0 rfl (O.arr 2 (es := es10) rfl encInt_len (by decide)) ⟨_, _, rfl⟩ encInt_len (by first | omega | (simp; omega)) (fun _ => rfl) (by unfold maxLen; omega) (by omega) rfl fun p13 k13 w O a F => ?_)
  have hst : ([]) ++ (es10).flatMap encInt = (es10).flatMap encInt := by simp
  have O := O.setR 0 rfl (congrArg (Res.row 3 1 (.slice p13 (0 + N10) k13) (0 + N10)) hst)
  have O : Own w0 [] [.row 3 1 (.slice p13 (0 + N10) k13) (0 + N10) ((es10).flatMap encInt), .cells b8 [.slice A m8 cc, .int .i64 (q10)] 71, .row 3 1 (.slice (some ⟨b10, 0, none⟩) N10 C10) N10 (es10.flatMap encInt)] w := O
  refine sp F (p_assign rfl) rfl rfl fun a F => c_nil (hK4 _ _ (?_))
  try clear hK4 K4
  refine c_seq fun K5 hK5 => c_seq fun K6 hK6 => c_region (sp F (p_move rfl) rfl rfl fun a F => ?_)
  have O := O.pull 1 rfl
  have O : Own w0 [] [.cells b8 [.slice A m8 cc, .int .i64 (q10)] 71, .row 3 1 (.slice p13 (0 + N10) k13) (0 + N10) ((es10).flatMap encInt), .row 3 1 (.slice (some ⟨b10, 0, none⟩) N10 C10) N10 (es10.flatMap encInt)] w := O
  refine so F rfl (o_call (vs := #[.pointer (some ⟨b8, 0, none⟩), .int .i64 (2)]) F Try.en_70 rfl rfl ((pick_ok b8 A m8 cc q10 2 71 w (hCode.keep O (by simp)) (by omega) (by omega) (by omega) (by omega) (O.hand1 rfl)).mono ?_))
  rintro e w ⟨r15, rfl, h15a, h15b, K⟩
  refine ⟨_, rfl, fun a F => ?_⟩
  have O : Own w0 [] [.cells b8 [.slice A m8 cc, .int .i64 (q10 + 1)] 71, .row 3 1 (.slice p13 (0 + N10) k13) (0 + N10) ((es10).flatMap encInt), .row 3 1 (.slice (some ⟨b10, 0, none⟩) N10 C10) N10 (es10.flatMap encInt)] w := O.call1 K rfl
  clear K
  have O : Own w0 [] [.cells b8 [.slice A m8 cc, .int .i64 (q10 + 1)] 71, .row 3 1 (.slice p13 (0 + N10) k13) (0 + N10) ((es10).flatMap encInt), .row 3 1 (.slice (some ⟨b10, 0, none⟩) N10 C10) N10 (es10.flatMap encInt)] w := O
  refine sp F (p_eql rfl rfl) rfl rfl fun a F => sp F (p_move rfl) rfl rfl fun a F => ?_
  by_cases c17 : r15 = 0
  · have F := F.setB (d := 16) rfl (decide_eq_true c17)
    have F := F.setB (d := 17) rfl (decide_eq_true c17)
    refine sp F (p_move rfl) rfl rfl fun a F => sp F (p_len_l rfl Try.underlying22) rfl rfl fun a F => sp F (p_gtr rfl rfl) rfl rfl fun a F => sp F (p_pick (t := true) rfl rfl) rfl rfl fun a F => c_nil (hK6 _ _ (?_))
    try clear hK6 K6
    by_cases c21 : 0 < ((0 + N10) : Int)
    · have F := F.setB (d := 20) rfl (decide_eq_true c21)
      have F := F.setB (d := 21) rfl (decide_eq_true c21)
      refine c_ift F rfl (c_seq fun K7 hK7 => c_region (sp F (p_move rfl) rfl rfl fun a F => sp F (p_move rfl) rfl rfl fun a F => sp F (p_move rfl) rfl rfl fun a F => sp F (p_len_l rfl Try.underlying22) rfl rfl fun a F => so F rfl (o_call (vs := #[.pointer (some ⟨b8, 0, none⟩), .int .i64 (((0 + N10) : Int))]) F Try.en_70 rfl rfl ((pick_ok b8 A m8 cc (q10 + 1) ((0 + N10) : Int) 71 w (hCode.keep O (by simp)) (by omega) (by omega) (by omega) (by omega) (O.hand1 rfl)).mono ?_))))
      rintro e w ⟨r26, rfl, h26a, h26b, K⟩
      refine ⟨_, rfl, fun a F => ?_⟩
      have O : Own w0 [] [.cells b8 [.slice A m8 cc, .int .i64 ((q10 + 1) + 1)] 71, .row 3 1 (.slice p13 (0 + N10) k13) (0 + N10) ((es10).flatMap encInt), .row 3 1 (.slice (some ⟨b10, 0, none⟩) N10 C10) N10 (es10.flatMap encInt)] w := O.call1 K rfl
      clear K
      have O : Own w0 [] [.cells b8 [.slice A m8 cc, .int .i64 ((q10 + 1) + 1)] 71, .row 3 1 (.slice p13 (0 + N10) k13) (0 + N10) ((es10).flatMap encInt), .row 3 1 (.slice (some ⟨b10, 0, none⟩) N10 C10) N10 (es10.flatMap encInt)] w := O
      refine sp F (p_move rfl) rfl rfl fun a F => so F rfl (o_call (vs := #[.pointer (some ⟨b8, 0, none⟩), .int .i64 (6)]) F Try.en_70 rfl rfl ((pick_ok b8 A m8 cc ((q10 + 1) + 1) 6 71 w (hCode.keep O (by simp)) (by omega) (by omega) (by omega) (by omega) (O.hand1 rfl)).mono ?_))
      rintro e w ⟨r28, rfl, h28a, h28b, K⟩
      refine ⟨_, rfl, fun a F => ?_⟩
      have O : Own w0 [] [.cells b8 [.slice A m8 cc, .int .i64 (((q10 + 1) + 1) + 1)] 71, .row 3 1 (.slice p13 (0 + N10) k13) (0 + N10) ((es10).flatMap encInt), .row 3 1 (.slice (some ⟨b10, 0, none⟩) N10 C10) N10 (es10.flatMap encInt)] w := O.call1 K rfl
      clear K
      have O : Own w0 [] [.cells b8 [.slice A m8 cc, .int .i64 (((q10 + 1) + 1) + 1)] 71, .row 3 1 (.slice p13 (0 + N10) k13) (0 + N10) ((es10).flatMap encInt), .row 3 1 (.slice (some ⟨b10, 0, none⟩) N10 C10) N10 (es10.flatMap encInt)] w := O
      refine sp F (p_sub rfl rfl (by omega) (by omega)) rfl rfl fun a F => ?_
      obtain ⟨b30, hp30⟩ := O.rowSome 1 rfl (by omega)
      rw [hp30] at O
      try rw [hp30] at F
      obtain ⟨e30, he30⟩ := get_some (l := es10) (i := r26) (by omega) (by first | omega | (simp; omega))
      refine sp F (p_iaddr rfl rfl Try.underlying22 Try.sz_3 (by omega) (by omega)) rfl rfl fun a F => so F rfl (o_storeRow F O rfl rfl Try.sz_3 rfl rfl 1 rfl (by rw [flat_len encInt_len]; first | omega | (simp; omega)) fun w O => ?_)
      have hst : ((es10).flatMap encInt).set (0 + (r26 : Int).toNat * 1) (.int .i64 (r28 - 1)) = (es10.set (r26 : Int).toNat (r28 - 1)).flatMap encInt := flat_set encInt_len he30 (j := 0) rfl (by decide)
      have O := O.setR 1 rfl (congrArg (Res.row 3 1 (.slice (some ⟨b30, 0, none⟩) (0 + N10) k13) (0 + N10)) hst)
      have O : Own w0 [] [.cells b8 [.slice A m8 cc, .int .i64 (((q10 + 1) + 1) + 1)] 71, .row 3 1 (.slice (some ⟨b30, 0, none⟩) (0 + N10) k13) (0 + N10) ((es10.set (r26 : Int).toNat (r28 - 1)).flatMap encInt), .row 3 1 (.slice (some ⟨b10, 0, none⟩) N10 C10) N10 (es10.flatMap encInt)] w := O
      refine c_nil (hK7 _ _ (?_))
      try clear hK7 K7
      refine c_seq fun K8 hK8 => c_region (sp F (p_move rfl) rfl rfl fun a F => sp F (p_move rfl) rfl rfl fun a F => sp F (p_assign rfl) rfl rfl fun a F => sp F (p_assign rfl) rfl rfl fun a F => c_nil (hK8 _ _ (?_)))
      try clear hK8 K8
      refine wp_ret (r_then (ret2 F rfl rfl rfl (?_)))
      have O : Own w0 [] [.row 3 1 (.slice (some ⟨b10, 0, none⟩) N10 C10) N10 (es10.flatMap encInt), .row 3 1 (.slice (some ⟨b30, 0, none⟩) (0 + N10) k13) (0 + N10) ((es10.set (r26 : Int).toNat (r28 - 1)).flatMap encInt)] w := (((O.pull 1 rfl).pull 2 rfl).take 2)
      exact ⟨b10, N10, C10, es10, (some ⟨b30, 0, none⟩), (0 + N10), k13, (es10.set (r26 : Int).toNat (r28 - 1)), rfl, by first | omega | (simp; done) | (simp; omega) | (simp at *; omega), by first | omega | (simp; done) | (simp; omega) | (simp at *; omega), by first | omega | (simp; done) | (simp; omega) | (simp at *; omega), by first | omega | (simp; done) | (simp; omega) | (simp at *; omega), O⟩
    · have F := F.setB (d := 20) rfl (decide_eq_false c21)
      have F := F.setB (d := 21) rfl (decide_eq_false c21)
      refine c_iff F rfl (wp_skip (hK5 _ _ (?_)))
      try clear hK5 K5
      refine c_seq fun K7 hK7 => c_region (sp F (p_move rfl) rfl rfl fun a F => sp F (p_move rfl) rfl rfl fun a F => so F rfl (o_call (vs := #[.pointer (some ⟨b8, 0, none⟩)]) F Try.en_57 rfl rfl ((l92Refs_ok b8 A m8 cc (q10 + 1) w (hCode.keep O (by simp)) (by omega) (by omega) (O.hand1 rfl)).mono ?_)))
      rintro e w ⟨b35, N35, C35, es35, q35, rfl, h35a, h35b, h35c, h35d, K⟩
      refine ⟨_, rfl, fun a F => ?_⟩
      have O : Own w0 [] [.cells b8 [.slice A m8 cc, .int .i64 (q35)] 71, .row 3 1 (.slice (some ⟨b35, 0, none⟩) N35 C35) N35 (es35.flatMap encInt), .row 3 1 (.slice p13 (0 + N10) k13) (0 + N10) ((es10).flatMap encInt), .row 3 1 (.slice (some ⟨b10, 0, none⟩) N10 C10) N10 (es10.flatMap encInt)] w := O.call1 K rfl
      clear K
      have O : Own w0 [] [.cells b8 [.slice A m8 cc, .int .i64 (q35)] 71, .row 3 1 (.slice (some ⟨b35, 0, none⟩) N35 C35) N35 (es35.flatMap encInt), .row 3 1 (.slice p13 (0 + N10) k13) (0 + N10) ((es10).flatMap encInt), .row 3 1 (.slice (some ⟨b10, 0, none⟩) N10 C10) N10 (es10.flatMap encInt)] w := O
      refine sp F (p_assign rfl) rfl rfl fun a F => sp F (p_assign rfl) rfl rfl fun a F => c_nil (hK7 _ _ (?_))
      try clear hK7 K7
      refine wp_ret (ret2 F rfl rfl rfl (?_))
      have O : Own w0 [] [.row 3 1 (.slice (some ⟨b10, 0, none⟩) N10 C10) N10 (es10.flatMap encInt), .row 3 1 (.slice (some ⟨b35, 0, none⟩) N35 C35) N35 (es35.flatMap encInt)] w := (((O.pull 1 rfl).pull 3 rfl).take 2)
      exact ⟨b10, N10, C10, es10, (some ⟨b35, 0, none⟩), N35, C35, es35, rfl, by first | omega | (simp; done) | (simp; omega) | (simp at *; omega), by first | omega | (simp; done) | (simp; omega) | (simp at *; omega), by first | omega | (simp; done) | (simp; omega) | (simp at *; omega), by first | omega | (simp; done) | (simp; omega) | (simp at *; omega), O⟩
  · have F := F.setB (d := 16) rfl (decide_eq_false c17)
    have F := F.setB (d := 17) rfl (decide_eq_false c17)
    refine ss F rfl rfl fun a F => ss F rfl rfl fun a F => ss F rfl rfl fun a F => sp F (p_pick (t := false) rfl rfl) rfl rfl fun a F => c_nil (hK6 _ _ (?_))
    try clear hK6 K6
    refine c_iff F rfl (wp_skip (hK5 _ _ (?_)))
    try clear hK5 K5
    refine c_seq fun K7 hK7 => c_region (sp F (p_move rfl) rfl rfl fun a F => sp F (p_move rfl) rfl rfl fun a F => so F rfl (o_call (vs := #[.pointer (some ⟨b8, 0, none⟩)]) F Try.en_57 rfl rfl ((l92Refs_ok b8 A m8 cc (q10 + 1) w (hCode.keep O (by simp)) (by omega) (by omega) (O.hand1 rfl)).mono ?_)))
    rintro e w ⟨b35, N35, C35, es35, q35, rfl, h35a, h35b, h35c, h35d, K⟩
    refine ⟨_, rfl, fun a F => ?_⟩
    have O : Own w0 [] [.cells b8 [.slice A m8 cc, .int .i64 (q35)] 71, .row 3 1 (.slice (some ⟨b35, 0, none⟩) N35 C35) N35 (es35.flatMap encInt), .row 3 1 (.slice p13 (0 + N10) k13) (0 + N10) ((es10).flatMap encInt), .row 3 1 (.slice (some ⟨b10, 0, none⟩) N10 C10) N10 (es10.flatMap encInt)] w := O.call1 K rfl
    clear K
    have O : Own w0 [] [.cells b8 [.slice A m8 cc, .int .i64 (q35)] 71, .row 3 1 (.slice (some ⟨b35, 0, none⟩) N35 C35) N35 (es35.flatMap encInt), .row 3 1 (.slice p13 (0 + N10) k13) (0 + N10) ((es10).flatMap encInt), .row 3 1 (.slice (some ⟨b10, 0, none⟩) N10 C10) N10 (es10.flatMap encInt)] w := O
    refine sp F (p_assign rfl) rfl rfl fun a F => sp F (p_assign rfl) rfl rfl fun a F => c_nil (hK7 _ _ (?_))
    try clear hK7 K7
    refine wp_ret (ret2 F rfl rfl rfl (?_))
    have O : Own w0 [] [.row 3 1 (.slice (some ⟨b10, 0, none⟩) N10 C10) N10 (es10.flatMap encInt), .row 3 1 (.slice (some ⟨b35, 0, none⟩) N35 C35) N35 (es35.flatMap encInt)] w := (((O.pull 1 rfl).pull 3 rfl).take 2)
    exact ⟨b10, N10, C10, es10, (some ⟨b35, 0, none⟩), N35, C35, es35, rfl, by first | omega | (simp; done) | (simp; omega) | (simp at *; omega), by first | omega | (simp; done) | (simp; omega) | (simp at *; omega), by first | omega | (simp; done) | (simp; omega) | (simp at *; omega), by first | omega | (simp; done) | (simp; omega) | (simp at *; omega), O⟩

end Go.Proofs.Ytilpbddeijolbaa
