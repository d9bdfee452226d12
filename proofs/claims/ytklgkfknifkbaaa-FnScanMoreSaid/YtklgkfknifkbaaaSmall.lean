/- Contracts of small functions: ranges, validity. No conditions. -/
import Derived.Test.YtklgkfknifkbaaaTypes
namespace Go.Proofs.Ytklgkfknifkbaaa
open Go.ChangeShapes Go.WideShapes Go.ChangeAt Go.RowKit
set_option linter.unusedVariables false
set_option linter.unusedSimpArgs false

set_option maxRecDepth 100000 in
/-- spec.l6In -/
theorem l6In_ok (n : Int) (lo : Int) (hi : Int) (w0 : World) :
    Calls Try.prog 50 #[.int .i64 (n), .int .i64 (lo), .int .i64 (hi)] w0 fun e w => e = .returned (.bool (decide (lo ≤ n ∧ n ≤ hi))) ∧ Own w0 [] [] w := by
  have O := Own.start w0
  refine enterO (n := 15) Try.func50 rfl rfl rfl O fun a w F O => ?_
  refine c_seq fun K1 hK1 => c_region (sp F (p_assign rfl) rfl rfl fun a F => c_nil (hK1 _ _ (?_)))
  try clear hK1 K1
  refine c_seq fun K2 hK2 => c_region (sp F (p_move rfl) rfl rfl fun a F => sp F (p_move rfl) rfl rfl fun a F => sp F (p_geq rfl rfl) rfl rfl fun a F => sp F (p_move rfl) rfl rfl fun a F => ?_)
  by_cases c10 : lo ≤ n
  · have F := F.setB (d := 9) rfl (decide_eq_true c10)
    have F := F.setB (d := 10) rfl (decide_eq_true c10)
    refine sp F (p_move rfl) rfl rfl fun a F => sp F (p_move rfl) rfl rfl fun a F => sp F (p_leq rfl rfl) rfl rfl fun a F => sp F (p_pick (t := true) rfl rfl) rfl rfl fun a F => sp F (p_assign rfl) rfl rfl fun a F => c_nil (hK2 _ _ (?_))
    try clear hK2 K2
    refine wp_ret (ret1 F rfl rfl (?_))
    exact ⟨congrArg Ending.returned (show Value.bool (decide (n ≤ hi)) = .bool (decide (lo ≤ n ∧ n ≤ hi)) from by exact vbi (by omega)), O⟩
  · have F := F.setB (d := 9) rfl (decide_eq_false c10)
    have F := F.setB (d := 10) rfl (decide_eq_false c10)
    refine ss F rfl rfl fun a F => ss F rfl rfl fun a F => ss F rfl rfl fun a F => sp F (p_pick (t := false) rfl rfl) rfl rfl fun a F => sp F (p_assign rfl) rfl rfl fun a F => c_nil (hK2 _ _ (?_))
    try clear hK2 K2
    refine wp_ret (ret1 F rfl rfl (?_))
    exact ⟨congrArg Ending.returned (show Value.bool false = .bool (decide (lo ≤ n ∧ n ≤ hi)) from by exact vbf (by omega)), O⟩

set_option maxRecDepth 100000 in
/-- impl.inRange -/
theorem inRange_ok (n : Int) (lo : Int) (hi : Int) (w0 : World) :
    Calls Try.prog 51 #[.int .i64 (n), .int .i64 (lo), .int .i64 (hi)] w0 fun e w => e = .returned (.bool (decide (lo ≤ n ∧ n ≤ hi))) ∧ Own w0 [] [] w := by
  have O := Own.start w0
  refine enterO (n := 15) Try.func51 rfl rfl rfl O fun a w F O => ?_
  refine c_seq fun K1 hK1 => c_region (sp F (p_assign rfl) rfl rfl fun a F => c_nil (hK1 _ _ (?_)))
  try clear hK1 K1
  refine c_seq fun K2 hK2 => c_region (sp F (p_move rfl) rfl rfl fun a F => sp F (p_move rfl) rfl rfl fun a F => sp F (p_leq rfl rfl) rfl rfl fun a F => sp F (p_move rfl) rfl rfl fun a F => ?_)
  by_cases c10 : lo ≤ n
  · have F := F.setB (d := 9) rfl (decide_eq_true c10)
    have F := F.setB (d := 10) rfl (decide_eq_true c10)
    refine sp F (p_move rfl) rfl rfl fun a F => sp F (p_move rfl) rfl rfl fun a F => sp F (p_leq rfl rfl) rfl rfl fun a F => sp F (p_pick (t := true) rfl rfl) rfl rfl fun a F => sp F (p_assign rfl) rfl rfl fun a F => c_nil (hK2 _ _ (?_))
    try clear hK2 K2
    refine wp_ret (ret1 F rfl rfl (?_))
    exact ⟨congrArg Ending.returned (show Value.bool (decide (n ≤ hi)) = .bool (decide (lo ≤ n ∧ n ≤ hi)) from by exact vbi (by omega)), O⟩
  · have F := F.setB (d := 9) rfl (decide_eq_false c10)
    have F := F.setB (d := 10) rfl (decide_eq_false c10)
    refine ss F rfl rfl fun a F => ss F rfl rfl fun a F => ss F rfl rfl fun a F => sp F (p_pick (t := false) rfl rfl) rfl rfl fun a F => sp F (p_assign rfl) rfl rfl fun a F => c_nil (hK2 _ _ (?_))
    try clear hK2 K2
    refine wp_ret (ret1 F rfl rfl (?_))
    exact ⟨congrArg Ending.returned (show Value.bool false = .bool (decide (lo ≤ n ∧ n ≤ hi)) from by exact vbf (by omega)), O⟩

set_option maxRecDepth 100000 in
/-- spec.DiskValid -/
theorem sDiskValid_ok (l : List UInt8) (n : Int) (w0 : World) :
    Calls Try.prog 26 #[.agg #[.string (bs (l)), .int .i64 (n)]] w0 fun e w => e = .returned (.bool (decide ((l.length : Int) ≤ 120 ∧ 0 ≤ n ∧ n ≤ (l.length : Int)))) ∧ Own w0 [] [] w := by
  have O := Own.start w0
  refine enterO (n := 15) Try.func26 rfl rfl rfl O fun a w F O => ?_
  refine c_seq fun K1 hK1 => c_region (so F rfl (o_box F O rfl rfl fun b1 w O a F => ?_))
  have O : Own w0 [] [.cells b1 [.string (bs (l)), .int .i64 (n)] 27] w := O
  refine sp F (p_assign rfl) rfl rfl fun a F => c_nil (hK1 _ _ (?_))
  try clear hK1 K1
  refine c_seq fun K2 hK2 => c_region (sp F (p_faddr rfl Try.foff_27_0) rfl rfl fun a F => sp F (p_load rfl Try.agg_9 (fun _ h => (ld1 (O.load 0 rfl rfl) h))) rfl rfl fun a F => sp F (p_len_b rfl Try.underlying9) rfl rfl fun a F => sp F (p_leq rfl rfl) rfl rfl fun a F => sp F (p_move rfl) rfl rfl fun a F => ?_)
  by_cases c7 : (l.length : Int) ≤ 120
  · have F := F.setB (d := 6) rfl (decide_eq_true c7)
    have F := F.setB (d := 7) rfl (decide_eq_true c7)
    refine sp F (p_faddr rfl Try.foff_27_1) rfl rfl fun a F => sp F (p_load rfl Try.agg_3 (fun _ h => (ld1 (O.load 0 rfl rfl) h))) rfl rfl fun a F => sp F (p_faddr rfl Try.foff_27_0) rfl rfl fun a F => sp F (p_load rfl Try.agg_9 (fun _ h => (ld1 (O.load 0 rfl rfl) h))) rfl rfl fun a F => sp F (p_len_b rfl Try.underlying9) rfl rfl fun a F => so F rfl (o_call (vs := #[.int .i64 (n), .int .i64 (0), .int .i64 ((l.length : Int))]) F Try.en_50 rfl rfl ((l6In_ok n 0 (l.length : Int) w).mono ?_))
    rintro e w ⟨rfl, K⟩
    refine ⟨_, rfl, fun a F => ?_⟩
    have O : Own w0 [] [.cells b1 [.string (bs (l)), .int .i64 (n)] 27] w := O.call0 K
    clear K
    have O : Own w0 [] [.cells b1 [.string (bs (l)), .int .i64 (n)] 27] w := O
    refine sp F (p_pick (t := true) rfl rfl) rfl rfl fun a F => sp F (p_assign rfl) rfl rfl fun a F => c_nil (hK2 _ _ (?_))
    try clear hK2 K2
    refine wp_ret (ret1 F rfl rfl (?_))
    have O : Own w0 [] [] w := (O.take 0)
    exact ⟨congrArg Ending.returned (show Value.bool (decide (0 ≤ n ∧ n ≤ (l.length : Int))) = .bool (decide ((l.length : Int) ≤ 120 ∧ 0 ≤ n ∧ n ≤ (l.length : Int))) from by exact vbi (by omega)), O⟩
  · have F := F.setB (d := 6) rfl (decide_eq_false c7)
    have F := F.setB (d := 7) rfl (decide_eq_false c7)
    refine ss F rfl rfl fun a F => ss F rfl rfl fun a F => ss F rfl rfl fun a F => ss F rfl rfl fun a F => ss F rfl rfl fun a F => ss F rfl rfl fun a F => sp F (p_pick (t := false) rfl rfl) rfl rfl fun a F => sp F (p_assign rfl) rfl rfl fun a F => c_nil (hK2 _ _ (?_))
    try clear hK2 K2
    refine wp_ret (ret1 F rfl rfl (?_))
    have O : Own w0 [] [] w := (O.take 0)
    exact ⟨congrArg Ending.returned (show Value.bool false = .bool (decide ((l.length : Int) ≤ 120 ∧ 0 ≤ n ∧ n ≤ (l.length : Int))) from by exact vbf (by omega)), O⟩

set_option maxRecDepth 100000 in
/-- impl.DiskValid -/
theorem iDiskValid_ok (l : List UInt8) (n : Int) (w0 : World) :
    Calls Try.prog 28 #[.agg #[.string (bs (l)), .int .i64 (n)]] w0 fun e w => e = .returned (.bool (decide ((l.length : Int) ≤ 120 ∧ 0 ≤ n ∧ n ≤ (l.length : Int)))) ∧ Own w0 [] [] w := by
  have O := Own.start w0
  refine enterO (n := 15) Try.func28 rfl rfl rfl O fun a w F O => ?_
  refine c_seq fun K1 hK1 => c_region (so F rfl (o_box F O rfl rfl fun b1 w O a F => ?_))
  have O : Own w0 [] [.cells b1 [.string (bs (l)), .int .i64 (n)] 27] w := O
  refine sp F (p_assign rfl) rfl rfl fun a F => c_nil (hK1 _ _ (?_))
  try clear hK1 K1
  refine c_seq fun K2 hK2 => c_region (sp F (p_faddr rfl Try.foff_27_0) rfl rfl fun a F => sp F (p_load rfl Try.agg_9 (fun _ h => (ld1 (O.load 0 rfl rfl) h))) rfl rfl fun a F => sp F (p_len_b rfl Try.underlying9) rfl rfl fun a F => sp F (p_leq rfl rfl) rfl rfl fun a F => sp F (p_move rfl) rfl rfl fun a F => ?_)
  by_cases c7 : (l.length : Int) ≤ 120
  · have F := F.setB (d := 6) rfl (decide_eq_true c7)
    have F := F.setB (d := 7) rfl (decide_eq_true c7)
    refine sp F (p_faddr rfl Try.foff_27_1) rfl rfl fun a F => sp F (p_load rfl Try.agg_3 (fun _ h => (ld1 (O.load 0 rfl rfl) h))) rfl rfl fun a F => sp F (p_faddr rfl Try.foff_27_0) rfl rfl fun a F => sp F (p_load rfl Try.agg_9 (fun _ h => (ld1 (O.load 0 rfl rfl) h))) rfl rfl fun a F => sp F (p_len_b rfl Try.underlying9) rfl rfl fun a F => so F rfl (o_call (vs := #[.int .i64 (n), .int .i64 (0), .int .i64 ((l.length : Int))]) F Try.en_51 rfl rfl ((inRange_ok n 0 (l.length : Int) w).mono ?_))
    rintro e w ⟨rfl, K⟩
    refine ⟨_, rfl, fun a F => ?_⟩
    have O : Own w0 [] [.cells b1 [.string (bs (l)), .int .i64 (n)] 27] w := O.call0 K
    clear K
    have O : Own w0 [] [.cells b1 [.string (bs (l)), .int .i64 (n)] 27] w := O
    refine sp F (p_pick (t := true) rfl rfl) rfl rfl fun a F => sp F (p_assign rfl) rfl rfl fun a F => c_nil (hK2 _ _ (?_))
    try clear hK2 K2
    refine wp_ret (ret1 F rfl rfl (?_))
    have O : Own w0 [] [] w := (O.take 0)
    exact ⟨congrArg Ending.returned (show Value.bool (decide (0 ≤ n ∧ n ≤ (l.length : Int))) = .bool (decide ((l.length : Int) ≤ 120 ∧ 0 ≤ n ∧ n ≤ (l.length : Int))) from by exact vbi (by omega)), O⟩
  · have F := F.setB (d := 6) rfl (decide_eq_false c7)
    have F := F.setB (d := 7) rfl (decide_eq_false c7)
    refine ss F rfl rfl fun a F => ss F rfl rfl fun a F => ss F rfl rfl fun a F => ss F rfl rfl fun a F => ss F rfl rfl fun a F => ss F rfl rfl fun a F => sp F (p_pick (t := false) rfl rfl) rfl rfl fun a F => sp F (p_assign rfl) rfl rfl fun a F => c_nil (hK2 _ _ (?_))
    try clear hK2 K2
    refine wp_ret (ret1 F rfl rfl (?_))
    have O : Own w0 [] [] w := (O.take 0)
    exact ⟨congrArg Ending.returned (show Value.bool false = .bool (decide ((l.length : Int) ≤ 120 ∧ 0 ≤ n ∧ n ≤ (l.length : Int))) from by exact vbf (by omega)), O⟩

set_option maxRecDepth 100000 in
/-- impl.isRecord -/
theorem isRecord_ok (l : List UInt8) (w0 : World) :
    Calls Try.prog 53 #[.string (bs (l))] w0 fun e w => e = .returned (.bool (decide (1 ≤ (l.length : Int) ∧ (l.length : Int) ≤ 12))) ∧ Own w0 [] [] w := by
  have O := Own.start w0
  refine enterO (n := 6) Try.func53 rfl rfl rfl O fun a w F O => ?_
  refine c_seq fun K1 hK1 => c_region (sp F (p_assign rfl) rfl rfl fun a F => c_nil (hK1 _ _ (?_)))
  try clear hK1 K1
  refine c_seq fun K2 hK2 => c_region (sp F (p_move rfl) rfl rfl fun a F => sp F (p_len_b rfl Try.underlying9) rfl rfl fun a F => so F rfl (o_call (vs := #[.int .i64 ((l.length : Int)), .int .i64 (1), .int .i64 (12)]) F Try.en_51 rfl rfl ((inRange_ok (l.length : Int) 1 12 w).mono ?_)))
  rintro e w ⟨rfl, K⟩
  refine ⟨_, rfl, fun a F => ?_⟩
  have O : Own w0 [] [] w := O.call0 K
  clear K
  have O : Own w0 [] [] w := O
  refine sp F (p_assign rfl) rfl rfl fun a F => c_nil (hK2 _ _ (?_))
  try clear hK2 K2
  refine wp_ret (ret1 F rfl rfl (?_))
  exact ⟨rfl, O⟩

end Go.Proofs.Ytklgkfknifkbaaa
