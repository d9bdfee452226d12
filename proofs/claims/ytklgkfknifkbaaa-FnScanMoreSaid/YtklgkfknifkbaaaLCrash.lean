/- Contracts of the functions on what is left after a failure. No conditions but those on lengths. -/
import Derived.Test.YtklgkfknifkbaaaSText
import Derived.Test.YtklgkfknifkbaaaImplScan
namespace Go.Proofs.Ytklgkfknifkbaaa
open Go.ChangeShapes Go.WideShapes Go.ChangeAt Go.RowKit
set_option linter.unusedVariables false
set_option linter.unusedSimpArgs false

set_option maxRecDepth 100000 in
/-- spec.LogCrash -/
theorem sLogCrash_ok (l : List UInt8) (n : Int) (k : Int) (w0 : World) (hl : (l.length : Int) ≤ 9223372036854775807) :
    Calls Try.prog 42 #[.agg #[.string (bs (l)), .int .i64 (n)], .int .i64 (k)] w0 fun e w => e = .returned (.agg #[.string (bs (crL l n k)), .int .i64 (crN l n k)]) ∧ Own w0 [] [] w := by
  have O := Own.start w0
  refine enterO (n := 39) Try.func42 rfl rfl rfl O fun a w F O => ?_
  refine c_seq fun K1 hK1 => c_region (so F rfl (o_box F O rfl rfl fun b2 w O a F => ?_))
  have O : Own w0 [] [.cells b2 [.string (bs (l)), .int .i64 (n)] 27] w := O
  refine so F rfl (o_alloc F O Try.zero_27 rfl fun b4 w O a F => ?_)
  have O : Own w0 [] [.cells b4 [.string (bs ([])), .int .i64 (0)] 27, .cells b2 [.string (bs (l)), .int .i64 (n)] 27] w := O
  refine c_nil (hK1 _ _ (?_))
  try clear hK1 K1
  refine c_seq fun K2 hK2 => c_seq fun K3 hK3 => c_region (sp F (p_loadC (cs := [.string (bs (l)), .int .i64 (n)]) rfl Try.agg_27 Try.sz_27 (fun _ h => (CA.cons (ld1 (O.load 1 rfl rfl) h) (CA.cons (ld1 (O.load 1 rfl rfl) h) CA.nil)))) rfl rfl fun a F => so F rfl (o_call (vs := #[.agg #[.string (bs (l)), .int .i64 (n)]]) F Try.en_26 rfl rfl ((sDiskValid_ok l n w).mono ?_)))
  rintro e w ⟨rfl, K⟩
  refine ⟨_, rfl, fun a F => ?_⟩
  have O : Own w0 [] [.cells b4 [.string (bs ([])), .int .i64 (0)] 27, .cells b2 [.string (bs (l)), .int .i64 (n)] 27] w := O.call0 K
  clear K
  have O : Own w0 [] [.cells b4 [.string (bs ([])), .int .i64 (0)] 27, .cells b2 [.string (bs (l)), .int .i64 (n)] 27] w := O
  by_cases c9 : (l.length : Int) ≤ 120 ∧ 0 ≤ n ∧ n ≤ (l.length : Int)
  · have F := F.setB (d := 9) rfl (decide_eq_true c9)
    refine sp F (p_not rfl) rfl rfl fun a F => sp F (p_move rfl) rfl rfl fun a F => sp F (p_move rfl) rfl rfl fun a F => sp F (p_lss rfl rfl) rfl rfl fun a F => sp F (p_pick (t := false) rfl rfl) rfl rfl fun a F => c_nil (hK3 _ _ (?_))
    try clear hK3 K3
    by_cases c14 : k < 0
    · have F := F.setB (d := 13) rfl (decide_eq_true c14)
      have F := F.setB (d := 14) rfl (decide_eq_true c14)
      refine c_ift F rfl (c_seq fun K4 hK4 => c_region (sp F (p_build (cs := [.string (bs ([])), .int .i64 (0)]) rfl Try.places_27 rfl) rfl rfl fun a F => so F rfl (o_storeA (vs := [.string (bs ([])), .int .i64 (0)]) F O rfl rfl Try.sz_27 (by simp [Value.oneCell']) 0 rfl rfl fun w O => ?_)))
      have O : Own w0 [] [.cells b4 [.string (bs ([])), .int .i64 (0)] 27, .cells b2 [.string (bs (l)), .int .i64 (n)] 27] w := O
      refine c_nil (hK4 _ _ (?_))
      try clear hK4 K4
      refine wp_ret (r_then (retC F O rfl rfl 0 rfl Try.agg_27 Try.sz_27 (?_)))
      have O : Own w0 [] [] w := (O.take 0)
      exact ⟨congrArg Ending.returned (show Value.agg #[.string (bs ([])), .int .i64 (0)] = .agg #[.string (bs (crL l n k)), .int .i64 (crN l n k)] from by exact vdisk (crL_bad (by first | exact fun h => c9 h.1 | exact fun h => absurd h.2 (by omega))).symm (crN_bad (by first | exact fun h => c9 h.1 | exact fun h => absurd h.2 (by omega))).symm), O⟩
    · have F := F.setB (d := 13) rfl (decide_eq_false c14)
      have F := F.setB (d := 14) rfl (decide_eq_false c14)
      refine c_iff F rfl (wp_skip (hK2 _ _ (?_)))
      try clear hK2 K2
      refine c_seq fun K4 hK4 => c_region (sp F (p_faddr rfl Try.foff_27_0) rfl rfl fun a F => sp F (p_load rfl Try.agg_9 (fun _ h => (ld1 (O.load 1 rfl rfl) h))) rfl rfl fun a F => sp F (p_len_b rfl Try.underlying9) rfl rfl fun a F => sp F (p_faddr rfl Try.foff_27_1) rfl rfl fun a F => sp F (p_load rfl Try.agg_3 (fun _ h => (ld1 (O.load 1 rfl rfl) h))) rfl rfl fun a F => sp F (p_move rfl) rfl rfl fun a F => sp F (p_min rfl rfl) rfl rfl fun a F => sp F (p_add rfl rfl (by omega) (by omega)) rfl rfl fun a F => sp F (p_min rfl rfl) rfl rfl fun a F => sp F (p_assign rfl) rfl rfl fun a F => c_nil (?_))
      refine hK4 _ _ (?_)
      try clear hK4 K4
      refine c_seq fun K5 hK5 => ?_
      have hlt := List.length_take (l := l) (i := (min (l.length : Int) (n + min k 120) : Int).toNat)
      refine c_region (sp F (p_faddr rfl Try.foff_27_0) rfl rfl fun a F => sp F (p_load rfl Try.agg_9 (fun _ h => (ld1 (O.load 1 rfl rfl) h))) rfl rfl fun a F => sp F (p_move rfl) rfl rfl fun a F => sp F (p_sto rfl rfl Try.underlying9 (by omega) (by omega)) rfl rfl fun a F => so F rfl (o_call (vs := #[.string (bs (l.take (min (l.length : Int) (n + (min k 120)) : Int).toNat))]) F Try.en_38 rfl rfl ((sLogScan_ok (l.take (min (l.length : Int) (n + (min k 120)) : Int).toNat) w (by first | omega | (simp; done) | (simp; omega))).mono ?_)))
      rintro e w ⟨P30, N30, C30, rfl, h30a, h30b, h30c, K⟩
      refine ⟨_, rfl, fun a F => ?_⟩
      have O : Own w0 [] [.row 9 1 (.slice P30 N30 C30) N30 ((scan (l.take (min (l.length : Int) (n + (min k 120)) : Int).toNat)).flatMap encStr), .cells b4 [.string (bs ([])), .int .i64 (0)] 27, .cells b2 [.string (bs (l)), .int .i64 (n)] 27] w := O.call0 K
      clear K
      have O : Own w0 [] [.row 9 1 (.slice P30 N30 C30) N30 ((scan (l.take (min (l.length : Int) (n + (min k 120)) : Int).toNat)).flatMap encStr), .cells b4 [.string (bs ([])), .int .i64 (0)] 27, .cells b2 [.string (bs (l)), .int .i64 (n)] 27] w := O
      refine sp F (p_move rfl) rfl rfl fun a F => sp F (p_extract rfl rfl) rfl rfl fun a F => sp F (p_extract rfl rfl) rfl rfl fun a F => sp F (p_assign rfl) rfl rfl fun a F => sp F (p_assign rfl) rfl rfl fun a F => c_nil (hK5 _ _ (?_))
      try clear hK5 K5
      refine c_seq fun K6 hK6 => c_region (sp F (p_faddr rfl Try.foff_27_0) rfl rfl fun a F => sp F (p_load rfl Try.agg_9 (fun _ h => (ld1 (O.load 2 rfl rfl) h))) rfl rfl fun a F => sp F (p_move rfl) rfl rfl fun a F => sp F (p_sto rfl rfl Try.underlying9 (by omega) (by omega)) rfl rfl fun a F => sp F (p_move rfl) rfl rfl fun a F => sp F (p_build (cs := [.string (bs (l.take ((used (scan (l.take (min (l.length : Int) (n + (min k 120)) : Int).toNat)) : Int) : Int).toNat)), .int .i64 ((used (scan (l.take (min (l.length : Int) (n + (min k 120)) : Int).toNat)) : Int))]) rfl Try.places_27 rfl) rfl rfl fun a F => so F rfl (o_storeA (vs := [.string (bs (l.take ((used (scan (l.take (min (l.length : Int) (n + (min k 120)) : Int).toNat)) : Int) : Int).toNat)), .int .i64 ((used (scan (l.take (min (l.length : Int) (n + (min k 120)) : Int).toNat)) : Int))]) F O rfl rfl Try.sz_27 (by simp [Value.oneCell']) 1 rfl rfl fun w O => ?_))
      have O : Own w0 [] [.row 9 1 (.slice P30 N30 C30) N30 ((scan (l.take (min (l.length : Int) (n + (min k 120)) : Int).toNat)).flatMap encStr), .cells b4 [.string (bs (l.take ((used (scan (l.take (min (l.length : Int) (n + (min k 120)) : Int).toNat)) : Int) : Int).toNat)), .int .i64 ((used (scan (l.take (min (l.length : Int) (n + (min k 120)) : Int).toNat)) : Int))] 27, .cells b2 [.string (bs (l)), .int .i64 (n)] 27] w := O
      refine c_nil (hK6 _ _ (?_))
      try clear hK6 K6
      refine wp_ret (retC F O rfl rfl 1 rfl Try.agg_27 Try.sz_27 (?_))
      have O : Own w0 [] [] w := (O.take 0)
      exact ⟨congrArg Ending.returned (show Value.agg #[.string (bs (l.take ((used (scan (l.take (min (l.length : Int) (n + (min k 120)) : Int).toNat)) : Int) : Int).toNat)), .int .i64 ((used (scan (l.take (min (l.length : Int) (n + (min k 120)) : Int).toNat)) : Int))] = .agg #[.string (bs (crL l n k)), .int .i64 (crN l n k)] from by exact vdisk (crS ⟨c9, by omega⟩) (by rw [crN_ok ⟨c9, by omega⟩, ← crS_B ⟨c9, by omega⟩])), O⟩
  · have F := F.setB (d := 9) rfl (decide_eq_false c9)
    refine sp F (p_not rfl) rfl rfl fun a F => sp F (p_move rfl) rfl rfl fun a F => ss F rfl rfl fun a F => ss F rfl rfl fun a F => sp F (p_pick (t := true) rfl rfl) rfl rfl fun a F => c_nil (hK3 _ _ (?_))
    try clear hK3 K3
    refine c_ift F rfl (c_seq fun K4 hK4 => c_region (sp F (p_build (cs := [.string (bs ([])), .int .i64 (0)]) rfl Try.places_27 rfl) rfl rfl fun a F => so F rfl (o_storeA (vs := [.string (bs ([])), .int .i64 (0)]) F O rfl rfl Try.sz_27 (by simp [Value.oneCell']) 0 rfl rfl fun w O => ?_)))
    have O : Own w0 [] [.cells b4 [.string (bs ([])), .int .i64 (0)] 27, .cells b2 [.string (bs (l)), .int .i64 (n)] 27] w := O
    refine c_nil (hK4 _ _ (?_))
    try clear hK4 K4
    refine wp_ret (r_then (retC F O rfl rfl 0 rfl Try.agg_27 Try.sz_27 (?_)))
    have O : Own w0 [] [] w := (O.take 0)
    exact ⟨congrArg Ending.returned (show Value.agg #[.string (bs ([])), .int .i64 (0)] = .agg #[.string (bs (crL l n k)), .int .i64 (crN l n k)] from by exact vdisk (crL_bad (by first | exact fun h => c9 h.1 | exact fun h => absurd h.2 (by omega))).symm (crN_bad (by first | exact fun h => c9 h.1 | exact fun h => absurd h.2 (by omega))).symm), O⟩

set_option maxRecDepth 100000 in
/-- impl.LogCrash -/
theorem iLogCrash_ok (l : List UInt8) (n : Int) (k : Int) (w0 : World) (hl : (l.length : Int) ≤ 9223372036854775807) :
    Calls Try.prog 43 #[.agg #[.string (bs (l)), .int .i64 (n)], .int .i64 (k)] w0 fun e w => e = .returned (.agg #[.string (bs (crL l n k)), .int .i64 (crN l n k)]) ∧ Own w0 [] [] w := by
  have O := Own.start w0
  refine enterO (n := 40) Try.func43 rfl rfl rfl O fun a w F O => ?_
  refine c_seq fun K1 hK1 => c_region (so F rfl (o_box F O rfl rfl fun b2 w O a F => ?_))
  have O : Own w0 [] [.cells b2 [.string (bs (l)), .int .i64 (n)] 27] w := O
  refine so F rfl (o_alloc F O Try.zero_27 rfl fun b4 w O a F => ?_)
  have O : Own w0 [] [.cells b4 [.string (bs ([])), .int .i64 (0)] 27, .cells b2 [.string (bs (l)), .int .i64 (n)] 27] w := O
  refine c_nil (hK1 _ _ (?_))
  try clear hK1 K1
  refine c_seq fun K2 hK2 => c_seq fun K3 hK3 => c_region (sp F (p_loadC (cs := [.string (bs (l)), .int .i64 (n)]) rfl Try.agg_27 Try.sz_27 (fun _ h => (CA.cons (ld1 (O.load 1 rfl rfl) h) (CA.cons (ld1 (O.load 1 rfl rfl) h) CA.nil)))) rfl rfl fun a F => so F rfl (o_call (vs := #[.agg #[.string (bs (l)), .int .i64 (n)]]) F Try.en_28 rfl rfl ((iDiskValid_ok l n w).mono ?_)))
  rintro e w ⟨rfl, K⟩
  refine ⟨_, rfl, fun a F => ?_⟩
  have O : Own w0 [] [.cells b4 [.string (bs ([])), .int .i64 (0)] 27, .cells b2 [.string (bs (l)), .int .i64 (n)] 27] w := O.call0 K
  clear K
  have O : Own w0 [] [.cells b4 [.string (bs ([])), .int .i64 (0)] 27, .cells b2 [.string (bs (l)), .int .i64 (n)] 27] w := O
  by_cases c9 : (l.length : Int) ≤ 120 ∧ 0 ≤ n ∧ n ≤ (l.length : Int)
  · have F := F.setB (d := 9) rfl (decide_eq_true c9)
    refine sp F (p_not rfl) rfl rfl fun a F => sp F (p_move rfl) rfl rfl fun a F => sp F (p_move rfl) rfl rfl fun a F => sp F (p_lss rfl rfl) rfl rfl fun a F => sp F (p_pick (t := false) rfl rfl) rfl rfl fun a F => c_nil (hK3 _ _ (?_))
    try clear hK3 K3
    by_cases c14 : k < 0
    · have F := F.setB (d := 13) rfl (decide_eq_true c14)
      have F := F.setB (d := 14) rfl (decide_eq_true c14)
      refine c_ift F rfl (c_seq fun K4 hK4 => c_region (sp F (p_build (cs := [.string (bs ([])), .int .i64 (0)]) rfl Try.places_27 rfl) rfl rfl fun a F => so F rfl (o_storeA (vs := [.string (bs ([])), .int .i64 (0)]) F O rfl rfl Try.sz_27 (by simp [Value.oneCell']) 0 rfl rfl fun w O => ?_)))
      have O : Own w0 [] [.cells b4 [.string (bs ([])), .int .i64 (0)] 27, .cells b2 [.string (bs (l)), .int .i64 (n)] 27] w := O
      refine c_nil (hK4 _ _ (?_))
      try clear hK4 K4
      refine wp_ret (r_then (retC F O rfl rfl 0 rfl Try.agg_27 Try.sz_27 (?_)))
      have O : Own w0 [] [] w := (O.take 0)
      exact ⟨congrArg Ending.returned (show Value.agg #[.string (bs ([])), .int .i64 (0)] = .agg #[.string (bs (crL l n k)), .int .i64 (crN l n k)] from by exact vdisk (crL_bad (by first | exact fun h => c9 h.1 | exact fun h => absurd h.2 (by omega))).symm (crN_bad (by first | exact fun h => c9 h.1 | exact fun h => absurd h.2 (by omega))).symm), O⟩
    · have F := F.setB (d := 13) rfl (decide_eq_false c14)
      have F := F.setB (d := 14) rfl (decide_eq_false c14)
      refine c_iff F rfl (wp_skip (hK2 _ _ (?_)))
      try clear hK2 K2
      refine c_seq fun K4 hK4 => c_region (sp F (p_faddr rfl Try.foff_27_0) rfl rfl fun a F => sp F (p_load rfl Try.agg_9 (fun _ h => (ld1 (O.load 1 rfl rfl) h))) rfl rfl fun a F => sp F (p_faddr rfl Try.foff_27_1) rfl rfl fun a F => sp F (p_load rfl Try.agg_3 (fun _ h => (ld1 (O.load 1 rfl rfl) h))) rfl rfl fun a F => sp F (p_move rfl) rfl rfl fun a F => sp F (p_faddr rfl Try.foff_27_0) rfl rfl fun a F => sp F (p_load rfl Try.agg_9 (fun _ h => (ld1 (O.load 1 rfl rfl) h))) rfl rfl fun a F => sp F (p_len_b rfl Try.underlying9) rfl rfl fun a F => sp F (p_faddr rfl Try.foff_27_1) rfl rfl fun a F => sp F (p_load rfl Try.agg_3 (fun _ h => (ld1 (O.load 1 rfl rfl) h))) rfl rfl fun a F => sp F (p_sub rfl rfl (by omega) (by omega)) rfl rfl fun a F => ?_)
      refine sp F (p_min rfl rfl) rfl rfl fun a F => sp F (p_add rfl rfl (by omega) (by omega)) rfl rfl fun a F => sp F (p_sto rfl rfl Try.underlying9 (by omega) (by omega)) rfl rfl fun a F => sp F (p_assign rfl) rfl rfl fun a F => c_nil (hK4 _ _ (?_))
      try clear hK4 K4
      refine c_seq fun K5 hK5 => ?_
      have hlt := List.length_take (l := l) (i := (n + min k ((l.length : Int) - n) : Int).toNat)
      refine c_region (sp F (p_move rfl) rfl rfl fun a F => so F rfl (o_call (vs := #[.string (bs (l.take (n + (min k ((l.length : Int) - n)) : Int).toNat))]) F Try.en_37 rfl rfl ((iLogScan_ok (l.take (n + (min k ((l.length : Int) - n)) : Int).toNat) w (by first | omega | (simp; done) | (simp; omega))).mono ?_)))
      rintro e w ⟨P32, N32, C32, rfl, h32a, h32b, h32c, K⟩
      refine ⟨_, rfl, fun a F => ?_⟩
      have O : Own w0 [] [.row 9 1 (.slice P32 N32 C32) N32 ((scan (l.take (n + (min k ((l.length : Int) - n)) : Int).toNat)).flatMap encStr), .cells b4 [.string (bs ([])), .int .i64 (0)] 27, .cells b2 [.string (bs (l)), .int .i64 (n)] 27] w := O.call0 K
      clear K
      have O : Own w0 [] [.row 9 1 (.slice P32 N32 C32) N32 ((scan (l.take (n + (min k ((l.length : Int) - n)) : Int).toNat)).flatMap encStr), .cells b4 [.string (bs ([])), .int .i64 (0)] 27, .cells b2 [.string (bs (l)), .int .i64 (n)] 27] w := O
      refine sp F (p_move rfl) rfl rfl fun a F => sp F (p_extract rfl rfl) rfl rfl fun a F => sp F (p_extract rfl rfl) rfl rfl fun a F => sp F (p_assign rfl) rfl rfl fun a F => sp F (p_assign rfl) rfl rfl fun a F => c_nil (hK5 _ _ (?_))
      try clear hK5 K5
      refine c_seq fun K6 hK6 => c_region (sp F (p_move rfl) rfl rfl fun a F => sp F (p_move rfl) rfl rfl fun a F => sp F (p_sto rfl rfl Try.underlying9 (by omega) (by omega)) rfl rfl fun a F => sp F (p_move rfl) rfl rfl fun a F => sp F (p_build (cs := [.string (bs ((l.take (n + (min k ((l.length : Int) - n)) : Int).toNat).take ((used (scan (l.take (n + (min k ((l.length : Int) - n)) : Int).toNat)) : Int) : Int).toNat)), .int .i64 ((used (scan (l.take (n + (min k ((l.length : Int) - n)) : Int).toNat)) : Int))]) rfl Try.places_27 rfl) rfl rfl fun a F => so F rfl (o_storeA (vs := [.string (bs ((l.take (n + (min k ((l.length : Int) - n)) : Int).toNat).take ((used (scan (l.take (n + (min k ((l.length : Int) - n)) : Int).toNat)) : Int) : Int).toNat)), .int .i64 ((used (scan (l.take (n + (min k ((l.length : Int) - n)) : Int).toNat)) : Int))]) F O rfl rfl Try.sz_27 (by simp [Value.oneCell']) 1 rfl rfl fun w O => ?_))
      have O : Own w0 [] [.row 9 1 (.slice P32 N32 C32) N32 ((scan (l.take (n + (min k ((l.length : Int) - n)) : Int).toNat)).flatMap encStr), .cells b4 [.string (bs ((l.take (n + (min k ((l.length : Int) - n)) : Int).toNat).take ((used (scan (l.take (n + (min k ((l.length : Int) - n)) : Int).toNat)) : Int) : Int).toNat)), .int .i64 ((used (scan (l.take (n + (min k ((l.length : Int) - n)) : Int).toNat)) : Int))] 27, .cells b2 [.string (bs (l)), .int .i64 (n)] 27] w := O
      refine c_nil (hK6 _ _ (?_))
      try clear hK6 K6
      refine wp_ret (retC F O rfl rfl 1 rfl Try.agg_27 Try.sz_27 (?_))
      have O : Own w0 [] [] w := (O.take 0)
      exact ⟨congrArg Ending.returned (show Value.agg #[.string (bs ((l.take (n + (min k ((l.length : Int) - n)) : Int).toNat).take ((used (scan (l.take (n + (min k ((l.length : Int) - n)) : Int).toNat)) : Int) : Int).toNat)), .int .i64 ((used (scan (l.take (n + (min k ((l.length : Int) - n)) : Int).toNat)) : Int))] = .agg #[.string (bs (crL l n k)), .int .i64 (crN l n k)] from by exact vdisk (crI ⟨c9, by omega⟩) (by rw [crN_ok ⟨c9, by omega⟩]; rfl)), O⟩
  · have F := F.setB (d := 9) rfl (decide_eq_false c9)
    refine sp F (p_not rfl) rfl rfl fun a F => sp F (p_move rfl) rfl rfl fun a F => ss F rfl rfl fun a F => ss F rfl rfl fun a F => sp F (p_pick (t := true) rfl rfl) rfl rfl fun a F => c_nil (hK3 _ _ (?_))
    try clear hK3 K3
    refine c_ift F rfl (c_seq fun K4 hK4 => c_region (sp F (p_build (cs := [.string (bs ([])), .int .i64 (0)]) rfl Try.places_27 rfl) rfl rfl fun a F => so F rfl (o_storeA (vs := [.string (bs ([])), .int .i64 (0)]) F O rfl rfl Try.sz_27 (by simp [Value.oneCell']) 0 rfl rfl fun w O => ?_)))
    have O : Own w0 [] [.cells b4 [.string (bs ([])), .int .i64 (0)] 27, .cells b2 [.string (bs (l)), .int .i64 (n)] 27] w := O
    refine c_nil (hK4 _ _ (?_))
    try clear hK4 K4
    refine wp_ret (r_then (retC F O rfl rfl 0 rfl Try.agg_27 Try.sz_27 (?_)))
    have O : Own w0 [] [] w := (O.take 0)
    exact ⟨congrArg Ending.returned (show Value.agg #[.string (bs ([])), .int .i64 (0)] = .agg #[.string (bs (crL l n k)), .int .i64 (crN l n k)] from by exact vdisk (crL_bad (by first | exact fun h => c9 h.1 | exact fun h => absurd h.2 (by omega))).symm (crN_bad (by first | exact fun h => c9 h.1 | exact fun h => absurd h.2 (by omega))).symm), O⟩

set_option maxRecDepth 100000 in
/-- laws.recordsOf -/
theorem recordsOf_ok (l : List UInt8) (n : Int) (w0 : World) (hl : (l.length : Int) ≤ 1048576) :
    Calls Try.prog 47 #[.agg #[.string (bs (l)), .int .i64 (n)]] w0 fun e w => ∃ (P : Option Addr), ∃ (N : Nat), ∃ (C : Nat), e = .returned (.slice P N C) ∧ ((N : Int) = (scan l).length) ∧ ((N : Int) ≤ l.length) ∧ Own w0 [] [.row 9 1 (.slice P N C) N ((scan l).flatMap encStr)] w := by
  have O := Own.start w0
  refine enterO (n := 12) Try.func47 rfl rfl rfl O fun a w F O => ?_
  refine c_seq fun K1 hK1 => c_region (so F rfl (o_box F O rfl rfl fun b1 w O a F => ?_))
  have O : Own w0 [] [.cells b1 [.string (bs (l)), .int .i64 (n)] 27] w := O
  refine sp F (p_assign rfl) rfl rfl fun a F => c_nil (hK1 _ _ (?_))
  try clear hK1 K1
  refine c_seq fun K2 hK2 => c_region (sp F (p_faddr rfl Try.foff_27_0) rfl rfl fun a F => sp F (p_load rfl Try.agg_9 (fun _ h => (ld1 (O.load 0 rfl rfl) h))) rfl rfl fun a F => so F rfl (o_call (vs := #[.string (bs (l))]) F Try.en_37 rfl rfl ((iLogScan_ok l w (by first | omega | (simp; done) | (simp; omega))).mono ?_)))
  rintro e w ⟨P8, N8, C8, rfl, h8a, h8b, h8c, K⟩
  refine ⟨_, rfl, fun a F => ?_⟩
  have O : Own w0 [] [.row 9 1 (.slice P8 N8 C8) N8 ((scan l).flatMap encStr), .cells b1 [.string (bs (l)), .int .i64 (n)] 27] w := O.call0 K
  clear K
  have O : Own w0 [] [.row 9 1 (.slice P8 N8 C8) N8 ((scan l).flatMap encStr), .cells b1 [.string (bs (l)), .int .i64 (n)] 27] w := O
  refine sp F (p_move rfl) rfl rfl fun a F => sp F (p_extract rfl rfl) rfl rfl fun a F => sp F (p_extract rfl rfl) rfl rfl fun a F => sp F (p_assign rfl) rfl rfl fun a F => sp F (p_assign rfl) rfl rfl fun a F => c_nil (hK2 _ _ (?_))
  try clear hK2 K2
  refine c_seq fun K3 hK3 => c_region (sp F (p_move rfl) rfl rfl fun a F => sp F (p_assign rfl) rfl rfl fun a F => c_nil (hK3 _ _ (?_)))
  try clear hK3 K3
  refine wp_ret (ret1 F rfl rfl (?_))
  have O : Own w0 [] [.row 9 1 (.slice P8 N8 C8) N8 ((scan l).flatMap encStr)] w := (O.take 1)
  exact ⟨P8, N8, C8, rfl, by first | assumption | omega, by first | assumption | omega, O⟩

end Go.Proofs.Ytklgkfknifkbaaa
