/- Only a full log refuses records: the law FnAppendFull returns true. No conditions. -/
import Derived.Test.YtklgkfknifkbaaaDraws
import Derived.Test.YtklgkfknifkbaaaOpenC
namespace Go.Proofs.Ytklgkfknifkbaaa
open Go.ChangeShapes Go.WideShapes Go.ChangeAt Go.RowKit
set_option linter.unusedVariables false
set_option linter.unusedSimpArgs false

set_option maxRecDepth 100000 in
/-- laws.FnAppendFull -/
theorem appendFull_ok (A : Option Addr) (cn : Nat) (cc : Nat) (w0 : World) (hC : CodeIn w0 A cn cc) :
    Calls Try.prog 15 #[.slice A cn cc] w0 fun e w => e = .returned (.bool true) ∧ Own w0 [] [] w := by
  have O := Own.start w0
  have hcc : (cn : Int) ≤ cc := by have := hC.1; omega
  have hcm : (cc : Int) ≤ 9223372036854775807 := by have := hC.2.1; unfold maxLen at this; omega
  refine enterO (n := 77) Try.func15 rfl rfl rfl O fun a w F O => ?_
  refine c_seq fun K1 hK1 => c_region (sp F (p_assign rfl) rfl rfl fun a F => c_nil (hK1 _ _ (?_)))
  try clear hK1 K1
  refine c_seq fun K2 hK2 => c_seq fun K3 hK3 => c_region (sp F (p_move rfl) rfl rfl fun a F => sp F (p_len_l rfl Try.underlying34) rfl rfl fun a F => sp F (p_gtr rfl rfl) rfl rfl fun a F => c_nil (hK3 _ _ (?_)))
  try clear hK3 K3
  by_cases c11 : 1048576 < (cn : Int)
  · have F := F.setB (d := 11) rfl (decide_eq_true c11)
    refine c_ift F rfl (c_seq fun K4 hK4 => c_region (sp F (p_assign rfl) rfl rfl fun a F => c_nil (hK4 _ _ (?_))))
    try clear hK4 K4
    refine wp_ret (r_then (ret1 F rfl rfl (?_)))
    exact ⟨rfl, O⟩
  · have F := F.setB (d := 11) rfl (decide_eq_false c11)
    refine c_iff F rfl (wp_skip (hK2 _ _ (?_)))
    try clear hK2 K2
    refine c_seq fun K4 hK4 => c_region (sp F (p_move rfl) rfl rfl fun a F => so F rfl (o_call (vs := #[.slice A cn cc]) F Try.en_45 rfl rfl ((dLogAppend_ok A cn cc w (hC.keep O)).mono ?_)))
    rintro e w ⟨l14, n14, r14, rfl, h14a, h14b, h14c, h14d, K⟩
    refine ⟨_, rfl, fun a F => ?_⟩
    have O : Own w0 [] [] w := O.call0 K
    clear K
    have O : Own w0 [] [] w := O
    refine sp F (p_move rfl) rfl rfl fun a F => sp F (p_extract rfl rfl) rfl rfl fun a F => sp F (p_extract rfl rfl) rfl rfl fun a F => so F rfl (o_alloc F O Try.zero_27 rfl fun b3 w O a F => ?_)
    have O : Own w0 [] [.cells b3 [.string (bs ([])), .int .i64 (0)] 27] w := O
    refine so F rfl (o_storeA (vs := [.string (bs (l14)), .int .i64 (n14)]) F O rfl rfl Try.sz_27 (by simp [Value.oneCell']) 0 rfl rfl fun w O => ?_)
    have O : Own w0 [] [.cells b3 [.string (bs (l14)), .int .i64 (n14)] 27] w := O
    refine sp F (p_assign rfl) rfl rfl fun a F => c_nil (hK4 _ _ (?_))
    try clear hK4 K4
    refine c_seq fun K5 hK5 => c_region (sp F (p_loadC (cs := [.string (bs (l14)), .int .i64 (n14)]) rfl Try.agg_27 Try.sz_27 (fun _ h => (CA.cons (ld1 (O.load 0 rfl rfl) h) (CA.cons (ld1 (O.load 0 rfl rfl) h) CA.nil)))) rfl rfl fun a F => sp F (p_move rfl) rfl rfl fun a F => so F rfl (o_call (vs := #[.agg #[.string (bs (l14)), .int .i64 (n14)], .string (bs (r14))]) F Try.en_36 rfl rfl ((iLogAppend_ok l14 n14 r14 w (by omega) (by omega)).mono ?_)))
    rintro e w ⟨rfl, K⟩
    refine ⟨_, rfl, fun a F => ?_⟩
    have O : Own w0 [] [.cells b3 [.string (bs (l14)), .int .i64 (n14)] 27] w := O.call0 K
    clear K
    have O : Own w0 [] [.cells b3 [.string (bs (l14)), .int .i64 (n14)] 27] w := O
    refine sp F (p_move rfl) rfl rfl fun a F => sp F (p_extract rfl rfl) rfl rfl fun a F => sp F (p_extract rfl rfl) rfl rfl fun a F => so F rfl (o_alloc F O Try.zero_27 rfl fun b5 w O a F => ?_)
    have O : Own w0 [] [.cells b5 [.string (bs ([])), .int .i64 (0)] 27, .cells b3 [.string (bs (l14)), .int .i64 (n14)] 27] w := O
    refine so F rfl (o_storeA (vs := [.string (bs (apB l14 n14 r14)), .int .i64 (apN l14 n14 r14)]) F O rfl rfl Try.sz_27 (by simp [Value.oneCell']) 0 rfl rfl fun w O => ?_)
    have O : Own w0 [] [.cells b5 [.string (bs (apB l14 n14 r14)), .int .i64 (apN l14 n14 r14)] 27, .cells b3 [.string (bs (l14)), .int .i64 (n14)] 27] w := O
    refine sp F (p_assign rfl) rfl rfl fun a F => c_nil (hK5 _ _ (?_))
    try clear hK5 K5
    refine c_seq fun K6 hK6 => c_region (sp F (p_loadC (cs := [.string (bs (l14)), .int .i64 (n14)]) rfl Try.agg_27 Try.sz_27 (fun _ h => (CA.cons (ld1 (O.load 1 rfl rfl) h) (CA.cons (ld1 (O.load 1 rfl rfl) h) CA.nil)))) rfl rfl fun a F => sp F (p_move rfl) rfl rfl fun a F => so F rfl (o_call (vs := #[.agg #[.string (bs (l14)), .int .i64 (n14)], .string (bs (r14))]) F Try.en_35 rfl rfl ((sLogAppend_ok l14 n14 r14 w (by omega) (by omega)).mono ?_)))
    rintro e w ⟨rfl, K⟩
    refine ⟨_, rfl, fun a F => ?_⟩
    have O : Own w0 [] [.cells b5 [.string (bs (apB l14 n14 r14)), .int .i64 (apN l14 n14 r14)] 27, .cells b3 [.string (bs (l14)), .int .i64 (n14)] 27] w := O.call0 K
    clear K
    have O : Own w0 [] [.cells b5 [.string (bs (apB l14 n14 r14)), .int .i64 (apN l14 n14 r14)] 27, .cells b3 [.string (bs (l14)), .int .i64 (n14)] 27] w := O
    refine sp F (p_move rfl) rfl rfl fun a F => sp F (p_extract rfl rfl) rfl rfl fun a F => sp F (p_extract rfl rfl) rfl rfl fun a F => so F rfl (o_alloc F O Try.zero_27 rfl fun b7 w O a F => ?_)
    have O : Own w0 [] [.cells b7 [.string (bs ([])), .int .i64 (0)] 27, .cells b5 [.string (bs (apB l14 n14 r14)), .int .i64 (apN l14 n14 r14)] 27, .cells b3 [.string (bs (l14)), .int .i64 (n14)] 27] w := O
    refine so F rfl (o_storeA (vs := [.string (bs (apB l14 n14 r14)), .int .i64 (apN l14 n14 r14)]) F O rfl rfl Try.sz_27 (by simp [Value.oneCell']) 0 rfl rfl fun w O => ?_)
    have O : Own w0 [] [.cells b7 [.string (bs (apB l14 n14 r14)), .int .i64 (apN l14 n14 r14)] 27, .cells b5 [.string (bs (apB l14 n14 r14)), .int .i64 (apN l14 n14 r14)] 27, .cells b3 [.string (bs (l14)), .int .i64 (n14)] 27] w := O
    refine sp F (p_assign rfl) rfl rfl fun a F => c_nil (hK6 _ _ (?_))
    try clear hK6 K6
    refine c_seq fun K7 hK7 => c_seq fun K8 hK8 => c_region (sp F (p_move rfl) rfl rfl fun a F => sp F (p_move rfl) rfl rfl fun a F => sp F (p_bneL rfl rfl Try.underlying4 false (by simp)) rfl rfl fun a F => sp F (p_move rfl) rfl rfl fun a F => sp F (p_loadC (cs := [.string (bs (apB l14 n14 r14)), .int .i64 (apN l14 n14 r14)]) rfl Try.agg_27 Try.sz_27 (fun _ h => (CA.cons (ld1 (O.load 1 rfl rfl) h) (CA.cons (ld1 (O.load 1 rfl rfl) h) CA.nil)))) rfl rfl fun a F => sp F (p_loadC (cs := [.string (bs (apB l14 n14 r14)), .int .i64 (apN l14 n14 r14)]) rfl Try.agg_27 Try.sz_27 (fun _ h => (CA.cons (ld1 (O.load 0 rfl rfl) h) (CA.cons (ld1 (O.load 0 rfl rfl) h) CA.nil)))) rfl rfl fun a F => sp F (p_nesiL rfl rfl Try.si_27 false (by simp)) rfl rfl fun a F => sp F (p_pick (t := false) rfl rfl) rfl rfl fun a F => sp F (p_move rfl) rfl rfl fun a F => sp F (p_loadC (cs := [.string (bs (l14)), .int .i64 (n14)]) rfl Try.agg_27 Try.sz_27 (fun _ h => (CA.cons (ld1 (O.load 2 rfl rfl) h) (CA.cons (ld1 (O.load 2 rfl rfl) h) CA.nil)))) rfl rfl fun a F => ?_)
    refine so F rfl (o_call (vs := #[.agg #[.string (bs (l14)), .int .i64 (n14)]]) F Try.en_26 rfl rfl ((sDiskValid_ok l14 n14 w).mono ?_))
    rintro e w ⟨rfl, K⟩
    refine ⟨_, rfl, fun a F => ?_⟩
    have O : Own w0 [] [.cells b7 [.string (bs (apB l14 n14 r14)), .int .i64 (apN l14 n14 r14)] 27, .cells b5 [.string (bs (apB l14 n14 r14)), .int .i64 (apN l14 n14 r14)] 27, .cells b3 [.string (bs (l14)), .int .i64 (n14)] 27] w := O.call0 K
    clear K
    have O : Own w0 [] [.cells b7 [.string (bs (apB l14 n14 r14)), .int .i64 (apN l14 n14 r14)] 27, .cells b5 [.string (bs (apB l14 n14 r14)), .int .i64 (apN l14 n14 r14)] 27, .cells b3 [.string (bs (l14)), .int .i64 (n14)] 27] w := O
    by_cases c39 : (l14.length : Int) ≤ 120 ∧ 0 ≤ n14 ∧ n14 ≤ (l14.length : Int)
    · have F := F.setB (d := 39) rfl (decide_eq_true c39)
      refine sp F (p_not rfl) rfl rfl fun a F => sp F (p_pick (t := false) rfl rfl) rfl rfl fun a F => sp F (p_move rfl) rfl rfl fun a F => sp F (p_move rfl) rfl rfl fun a F => sp F (p_seq rfl rfl) rfl rfl fun a F => sp F (p_pick (t := false) rfl rfl) rfl rfl fun a F => sp F (p_move rfl) rfl rfl fun a F => ?_
      by_cases c46 : r14 = ([])
      · have F := F.setB (d := 44) rfl (decide_eq_true c46)
        have F := F.setB (d := 45) rfl (decide_eq_true c46)
        have F := F.setB (d := 46) rfl (decide_eq_true c46)
        refine ss F rfl rfl fun a F => ss F rfl rfl fun a F => ss F rfl rfl fun a F => sp F (p_pick (t := true) rfl rfl) rfl rfl fun a F => c_nil (hK8 _ _ (?_))
        try clear hK8 K8
        refine c_ift F rfl (c_seq fun K9 hK9 => c_region (sp F (p_move rfl) rfl rfl fun a F => sp F (p_move rfl) rfl rfl fun a F => sp F (p_beqL rfl rfl Try.underlying4 true (by simp)) rfl rfl fun a F => sp F (p_move rfl) rfl rfl fun a F => sp F (p_loadC (cs := [.string (bs (apB l14 n14 r14)), .int .i64 (apN l14 n14 r14)]) rfl Try.agg_27 Try.sz_27 (fun _ h => (CA.cons (ld1 (O.load 1 rfl rfl) h) (CA.cons (ld1 (O.load 1 rfl rfl) h) CA.nil)))) rfl rfl fun a F => sp F (p_loadC (cs := [.string (bs (apB l14 n14 r14)), .int .i64 (apN l14 n14 r14)]) rfl Try.agg_27 Try.sz_27 (fun _ h => (CA.cons (ld1 (O.load 0 rfl rfl) h) (CA.cons (ld1 (O.load 0 rfl rfl) h) CA.nil)))) rfl rfl fun a F => sp F (p_eqsiL rfl rfl Try.si_27 true (by simp)) rfl rfl fun a F => sp F (p_pick (t := true) rfl rfl) rfl rfl fun a F => sp F (p_assign rfl) rfl rfl fun a F => c_nil (?_)))
        refine hK9 _ _ (?_)
        try clear hK9 K9
        refine wp_ret (r_then (ret1 F rfl rfl (?_)))
        have O : Own w0 [] [] w := (O.take 0)
        exact ⟨rfl, O⟩
      · have F := F.setB (d := 44) rfl (decide_eq_false c46)
        have F := F.setB (d := 45) rfl (decide_eq_false c46)
        have F := F.setB (d := 46) rfl (decide_eq_false c46)
        refine sp F (p_move rfl) rfl rfl fun a F => sp F (p_len_b rfl Try.underlying9) rfl rfl fun a F => sp F (p_gtr rfl rfl) rfl rfl fun a F => sp F (p_pick (t := false) rfl rfl) rfl rfl fun a F => c_nil (hK8 _ _ (?_))
        try clear hK8 K8
        by_cases c50 : 12 < (r14.length : Int)
        · have F := F.setB (d := 49) rfl (decide_eq_true c50)
          have F := F.setB (d := 50) rfl (decide_eq_true c50)
          refine c_ift F rfl (c_seq fun K9 hK9 => c_region (sp F (p_move rfl) rfl rfl fun a F => sp F (p_move rfl) rfl rfl fun a F => sp F (p_beqL rfl rfl Try.underlying4 true (by simp)) rfl rfl fun a F => sp F (p_move rfl) rfl rfl fun a F => sp F (p_loadC (cs := [.string (bs (apB l14 n14 r14)), .int .i64 (apN l14 n14 r14)]) rfl Try.agg_27 Try.sz_27 (fun _ h => (CA.cons (ld1 (O.load 1 rfl rfl) h) (CA.cons (ld1 (O.load 1 rfl rfl) h) CA.nil)))) rfl rfl fun a F => sp F (p_loadC (cs := [.string (bs (apB l14 n14 r14)), .int .i64 (apN l14 n14 r14)]) rfl Try.agg_27 Try.sz_27 (fun _ h => (CA.cons (ld1 (O.load 0 rfl rfl) h) (CA.cons (ld1 (O.load 0 rfl rfl) h) CA.nil)))) rfl rfl fun a F => sp F (p_eqsiL rfl rfl Try.si_27 true (by simp)) rfl rfl fun a F => sp F (p_pick (t := true) rfl rfl) rfl rfl fun a F => sp F (p_assign rfl) rfl rfl fun a F => c_nil (?_)))
          refine hK9 _ _ (?_)
          try clear hK9 K9
          refine wp_ret (r_then (ret1 F rfl rfl (?_)))
          have O : Own w0 [] [] w := (O.take 0)
          exact ⟨rfl, O⟩
        · have F := F.setB (d := 49) rfl (decide_eq_false c50)
          have F := F.setB (d := 50) rfl (decide_eq_false c50)
          refine c_iff F rfl (wp_skip (hK7 _ _ (?_)))
          try clear hK7 K7
          refine c_seq fun K9 hK9 => ?_
          have hr0 : 0 < r14.length := List.length_pos_iff.2 (by assumption)
          refine c_region (sp F (p_move rfl) rfl rfl fun a F => ?_)
          by_cases c59 : ((l14.length : Int) ≤ 120 ∧ 0 ≤ n14 ∧ n14 ≤ (l14.length : Int)) ∧ (1 ≤ (r14.length : Int) ∧ (r14.length : Int) ≤ 12) ∧ (l14.length : Int) + r14.length + 2 ≤ 120
          · have F := F.setB (d := 22) rfl (decide_eq_true c59)
            have F := F.setB (d := 6) rfl (decide_eq_true c59)
            have F := F.setB (d := 28) rfl (decide_eq_true c59)
            have F := F.setB (d := 8) rfl (decide_eq_true c59)
            have F := F.setB (d := 29) rfl (decide_eq_true c59)
            have F := F.setB (d := 30) rfl (decide_eq_true c59)
            have F := F.setB (d := 59) rfl (decide_eq_true c59)
            refine sp F (p_faddr rfl Try.foff_27_0) rfl rfl fun a F => sp F (p_load rfl Try.agg_9 (fun _ h => (ld1 (O.load 2 rfl rfl) h))) rfl rfl fun a F => sp F (p_len_b rfl Try.underlying9) rfl rfl fun a F => sp F (p_move rfl) rfl rfl fun a F => sp F (p_len_b rfl Try.underlying9) rfl rfl fun a F => sp F (p_add rfl rfl (by omega) (by omega)) rfl rfl fun a F => sp F (p_add rfl rfl (by omega) (by omega)) rfl rfl fun a F => sp F (p_leq rfl rfl) rfl rfl fun a F => ?_
            have c67 : (((l14.length : Int) + (r14.length : Int)) + 2) ≤ 120 := by omega
            have F := F.setB (d := 67) rfl (decide_eq_true c67)
            refine sp F (p_beqL rfl rfl Try.underlying4 true (by rfl)) rfl rfl fun a F => sp F (p_move rfl) rfl rfl fun a F => sp F (p_move rfl) rfl rfl fun a F => sp F (p_move rfl) rfl rfl fun a F => ss F rfl rfl fun a F => ss F rfl rfl fun a F => ss F rfl rfl fun a F => sp F (p_pick (t := true) rfl rfl) rfl rfl fun a F => sp F (p_pick (t := true) rfl rfl) rfl rfl fun a F => sp F (p_assign rfl) rfl rfl fun a F => c_nil (hK9 _ _ (?_))
            try clear hK9 K9
            refine wp_ret (ret1 F rfl rfl (?_))
            have O : Own w0 [] [] w := (O.take 0)
            exact ⟨rfl, O⟩
          · have F := F.setB (d := 22) rfl (decide_eq_false c59)
            have F := F.setB (d := 6) rfl (decide_eq_false c59)
            have F := F.setB (d := 28) rfl (decide_eq_false c59)
            have F := F.setB (d := 8) rfl (decide_eq_false c59)
            have F := F.setB (d := 29) rfl (decide_eq_false c59)
            have F := F.setB (d := 30) rfl (decide_eq_false c59)
            have F := F.setB (d := 59) rfl (decide_eq_false c59)
            refine sp F (p_faddr rfl Try.foff_27_0) rfl rfl fun a F => sp F (p_load rfl Try.agg_9 (fun _ h => (ld1 (O.load 2 rfl rfl) h))) rfl rfl fun a F => sp F (p_len_b rfl Try.underlying9) rfl rfl fun a F => sp F (p_move rfl) rfl rfl fun a F => sp F (p_len_b rfl Try.underlying9) rfl rfl fun a F => sp F (p_add rfl rfl (by omega) (by omega)) rfl rfl fun a F => sp F (p_add rfl rfl (by omega) (by omega)) rfl rfl fun a F => sp F (p_leq rfl rfl) rfl rfl fun a F => ?_
            have c67 : ¬ ((((l14.length : Int) + (r14.length : Int)) + 2) ≤ 120) := by omega
            have F := F.setB (d := 67) rfl (decide_eq_false c67)
            refine sp F (p_beqL rfl rfl Try.underlying4 true (by rfl)) rfl rfl fun a F => sp F (p_move rfl) rfl rfl fun a F => sp F (p_move rfl) rfl rfl fun a F => sp F (p_move rfl) rfl rfl fun a F => sp F (p_loadC (cs := [.string (bs (apB l14 n14 r14)), .int .i64 (apN l14 n14 r14)]) rfl Try.agg_27 Try.sz_27 (fun _ h => (CA.cons (ld1 (O.load 1 rfl rfl) h) (CA.cons (ld1 (O.load 1 rfl rfl) h) CA.nil)))) rfl rfl fun a F => sp F (p_loadC (cs := [.string (bs (l14)), .int .i64 (n14)]) rfl Try.agg_27 Try.sz_27 (fun _ h => (CA.cons (ld1 (O.load 2 rfl rfl) h) (CA.cons (ld1 (O.load 2 rfl rfl) h) CA.nil)))) rfl rfl fun a F => sp F (p_eqsi rfl rfl Try.si_27) rfl rfl fun a F => ?_
            have c74 : (apB l14 n14 r14) = l14 ∧ (apN l14 n14 r14) = n14 := by exact ⟨apB_full (by omega), apN_ok (by omega)⟩
            have F := F.setB (d := 74) rfl (decide_eq_true c74)
            refine sp F (p_pick (t := false) rfl rfl) rfl rfl fun a F => sp F (p_pick (t := true) rfl rfl) rfl rfl fun a F => sp F (p_assign rfl) rfl rfl fun a F => c_nil (hK9 _ _ (?_))
            try clear hK9 K9
            refine wp_ret (ret1 F rfl rfl (?_))
            have O : Own w0 [] [] w := (O.take 0)
            exact ⟨rfl, O⟩
    · have F := F.setB (d := 39) rfl (decide_eq_false c39)
      refine sp F (p_not rfl) rfl rfl fun a F => sp F (p_pick (t := false) rfl rfl) rfl rfl fun a F => sp F (p_move rfl) rfl rfl fun a F => ss F rfl rfl fun a F => ss F rfl rfl fun a F => sp F (p_pick (t := true) rfl rfl) rfl rfl fun a F => sp F (p_move rfl) rfl rfl fun a F => ss F rfl rfl fun a F => ss F rfl rfl fun a F => ss F rfl rfl fun a F => sp F (p_pick (t := true) rfl rfl) rfl rfl fun a F => c_nil (hK8 _ _ (?_))
      try clear hK8 K8
      refine c_ift F rfl (c_seq fun K9 hK9 => c_region (sp F (p_move rfl) rfl rfl fun a F => sp F (p_move rfl) rfl rfl fun a F => sp F (p_beqL rfl rfl Try.underlying4 true (by simp)) rfl rfl fun a F => sp F (p_move rfl) rfl rfl fun a F => sp F (p_loadC (cs := [.string (bs (apB l14 n14 r14)), .int .i64 (apN l14 n14 r14)]) rfl Try.agg_27 Try.sz_27 (fun _ h => (CA.cons (ld1 (O.load 1 rfl rfl) h) (CA.cons (ld1 (O.load 1 rfl rfl) h) CA.nil)))) rfl rfl fun a F => sp F (p_loadC (cs := [.string (bs (apB l14 n14 r14)), .int .i64 (apN l14 n14 r14)]) rfl Try.agg_27 Try.sz_27 (fun _ h => (CA.cons (ld1 (O.load 0 rfl rfl) h) (CA.cons (ld1 (O.load 0 rfl rfl) h) CA.nil)))) rfl rfl fun a F => sp F (p_eqsiL rfl rfl Try.si_27 true (by simp)) rfl rfl fun a F => sp F (p_pick (t := true) rfl rfl) rfl rfl fun a F => sp F (p_assign rfl) rfl rfl fun a F => c_nil (?_)))
      refine hK9 _ _ (?_)
      try clear hK9 K9
      refine wp_ret (r_then (ret1 F rfl rfl (?_)))
      have O : Own w0 [] [] w := (O.take 0)
      exact ⟨rfl, O⟩

set_option maxRecDepth 100000 in
theorem appendFull_lifted (os : Os) (started : os.Started) (H : Type) (enc : TypeId × Value → H) :
    ReturnsInHanded {} Try.checked os 15 .any (Rows.fnAppendFullSpec.pre6 enc Try.prog Try.f15 Rows.fnAppendFullRow.domain false) (Rows.fnAppendFullSpec.post enc Try.prog Try.f15 false true false false) := by
  have e0 : Rows.fnAppendFullRow.domain = [] := rfl
  rw [e0]
  refine lifted_of (C := Try.checked) Try.facts started (by kernel_rfl) Try.func15 rfl ?_ (tb := 4) (by kernel_rfl) Try.underlying4 (by kernel_rfl)
    (ChangeSpec.witness6 (enc := enc) (C := Try.checked) false ⟨#[], #[.slice none 0 0], []⟩ 8 (by kernel_rfl) (by kernel_rfl) (by kernel_rfl) (by kernel_rfl)) ?_
  · intro ds hds
    match ds, hds with
    | [_], _ => rfl
  intro W base args ds p hval0 hA0
  have hval : ∀ (j : Nat) t v, Try.f15.params[j]? = some t → args[j]? = some v → Value.okWide Try.prog W .any base t v := hval0
  have hA : DataW.TrodAll enc Try.prog W 0 (fun _ => true) true Try.f15.params.toList args.toList ds p := hA0
  clear hA0 hval0
  show Calls Try.prog 15 args W _
  rw [Try.params15] at hA hval
  obtain ⟨v0, d0, hargs, rfl, h0⟩ := trodAll_one hA
  obtain rfl : args = #[v0] := by cases args; simp_all
  obtain ⟨a, n, c, rfl, hC⟩ := open_codeIn (hval 0 34 v0 rfl rfl) h0
  exact (appendFull_ok a n c W hC).mono fun e w' h => ⟨h.1, h.2.below⟩

theorem appendFull_pkg : ¬ Check.packageOf Try.f15.name = "main" := by
  intro h
  have h2 := congrArg String.toList h
  simp only [Check.packageOf, Try.f15] at h2
  simp at h2

theorem appendFull_closed : lawFacts Try.prog 15 Try.f15 Rows.fnAppendFullSpec Rows.fnAppendFullRow = true := by kernel_rfl
theorem appendFull_facts : joinedFacts Try.pinned.checked.prog 15 Try.f15 Rows.fnAppendFullSpec Rows.fnAppendFullRow = true := facts_of (P := Try.prog) Try.facts appendFull_closed

theorem appendFull_wrap : Func.isWrapper Try.pinned.checked.prog Try.f15 Rows.fnAppendFullRow.wrapper Rows.fnAppendFullRow.mainSum := by
  have e1 : Rows.fnAppendFullRow.wrapper = false := rfl
  have e2 : Rows.fnAppendFullRow.mainSum = "" := rfl
  rw [e1, e2]
  exact wrapper_of Try.pinned.checked.prog Try.f15 appendFull_pkg

/-- The statement. -/
theorem appendFull_over : Rows.fnAppendFullRow.holds Try.pinned (OpenSpec.ofChange Rows.fnAppendFullSpec) :=
  OpenClaim.holds_of_wide 15 Try.f15 rfl rfl rfl rfl rfl rfl rfl ⟨rfl, rfl, rfl, rfl, rfl⟩ rfl rfl rfl rfl rfl (by kernel_rfl) Try.func15 appendFull_facts
    (of_decide_eq_true (by kernel_rfl)) appendFull_wrap
    (fun os started H enc _ => appendFull_lifted os started H enc)
theorem appendFull_holds : Rows.FnAppendFullSaid := appendFull_over
#print axioms appendFull_holds

end Go.Proofs.Ytklgkfknifkbaaa
