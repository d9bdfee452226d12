/- Synchronized records survive: the law FnSync returns true. No conditions. -/
import Derived.Test.YtklgkfknifkbaaaLCrash
import Derived.Test.YtklgkfknifkbaaaLogM
import Derived.Test.YtklgkfknifkbaaaOpenC
namespace Go.Proofs.Ytklgkfknifkbaaa
open Go.ChangeShapes Go.WideShapes Go.ChangeAt Go.RowKit
set_option linter.unusedVariables false
set_option linter.unusedSimpArgs false

set_option maxRecDepth 100000 in
/-- laws.FnSync -/
theorem sync_ok (A : Option Addr) (cn : Nat) (cc : Nat) (A2 : Option Addr) (cn2 : Nat) (cc2 : Nat) (w0 : World) (hC : CodeIn w0 A cn cc) (hC2 : CodeIn w0 A2 cn2 cc2) :
    Calls Try.prog 16 #[.slice A cn cc, .slice A2 cn2 cc2] w0 fun e w => e = .returned (.bool true) ∧ Own w0 [] [] w := by
  have O := Own.start w0
  have hcc : (cn : Int) ≤ cc := by have := hC.1; omega
  have hcm : (cc : Int) ≤ 9223372036854775807 := by have := hC.2.1; unfold maxLen at this; omega
  have hcc2 : (cn2 : Int) ≤ cc2 := by have := hC2.1; omega
  have hcm2 : (cc2 : Int) ≤ 9223372036854775807 := by have := hC2.2.1; unfold maxLen at this; omega
  refine enterO (n := 59) Try.func16 rfl rfl rfl O fun a w F O => ?_
  refine c_seq fun K1 hK1 => c_region (sp F (p_assign rfl) rfl rfl fun a F => c_nil (hK1 _ _ (?_)))
  try clear hK1 K1
  refine c_seq fun K2 hK2 => c_seq fun K3 hK3 => c_region (sp F (p_move rfl) rfl rfl fun a F => sp F (p_len_l rfl Try.underlying34) rfl rfl fun a F => sp F (p_gtr rfl rfl) rfl rfl fun a F => sp F (p_move rfl) rfl rfl fun a F => ?_)
  by_cases c12 : 1048576 < (cn : Int)
  · have F := F.setB (d := 11) rfl (decide_eq_true c12)
    have F := F.setB (d := 12) rfl (decide_eq_true c12)
    refine ss F rfl rfl fun a F => ss F rfl rfl fun a F => ss F rfl rfl fun a F => sp F (p_pick (t := true) rfl rfl) rfl rfl fun a F => c_nil (hK3 _ _ (?_))
    try clear hK3 K3
    refine c_ift F rfl (c_seq fun K4 hK4 => c_region (sp F (p_assign rfl) rfl rfl fun a F => c_nil (hK4 _ _ (?_))))
    try clear hK4 K4
    refine wp_ret (r_then (ret1 F rfl rfl (?_)))
    exact ⟨rfl, O⟩
  · have F := F.setB (d := 11) rfl (decide_eq_false c12)
    have F := F.setB (d := 12) rfl (decide_eq_false c12)
    refine sp F (p_move rfl) rfl rfl fun a F => sp F (p_len_l rfl Try.underlying34) rfl rfl fun a F => sp F (p_gtr rfl rfl) rfl rfl fun a F => sp F (p_pick (t := false) rfl rfl) rfl rfl fun a F => c_nil (hK3 _ _ (?_))
    try clear hK3 K3
    by_cases c16 : 1048576 < (cn2 : Int)
    · have F := F.setB (d := 15) rfl (decide_eq_true c16)
      have F := F.setB (d := 16) rfl (decide_eq_true c16)
      refine c_ift F rfl (c_seq fun K4 hK4 => c_region (sp F (p_assign rfl) rfl rfl fun a F => c_nil (hK4 _ _ (?_))))
      try clear hK4 K4
      refine wp_ret (r_then (ret1 F rfl rfl (?_)))
      exact ⟨rfl, O⟩
    · have F := F.setB (d := 15) rfl (decide_eq_false c16)
      have F := F.setB (d := 16) rfl (decide_eq_false c16)
      refine c_iff F rfl (wp_skip (hK2 _ _ (?_)))
      try clear hK2 K2
      refine c_seq fun K4 hK4 => c_region (sp F (p_move rfl) rfl rfl fun a F => so F rfl (o_call (vs := #[.slice A cn cc]) F Try.en_46 rfl rfl ((dLogSync_ok A cn cc w (hC.keep O)).mono ?_)))
      rintro e w ⟨l18, n18, rfl, h18a, h18b, h18c, K⟩
      refine ⟨_, rfl, fun a F => ?_⟩
      have O : Own w0 [] [] w := O.call0 K
      clear K
      have O : Own w0 [] [] w := O
      refine so F rfl (o_alloc F O Try.zero_27 rfl fun b5 w O a F => ?_)
      have O : Own w0 [] [.cells b5 [.string (bs ([])), .int .i64 (0)] 27] w := O
      refine so F rfl (o_storeA (vs := [.string (bs (l18)), .int .i64 (n18)]) F O rfl rfl Try.sz_27 (by simp [Value.oneCell']) 0 rfl rfl fun w O => ?_)
      have O : Own w0 [] [.cells b5 [.string (bs (l18)), .int .i64 (n18)] 27] w := O
      refine c_nil (hK4 _ _ (?_))
      try clear hK4 K4
      refine c_seq fun K5 hK5 => c_region (sp F (p_loadC (cs := [.string (bs (l18)), .int .i64 (n18)]) rfl Try.agg_27 Try.sz_27 (fun _ h => (CA.cons (ld1 (O.load 0 rfl rfl) h) (CA.cons (ld1 (O.load 0 rfl rfl) h) CA.nil)))) rfl rfl fun a F => so F rfl (o_call (vs := #[.agg #[.string (bs (l18)), .int .i64 (n18)]]) F Try.en_32 rfl rfl ((iLogSync_ok l18 n18 w).mono ?_)))
      rintro e w ⟨rfl, K⟩
      refine ⟨_, rfl, fun a F => ?_⟩
      have O : Own w0 [] [.cells b5 [.string (bs (l18)), .int .i64 (n18)] 27] w := O.call0 K
      clear K
      have O : Own w0 [] [.cells b5 [.string (bs (l18)), .int .i64 (n18)] 27] w := O
      refine so F rfl (o_alloc F O Try.zero_27 rfl fun b6 w O a F => ?_)
      have O : Own w0 [] [.cells b6 [.string (bs ([])), .int .i64 (0)] 27, .cells b5 [.string (bs (l18)), .int .i64 (n18)] 27] w := O
      refine so F rfl (o_storeA (vs := [.string (bs (syB l18 n18)), .int .i64 (syN l18 n18)]) F O rfl rfl Try.sz_27 (by simp [Value.oneCell']) 0 rfl rfl fun w O => ?_)
      have O : Own w0 [] [.cells b6 [.string (bs (syB l18 n18)), .int .i64 (syN l18 n18)] 27, .cells b5 [.string (bs (l18)), .int .i64 (n18)] 27] w := O
      refine c_nil (hK5 _ _ (?_))
      try clear hK5 K5
      refine c_seq fun K6 hK6 => c_region (sp F (p_loadC (cs := [.string (bs (l18)), .int .i64 (n18)]) rfl Try.agg_27 Try.sz_27 (fun _ h => (CA.cons (ld1 (O.load 1 rfl rfl) h) (CA.cons (ld1 (O.load 1 rfl rfl) h) CA.nil)))) rfl rfl fun a F => so F rfl (o_call (vs := #[.agg #[.string (bs (l18)), .int .i64 (n18)]]) F Try.en_31 rfl rfl ((sLogSync_ok l18 n18 w).mono ?_)))
      rintro e w ⟨rfl, K⟩
      refine ⟨_, rfl, fun a F => ?_⟩
      have O : Own w0 [] [.cells b6 [.string (bs (syB l18 n18)), .int .i64 (syN l18 n18)] 27, .cells b5 [.string (bs (l18)), .int .i64 (n18)] 27] w := O.call0 K
      clear K
      have O : Own w0 [] [.cells b6 [.string (bs (syB l18 n18)), .int .i64 (syN l18 n18)] 27, .cells b5 [.string (bs (l18)), .int .i64 (n18)] 27] w := O
      refine so F rfl (o_alloc F O Try.zero_27 rfl fun b7 w O a F => ?_)
      have O : Own w0 [] [.cells b7 [.string (bs ([])), .int .i64 (0)] 27, .cells b6 [.string (bs (syB l18 n18)), .int .i64 (syN l18 n18)] 27, .cells b5 [.string (bs (l18)), .int .i64 (n18)] 27] w := O
      refine so F rfl (o_storeA (vs := [.string (bs (syB l18 n18)), .int .i64 (syN l18 n18)]) F O rfl rfl Try.sz_27 (by simp [Value.oneCell']) 0 rfl rfl fun w O => ?_)
      have O : Own w0 [] [.cells b7 [.string (bs (syB l18 n18)), .int .i64 (syN l18 n18)] 27, .cells b6 [.string (bs (syB l18 n18)), .int .i64 (syN l18 n18)] 27, .cells b5 [.string (bs (l18)), .int .i64 (n18)] 27] w := O
      refine c_nil (hK6 _ _ (?_))
      try clear hK6 K6
      refine c_seq fun K7 hK7 => c_seq fun K8 hK8 => c_region (sp F (p_loadC (cs := [.string (bs (syB l18 n18)), .int .i64 (syN l18 n18)]) rfl Try.agg_27 Try.sz_27 (fun _ h => (CA.cons (ld1 (O.load 1 rfl rfl) h) (CA.cons (ld1 (O.load 1 rfl rfl) h) CA.nil)))) rfl rfl fun a F => sp F (p_loadC (cs := [.string (bs (syB l18 n18)), .int .i64 (syN l18 n18)]) rfl Try.agg_27 Try.sz_27 (fun _ h => (CA.cons (ld1 (O.load 0 rfl rfl) h) (CA.cons (ld1 (O.load 0 rfl rfl) h) CA.nil)))) rfl rfl fun a F => sp F (p_nesiL rfl rfl Try.si_27 false (by simp)) rfl rfl fun a F => sp F (p_move rfl) rfl rfl fun a F => sp F (p_loadC (cs := [.string (bs (l18)), .int .i64 (n18)]) rfl Try.agg_27 Try.sz_27 (fun _ h => (CA.cons (ld1 (O.load 2 rfl rfl) h) (CA.cons (ld1 (O.load 2 rfl rfl) h) CA.nil)))) rfl rfl fun a F => so F rfl (o_call (vs := #[.agg #[.string (bs (l18)), .int .i64 (n18)]]) F Try.en_26 rfl rfl ((sDiskValid_ok l18 n18 w).mono ?_)))
      rintro e w ⟨rfl, K⟩
      refine ⟨_, rfl, fun a F => ?_⟩
      have O : Own w0 [] [.cells b7 [.string (bs (syB l18 n18)), .int .i64 (syN l18 n18)] 27, .cells b6 [.string (bs (syB l18 n18)), .int .i64 (syN l18 n18)] 27, .cells b5 [.string (bs (l18)), .int .i64 (n18)] 27] w := O.call0 K
      clear K
      have O : Own w0 [] [.cells b7 [.string (bs (syB l18 n18)), .int .i64 (syN l18 n18)] 27, .cells b6 [.string (bs (syB l18 n18)), .int .i64 (syN l18 n18)] 27, .cells b5 [.string (bs (l18)), .int .i64 (n18)] 27] w := O
      by_cases c28 : (l18.length : Int) ≤ 120 ∧ 0 ≤ n18 ∧ n18 ≤ (l18.length : Int)
      · have F := F.setB (d := 28) rfl (decide_eq_true c28)
        refine sp F (p_not rfl) rfl rfl fun a F => sp F (p_pick (t := false) rfl rfl) rfl rfl fun a F => c_nil (hK8 _ _ (?_))
        try clear hK8 K8
        refine c_iff F rfl (wp_skip (hK7 _ _ (?_)))
        try clear hK7 K7
        refine c_seq fun K9 hK9 => ?_
        have hsB := syB_ok c28
        have hsN := syN_ok c28
        have hsl : ((syB l18 n18).length : Int) ≤ 120 := by rw [hsB]; omega
        refine c_region (sp F (p_loadC (cs := [.string (bs (syB l18 n18)), .int .i64 (syN l18 n18)]) rfl Try.agg_27 Try.sz_27 (fun _ h => (CA.cons (ld1 (O.load 1 rfl rfl) h) (CA.cons (ld1 (O.load 1 rfl rfl) h) CA.nil)))) rfl rfl fun a F => sp F (p_move rfl) rfl rfl fun a F => sp F (p_len_l rfl Try.underlying34) rfl rfl fun a F => sp F (p_rem rfl rfl (by omega) (by omega) (by omega)) rfl rfl fun a F => so F rfl (o_call (vs := #[.agg #[.string (bs (syB l18 n18)), .int .i64 (syN l18 n18)], .int .i64 ((cn2 : Int) % 9)]) F Try.en_43 rfl rfl ((iLogCrash_ok (syB l18 n18) (syN l18 n18) ((cn2 : Int) % 9) w (by omega)).mono ?_)))
        rintro e w ⟨rfl, K⟩
        refine ⟨_, rfl, fun a F => ?_⟩
        have O : Own w0 [] [.cells b7 [.string (bs (syB l18 n18)), .int .i64 (syN l18 n18)] 27, .cells b6 [.string (bs (syB l18 n18)), .int .i64 (syN l18 n18)] 27, .cells b5 [.string (bs (l18)), .int .i64 (n18)] 27] w := O.call0 K
        clear K
        have hcl := crL_le (l := syB l18 n18) (n := syN l18 n18) (k := ((cn2 : Int) % 9))
        have O : Own w0 [] [.cells b7 [.string (bs (syB l18 n18)), .int .i64 (syN l18 n18)] 27, .cells b6 [.string (bs (syB l18 n18)), .int .i64 (syN l18 n18)] 27, .cells b5 [.string (bs (l18)), .int .i64 (n18)] 27] w := O
        refine so F rfl (o_alloc F O Try.zero_27 rfl fun b8 w O a F => ?_)
        have O : Own w0 [] [.cells b8 [.string (bs ([])), .int .i64 (0)] 27, .cells b7 [.string (bs (syB l18 n18)), .int .i64 (syN l18 n18)] 27, .cells b6 [.string (bs (syB l18 n18)), .int .i64 (syN l18 n18)] 27, .cells b5 [.string (bs (l18)), .int .i64 (n18)] 27] w := O
        refine so F rfl (o_storeA (vs := [.string (bs (crL (syB l18 n18) (syN l18 n18) ((cn2 : Int) % 9))), .int .i64 (crN (syB l18 n18) (syN l18 n18) ((cn2 : Int) % 9))]) F O rfl rfl Try.sz_27 (by simp [Value.oneCell']) 0 rfl rfl fun w O => ?_)
        have O : Own w0 [] [.cells b8 [.string (bs (crL (syB l18 n18) (syN l18 n18) ((cn2 : Int) % 9))), .int .i64 (crN (syB l18 n18) (syN l18 n18) ((cn2 : Int) % 9))] 27, .cells b7 [.string (bs (syB l18 n18)), .int .i64 (syN l18 n18)] 27, .cells b6 [.string (bs (syB l18 n18)), .int .i64 (syN l18 n18)] 27, .cells b5 [.string (bs (l18)), .int .i64 (n18)] 27] w := O
        refine c_nil (hK9 _ _ (?_))
        try clear hK9 K9
        refine c_seq fun K10 hK10 => ?_
        refine c_draw Try.mixed (SC [(b6, 0, .string (bs (syB l18 n18))), (b5, 0, .string (bs (l18))), (b6, 0 + 1, .int .i64 (syN l18 n18)), (b8, 0, .string (bs (crL (syB l18 n18) (syN l18 n18) ((cn2 : Int) % 9)))), (b8, 0 + 1, .int .i64 (crN (syB l18 n18) (syN l18 n18) ((cn2 : Int) % 9))), (b5, 0 + 1, .int .i64 (n18))]) [] _ (fun a w h => h) ?_
        have O := O.drawn (w.drawn + 1)
        generalize { w with drawn := w.drawn + 1 } = w at O ⊢
        have hS : SC [(b6, 0, .string (bs (syB l18 n18))), (b5, 0, .string (bs (l18))), (b6, 0 + 1, .int .i64 (syN l18 n18)), (b8, 0, .string (bs (crL (syB l18 n18) (syN l18 n18) ((cn2 : Int) % 9)))), (b8, 0 + 1, .int .i64 (crN (syB l18 n18) (syN l18 n18) ((cn2 : Int) % 9))), (b5, 0 + 1, .int .i64 (n18))] w := (SC.cons (O.load 2 rfl rfl) (SC.cons (O.load 3 rfl rfl) (SC.cons (O.load 2 rfl rfl) (SC.cons (O.load 0 rfl rfl) (SC.cons (O.load 0 rfl rfl) (SC.cons (O.load 3 rfl rfl) SC.nil))))))
        refine d_take 0 rfl (by kernel_rfl) F (p_faddr rfl Try.foff_27_0) rfl rfl hS fun a F => d_take 1 rfl (by kernel_rfl) F (p_load rfl Try.agg_9 (fun _ h => (SC.get h 0 rfl))) rfl rfl hS fun a F => d_take 2 rfl (by kernel_rfl) F (p_faddr rfl Try.foff_27_0) rfl rfl hS fun a F => d_take 3 rfl (by kernel_rfl) F (p_load rfl Try.agg_9 (fun _ h => (SC.get h 1 rfl))) rfl rfl hS fun a F => d_take 4 rfl (by kernel_rfl) F (p_seq rfl rfl) rfl rfl hS fun a F => ?_
        have c43 : (syB l18 n18) = l18 := by exact hsB
        have F := F.setB (d := 43) rfl (decide_eq_true c43)
        refine d_take 5 rfl (by kernel_rfl) F (p_move rfl) rfl rfl hS fun a F => d_take 6 rfl (by kernel_rfl) F (p_faddr rfl Try.foff_27_1) rfl rfl hS fun a F => d_take 7 rfl (by kernel_rfl) F (p_load rfl Try.agg_3 (fun _ h => (SC.get h 2 rfl))) rfl rfl hS fun a F => d_take 8 rfl (by kernel_rfl) F (p_faddr rfl Try.foff_27_0) rfl rfl hS fun a F => d_take 9 rfl (by kernel_rfl) F (p_load rfl Try.agg_9 (fun _ h => (SC.get h 1 rfl))) rfl rfl hS fun a F => d_take 10 rfl (by kernel_rfl) F (p_len_b rfl Try.underlying9) rfl rfl hS fun a F => d_take 11 rfl (by kernel_rfl) F (p_eql rfl rfl) rfl rfl hS fun a F => ?_
        have c50 : (syN l18 n18) = (l18.length : Int) := by exact hsN
        have F := F.setB (d := 50) rfl (decide_eq_true c50)
        refine d_take 12 rfl (by kernel_rfl) F (p_pick (t := true) rfl rfl) rfl rfl hS fun a F => d_take 13 rfl (by kernel_rfl) F (p_move rfl) rfl rfl hS fun a F => d_take 14 rfl (by kernel_rfl) F (p_loadC (cs := [.string (bs (crL (syB l18 n18) (syN l18 n18) ((cn2 : Int) % 9))), .int .i64 (crN (syB l18 n18) (syN l18 n18) ((cn2 : Int) % 9))]) rfl Try.agg_27 Try.sz_27 (fun _ h => (CA.cons (SC.get h 3 rfl) (CA.cons (SC.get h 4 rfl) CA.nil)))) rfl rfl hS fun a F => d_take 16 rfl (by kernel_rfl) F (p_loadC (cs := [.string (bs (l18)), .int .i64 (n18)]) rfl Try.agg_27 Try.sz_27 (fun _ h => (CA.cons (SC.get h 1 rfl) (CA.cons (SC.get h 5 rfl) CA.nil)))) rfl rfl hS fun a F => d_one 15 (by kernel_rfl) (d_op rfl F rfl (o_call (vs := #[.agg #[.string (bs (crL (syB l18 n18) (syN l18 n18) ((cn2 : Int) % 9))), .int .i64 (crN (syB l18 n18) (syN l18 n18) ((cn2 : Int) % 9))]]) F Try.en_47 rfl rfl ((recordsOf_ok (crL (syB l18 n18) (syN l18 n18) ((cn2 : Int) % 9)) (crN (syB l18 n18) (syN l18 n18) ((cn2 : Int) % 9)) w (by first | omega | (simp; done) | (simp; omega))).mono ?_)))
        rintro e w ⟨P54, N54, C54, rfl, h54a, h54b, K⟩
        refine ⟨_, rfl, fun a F => ?_⟩
        have O : Own w0 [] [.row 9 1 (.slice P54 N54 C54) N54 ((scan (crL (syB l18 n18) (syN l18 n18) ((cn2 : Int) % 9))).flatMap encStr), .cells b8 [.string (bs (crL (syB l18 n18) (syN l18 n18) ((cn2 : Int) % 9))), .int .i64 (crN (syB l18 n18) (syN l18 n18) ((cn2 : Int) % 9))] 27, .cells b7 [.string (bs (syB l18 n18)), .int .i64 (syN l18 n18)] 27, .cells b6 [.string (bs (syB l18 n18)), .int .i64 (syN l18 n18)] 27, .cells b5 [.string (bs (l18)), .int .i64 (n18)] 27] w := O.call0 K
        clear K
        have O : Own w0 [] [.row 9 1 (.slice P54 N54 C54) N54 ((scan (crL (syB l18 n18) (syN l18 n18) ((cn2 : Int) % 9))).flatMap encStr), .cells b8 [.string (bs (crL (syB l18 n18) (syN l18 n18) ((cn2 : Int) % 9))), .int .i64 (crN (syB l18 n18) (syN l18 n18) ((cn2 : Int) % 9))] 27, .cells b7 [.string (bs (syB l18 n18)), .int .i64 (syN l18 n18)] 27, .cells b6 [.string (bs (syB l18 n18)), .int .i64 (syN l18 n18)] 27, .cells b5 [.string (bs (l18)), .int .i64 (n18)] 27] w := O
        refine ⟨fun _ => (SC.cons (O.load 3 rfl rfl) (SC.cons (O.load 4 rfl rfl) (SC.cons (O.load 3 rfl rfl) (SC.cons (O.load 1 rfl rfl) (SC.cons (O.load 1 rfl rfl) (SC.cons (O.load 4 rfl rfl) SC.nil)))))), ?_⟩
        have hS : SC [(b6, 0, .string (bs (syB l18 n18))), (b5, 0, .string (bs (l18))), (b6, 0 + 1, .int .i64 (syN l18 n18)), (b8, 0, .string (bs (crL (syB l18 n18) (syN l18 n18) ((cn2 : Int) % 9)))), (b8, 0 + 1, .int .i64 (crN (syB l18 n18) (syN l18 n18) ((cn2 : Int) % 9))), (b5, 0 + 1, .int .i64 (n18))] w := (SC.cons (O.load 3 rfl rfl) (SC.cons (O.load 4 rfl rfl) (SC.cons (O.load 3 rfl rfl) (SC.cons (O.load 1 rfl rfl) (SC.cons (O.load 1 rfl rfl) (SC.cons (O.load 4 rfl rfl) SC.nil))))))
        refine d_one 17 (by kernel_rfl) (d_op rfl F rfl (o_call (vs := #[.agg #[.string (bs (l18)), .int .i64 (n18)]]) F Try.en_47 rfl rfl ((recordsOf_ok l18 n18 w (by first | omega | (simp; done) | (simp; omega))).mono ?_)))
        rintro e w ⟨P56, N56, C56, rfl, h56a, h56b, K⟩
        refine ⟨_, rfl, fun a F => ?_⟩
        have O : Own w0 [] [.row 9 1 (.slice P56 N56 C56) N56 ((scan l18).flatMap encStr), .row 9 1 (.slice P54 N54 C54) N54 ((scan (crL (syB l18 n18) (syN l18 n18) ((cn2 : Int) % 9))).flatMap encStr), .cells b8 [.string (bs (crL (syB l18 n18) (syN l18 n18) ((cn2 : Int) % 9))), .int .i64 (crN (syB l18 n18) (syN l18 n18) ((cn2 : Int) % 9))] 27, .cells b7 [.string (bs (syB l18 n18)), .int .i64 (syN l18 n18)] 27, .cells b6 [.string (bs (syB l18 n18)), .int .i64 (syN l18 n18)] 27, .cells b5 [.string (bs (l18)), .int .i64 (n18)] 27] w := O.call0 K
        clear K
        have O : Own w0 [] [.row 9 1 (.slice P56 N56 C56) N56 ((scan l18).flatMap encStr), .row 9 1 (.slice P54 N54 C54) N54 ((scan (crL (syB l18 n18) (syN l18 n18) ((cn2 : Int) % 9))).flatMap encStr), .cells b8 [.string (bs (crL (syB l18 n18) (syN l18 n18) ((cn2 : Int) % 9))), .int .i64 (crN (syB l18 n18) (syN l18 n18) ((cn2 : Int) % 9))] 27, .cells b7 [.string (bs (syB l18 n18)), .int .i64 (syN l18 n18)] 27, .cells b6 [.string (bs (syB l18 n18)), .int .i64 (syN l18 n18)] 27, .cells b5 [.string (bs (l18)), .int .i64 (n18)] 27] w := O
        refine ⟨fun _ => (SC.cons (O.load 4 rfl rfl) (SC.cons (O.load 5 rfl rfl) (SC.cons (O.load 4 rfl rfl) (SC.cons (O.load 2 rfl rfl) (SC.cons (O.load 2 rfl rfl) (SC.cons (O.load 5 rfl rfl) SC.nil)))))), ?_⟩
        have hS : SC [(b6, 0, .string (bs (syB l18 n18))), (b5, 0, .string (bs (l18))), (b6, 0 + 1, .int .i64 (syN l18 n18)), (b8, 0, .string (bs (crL (syB l18 n18) (syN l18 n18) ((cn2 : Int) % 9)))), (b8, 0 + 1, .int .i64 (crN (syB l18 n18) (syN l18 n18) ((cn2 : Int) % 9))), (b5, 0 + 1, .int .i64 (n18))] w := (SC.cons (O.load 4 rfl rfl) (SC.cons (O.load 5 rfl rfl) (SC.cons (O.load 4 rfl rfl) (SC.cons (O.load 2 rfl rfl) (SC.cons (O.load 2 rfl rfl) (SC.cons (O.load 5 rfl rfl) SC.nil))))))
        refine d_one 18 (by kernel_rfl) (d_op rfl F rfl (o_call (vs := #[.slice P54 N54 C54, .slice P56 N56 C56]) F Try.en_44 rfl rfl ((sameTexts_ok P54 N54 C54 (scan (crL (syB l18 n18) (syN l18 n18) ((cn2 : Int) % 9))) P56 N56 C56 (scan l18) w (O.arr 1 (es := scan (crL (syB l18 n18) (syN l18 n18) ((cn2 : Int) % 9))) rfl encStr_len (by decide)) (by first | omega | (simp; done) | (simp; omega) | (simp at *; omega)) (by omega) (O.arr 0 (es := scan l18) rfl encStr_len (by decide)) (by first | omega | (simp; done) | (simp; omega) | (simp at *; omega)) (by omega)).mono ?_)))
        rintro e w ⟨rfl, K⟩
        refine ⟨_, rfl, fun a F => ?_⟩
        have O : Own w0 [] [.row 9 1 (.slice P56 N56 C56) N56 ((scan l18).flatMap encStr), .row 9 1 (.slice P54 N54 C54) N54 ((scan (crL (syB l18 n18) (syN l18 n18) ((cn2 : Int) % 9))).flatMap encStr), .cells b8 [.string (bs (crL (syB l18 n18) (syN l18 n18) ((cn2 : Int) % 9))), .int .i64 (crN (syB l18 n18) (syN l18 n18) ((cn2 : Int) % 9))] 27, .cells b7 [.string (bs (syB l18 n18)), .int .i64 (syN l18 n18)] 27, .cells b6 [.string (bs (syB l18 n18)), .int .i64 (syN l18 n18)] 27, .cells b5 [.string (bs (l18)), .int .i64 (n18)] 27] w := O.call0 K
        clear K
        have c57 : (scan (crL (syB l18 n18) (syN l18 n18) ((cn2 : Int) % 9))) = (scan l18) := by rw [hsB, hsN]; exact cr_full (by omega) (by omega)
        have F := F.setB (d := 57) rfl (decide_eq_true c57)
        have O : Own w0 [] [.row 9 1 (.slice P56 N56 C56) N56 ((scan l18).flatMap encStr), .row 9 1 (.slice P54 N54 C54) N54 ((scan (crL (syB l18 n18) (syN l18 n18) ((cn2 : Int) % 9))).flatMap encStr), .cells b8 [.string (bs (crL (syB l18 n18) (syN l18 n18) ((cn2 : Int) % 9))), .int .i64 (crN (syB l18 n18) (syN l18 n18) ((cn2 : Int) % 9))] 27, .cells b7 [.string (bs (syB l18 n18)), .int .i64 (syN l18 n18)] 27, .cells b6 [.string (bs (syB l18 n18)), .int .i64 (syN l18 n18)] 27, .cells b5 [.string (bs (l18)), .int .i64 (n18)] 27] w := O
        refine ⟨fun _ => (SC.cons (O.load 4 rfl rfl) (SC.cons (O.load 5 rfl rfl) (SC.cons (O.load 4 rfl rfl) (SC.cons (O.load 2 rfl rfl) (SC.cons (O.load 2 rfl rfl) (SC.cons (O.load 5 rfl rfl) SC.nil)))))), ?_⟩
        have hS : SC [(b6, 0, .string (bs (syB l18 n18))), (b5, 0, .string (bs (l18))), (b6, 0 + 1, .int .i64 (syN l18 n18)), (b8, 0, .string (bs (crL (syB l18 n18) (syN l18 n18) ((cn2 : Int) % 9)))), (b8, 0 + 1, .int .i64 (crN (syB l18 n18) (syN l18 n18) ((cn2 : Int) % 9))), (b5, 0 + 1, .int .i64 (n18))] w := (SC.cons (O.load 4 rfl rfl) (SC.cons (O.load 5 rfl rfl) (SC.cons (O.load 4 rfl rfl) (SC.cons (O.load 2 rfl rfl) (SC.cons (O.load 2 rfl rfl) (SC.cons (O.load 5 rfl rfl) SC.nil))))))
        refine d_take 19 rfl (by kernel_rfl) F (p_pick (t := true) rfl rfl) rfl rfl hS fun a F => d_take 20 rfl (by kernel_rfl) F (p_assign rfl) rfl rfl hS fun a F => d_done (by kernel_rfl) (hK10 _ _ (?_))
        try clear hK10 K10
        refine wp_ret (ret1 F rfl rfl (?_))
        have O : Own w0 [] [] w := (O.take 0)
        exact ⟨rfl, O⟩
      · have F := F.setB (d := 28) rfl (decide_eq_false c28)
        refine sp F (p_not rfl) rfl rfl fun a F => sp F (p_pick (t := false) rfl rfl) rfl rfl fun a F => c_nil (hK8 _ _ (?_))
        try clear hK8 K8
        refine c_ift F rfl (c_seq fun K9 hK9 => c_region (sp F (p_loadC (cs := [.string (bs (syB l18 n18)), .int .i64 (syN l18 n18)]) rfl Try.agg_27 Try.sz_27 (fun _ h => (CA.cons (ld1 (O.load 1 rfl rfl) h) (CA.cons (ld1 (O.load 1 rfl rfl) h) CA.nil)))) rfl rfl fun a F => sp F (p_loadC (cs := [.string (bs (syB l18 n18)), .int .i64 (syN l18 n18)]) rfl Try.agg_27 Try.sz_27 (fun _ h => (CA.cons (ld1 (O.load 0 rfl rfl) h) (CA.cons (ld1 (O.load 0 rfl rfl) h) CA.nil)))) rfl rfl fun a F => sp F (p_eqsiL rfl rfl Try.si_27 true (by simp)) rfl rfl fun a F => sp F (p_assign rfl) rfl rfl fun a F => c_nil (hK9 _ _ (?_))))
        try clear hK9 K9
        refine wp_ret (r_then (ret1 F rfl rfl (?_)))
        have O : Own w0 [] [] w := (O.take 0)
        exact ⟨rfl, O⟩

set_option maxRecDepth 100000 in
theorem sync_lifted (os : Os) (started : os.Started) (H : Type) (enc : TypeId × Value → H) :
    ReturnsInHanded {} Try.checked os 16 .any (Rows.fnSyncSpec.pre6 enc Try.prog Try.f16 Rows.fnSyncRow.domain false) (Rows.fnSyncSpec.post enc Try.prog Try.f16 false true false false) := by
  have e0 : Rows.fnSyncRow.domain = [] := rfl
  rw [e0]
  refine lifted_of (C := Try.checked) Try.facts started (by kernel_rfl) Try.func16 rfl ?_ (tb := 4) (by kernel_rfl) Try.underlying4 (by kernel_rfl)
    (ChangeSpec.witness6 (enc := enc) (C := Try.checked) false ⟨#[], #[.slice none 0 0, .slice none 0 0], []⟩ 8 (by kernel_rfl) (by kernel_rfl) (by kernel_rfl) (by kernel_rfl)) ?_
  · intro ds hds
    match ds, hds with
    | [_, _], _ => rfl
  intro W base args ds p hval0 hA0
  have hval : ∀ (j : Nat) t v, Try.f16.params[j]? = some t → args[j]? = some v → Value.okWide Try.prog W .any base t v := hval0
  have hA : DataW.TrodAll enc Try.prog W 0 (fun _ => true) true Try.f16.params.toList args.toList ds p := hA0
  clear hA0 hval0
  show Calls Try.prog 16 args W _
  rw [Try.params16] at hA hval
  obtain ⟨v0, v1, d0, d1, p0, p1, hargs, rfl, rfl, h0, h1⟩ := trodAll_two hA
  obtain rfl : args = #[v0, v1] := by cases args; simp_all
  obtain ⟨a, n, c, rfl, hC⟩ := open_codeIn (hval 0 34 v0 rfl rfl) h0
  obtain ⟨a2, n2, c2, rfl, hC2⟩ := open_codeIn (hval 1 34 v1 rfl rfl) h1
  exact (sync_ok a n c a2 n2 c2 W hC hC2).mono fun e w' h => ⟨h.1, h.2.below⟩

theorem sync_pkg : ¬ Check.packageOf Try.f16.name = "main" := by
  intro h
  have h2 := congrArg String.toList h
  simp only [Check.packageOf, Try.f16] at h2
  simp at h2

theorem sync_closed : lawFacts Try.prog 16 Try.f16 Rows.fnSyncSpec Rows.fnSyncRow = true := by kernel_rfl
theorem sync_facts : joinedFacts Try.pinned.checked.prog 16 Try.f16 Rows.fnSyncSpec Rows.fnSyncRow = true := facts_of (P := Try.prog) Try.facts sync_closed

theorem sync_wrap : Func.isWrapper Try.pinned.checked.prog Try.f16 Rows.fnSyncRow.wrapper Rows.fnSyncRow.mainSum := by
  have e1 : Rows.fnSyncRow.wrapper = false := rfl
  have e2 : Rows.fnSyncRow.mainSum = "" := rfl
  rw [e1, e2]
  exact wrapper_of Try.pinned.checked.prog Try.f16 sync_pkg

/-- The statement. -/
theorem sync_over : Rows.fnSyncRow.holds Try.pinned (OpenSpec.ofChange Rows.fnSyncSpec) :=
  OpenClaim.holds_of_wide 16 Try.f16 rfl rfl rfl rfl rfl rfl rfl ⟨rfl, rfl, rfl, rfl, rfl⟩ rfl rfl rfl rfl rfl (by kernel_rfl) Try.func16 sync_facts
    (of_decide_eq_true (by kernel_rfl)) sync_wrap
    (fun os started H enc _ => sync_lifted os started H enc)
theorem sync_holds : Rows.FnSyncSaid := sync_over
#print axioms sync_holds

end Go.Proofs.Ytklgkfknifkbaaa
