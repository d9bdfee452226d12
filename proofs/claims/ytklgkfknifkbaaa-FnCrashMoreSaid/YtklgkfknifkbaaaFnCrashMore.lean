/- More bytes keep no fewer records: the law FnCrashMore returns true. No conditions. -/
import Derived.Test.YtklgkfknifkbaaaLCrash
import Derived.Test.YtklgkfknifkbaaaLogM
import Derived.Test.YtklgkfknifkbaaaOpenC
namespace Go.Proofs.Ytklgkfknifkbaaa
open Go.ChangeShapes Go.WideShapes Go.ChangeAt Go.RowKit
set_option linter.unusedVariables false
set_option linter.unusedSimpArgs false

set_option maxRecDepth 100000 in
/-- laws.FnCrashMore -/
theorem crashMore_ok (A : Option Addr) (cn : Nat) (cc : Nat) (w0 : World) (hC : CodeIn w0 A cn cc) :
    Calls Try.prog 20 #[.slice A cn cc] w0 fun e w => e = .returned (.bool true) ∧ Own w0 [] [] w := by
  have O := Own.start w0
  have hcc : (cn : Int) ≤ cc := by have := hC.1; omega
  have hcm : (cc : Int) ≤ 9223372036854775807 := by have := hC.2.1; unfold maxLen at this; omega
  refine enterO (n := 46) Try.func20 rfl rfl rfl O fun a w F O => ?_
  refine c_seq fun K1 hK1 => c_region (sp F (p_assign rfl) rfl rfl fun a F => c_nil (hK1 _ _ (?_)))
  try clear hK1 K1
  refine c_seq fun K2 hK2 => c_seq fun K3 hK3 => c_region (sp F (p_move rfl) rfl rfl fun a F => sp F (p_len_l rfl Try.underlying34) rfl rfl fun a F => sp F (p_gtr rfl rfl) rfl rfl fun a F => c_nil (hK3 _ _ (?_)))
  try clear hK3 K3
  by_cases c9 : 1048576 < (cn : Int)
  · have F := F.setB (d := 9) rfl (decide_eq_true c9)
    refine c_ift F rfl (c_seq fun K4 hK4 => c_region (sp F (p_assign rfl) rfl rfl fun a F => c_nil (hK4 _ _ (?_))))
    try clear hK4 K4
    refine wp_ret (r_then (ret1 F rfl rfl (?_)))
    exact ⟨rfl, O⟩
  · have F := F.setB (d := 9) rfl (decide_eq_false c9)
    refine c_iff F rfl (wp_skip (hK2 _ _ (?_)))
    try clear hK2 K2
    refine c_seq fun K4 hK4 => c_region (sp F (p_move rfl) rfl rfl fun a F => so F rfl (o_call (vs := #[.slice A cn cc]) F Try.en_48 rfl rfl ((dLogCrash_ok A cn cc w (hC.keep O)).mono ?_)))
    rintro e w ⟨l12, n12, k12, rfl, h12a, h12b, h12c, h12d, h12e, K⟩
    refine ⟨_, rfl, fun a F => ?_⟩
    have O : Own w0 [] [] w := O.call0 K
    clear K
    have O : Own w0 [] [] w := O
    refine sp F (p_move rfl) rfl rfl fun a F => sp F (p_extract rfl rfl) rfl rfl fun a F => sp F (p_extract rfl rfl) rfl rfl fun a F => so F rfl (o_alloc F O Try.zero_27 rfl fun b3 w O a F => ?_)
    have O : Own w0 [] [.cells b3 [.string (bs ([])), .int .i64 (0)] 27] w := O
    refine so F rfl (o_storeA (vs := [.string (bs (l12)), .int .i64 (n12)]) F O rfl rfl Try.sz_27 (by simp [Value.oneCell']) 0 rfl rfl fun w O => ?_)
    have O : Own w0 [] [.cells b3 [.string (bs (l12)), .int .i64 (n12)] 27] w := O
    refine sp F (p_assign rfl) rfl rfl fun a F => c_nil (hK4 _ _ (?_))
    try clear hK4 K4
    refine c_seq fun K5 hK5 => c_region (sp F (p_loadC (cs := [.string (bs (l12)), .int .i64 (n12)]) rfl Try.agg_27 Try.sz_27 (fun _ h => (CA.cons (ld1 (O.load 0 rfl rfl) h) (CA.cons (ld1 (O.load 0 rfl rfl) h) CA.nil)))) rfl rfl fun a F => sp F (p_move rfl) rfl rfl fun a F => so F rfl (o_call (vs := #[.agg #[.string (bs (l12)), .int .i64 (n12)], .int .i64 (k12)]) F Try.en_43 rfl rfl ((iLogCrash_ok l12 n12 k12 w (by omega)).mono ?_)))
    rintro e w ⟨rfl, K⟩
    refine ⟨_, rfl, fun a F => ?_⟩
    have O : Own w0 [] [.cells b3 [.string (bs (l12)), .int .i64 (n12)] 27] w := O.call0 K
    clear K
    have O : Own w0 [] [.cells b3 [.string (bs (l12)), .int .i64 (n12)] 27] w := O
    refine so F rfl (o_alloc F O Try.zero_27 rfl fun b5 w O a F => ?_)
    have O : Own w0 [] [.cells b5 [.string (bs ([])), .int .i64 (0)] 27, .cells b3 [.string (bs (l12)), .int .i64 (n12)] 27] w := O
    refine so F rfl (o_storeA (vs := [.string (bs (crL l12 n12 k12)), .int .i64 (crN l12 n12 k12)]) F O rfl rfl Try.sz_27 (by simp [Value.oneCell']) 0 rfl rfl fun w O => ?_)
    have O : Own w0 [] [.cells b5 [.string (bs (crL l12 n12 k12)), .int .i64 (crN l12 n12 k12)] 27, .cells b3 [.string (bs (l12)), .int .i64 (n12)] 27] w := O
    refine c_nil (hK5 _ _ (?_))
    try clear hK5 K5
    refine c_seq fun K6 hK6 => c_region (sp F (p_loadC (cs := [.string (bs (l12)), .int .i64 (n12)]) rfl Try.agg_27 Try.sz_27 (fun _ h => (CA.cons (ld1 (O.load 1 rfl rfl) h) (CA.cons (ld1 (O.load 1 rfl rfl) h) CA.nil)))) rfl rfl fun a F => sp F (p_move rfl) rfl rfl fun a F => so F rfl (o_call (vs := #[.agg #[.string (bs (l12)), .int .i64 (n12)], .int .i64 (k12)]) F Try.en_42 rfl rfl ((sLogCrash_ok l12 n12 k12 w (by omega)).mono ?_)))
    rintro e w ⟨rfl, K⟩
    refine ⟨_, rfl, fun a F => ?_⟩
    have O : Own w0 [] [.cells b5 [.string (bs (crL l12 n12 k12)), .int .i64 (crN l12 n12 k12)] 27, .cells b3 [.string (bs (l12)), .int .i64 (n12)] 27] w := O.call0 K
    clear K
    have O : Own w0 [] [.cells b5 [.string (bs (crL l12 n12 k12)), .int .i64 (crN l12 n12 k12)] 27, .cells b3 [.string (bs (l12)), .int .i64 (n12)] 27] w := O
    refine so F rfl (o_alloc F O Try.zero_27 rfl fun b6 w O a F => ?_)
    have O : Own w0 [] [.cells b6 [.string (bs ([])), .int .i64 (0)] 27, .cells b5 [.string (bs (crL l12 n12 k12)), .int .i64 (crN l12 n12 k12)] 27, .cells b3 [.string (bs (l12)), .int .i64 (n12)] 27] w := O
    refine so F rfl (o_storeA (vs := [.string (bs (crL l12 n12 k12)), .int .i64 (crN l12 n12 k12)]) F O rfl rfl Try.sz_27 (by simp [Value.oneCell']) 0 rfl rfl fun w O => ?_)
    have O : Own w0 [] [.cells b6 [.string (bs (crL l12 n12 k12)), .int .i64 (crN l12 n12 k12)] 27, .cells b5 [.string (bs (crL l12 n12 k12)), .int .i64 (crN l12 n12 k12)] 27, .cells b3 [.string (bs (l12)), .int .i64 (n12)] 27] w := O
    refine c_nil (hK6 _ _ (?_))
    try clear hK6 K6
    refine c_seq fun K7 hK7 => c_seq fun K8 hK8 => c_region (sp F (p_loadC (cs := [.string (bs (crL l12 n12 k12)), .int .i64 (crN l12 n12 k12)]) rfl Try.agg_27 Try.sz_27 (fun _ h => (CA.cons (ld1 (O.load 1 rfl rfl) h) (CA.cons (ld1 (O.load 1 rfl rfl) h) CA.nil)))) rfl rfl fun a F => sp F (p_loadC (cs := [.string (bs (crL l12 n12 k12)), .int .i64 (crN l12 n12 k12)]) rfl Try.agg_27 Try.sz_27 (fun _ h => (CA.cons (ld1 (O.load 0 rfl rfl) h) (CA.cons (ld1 (O.load 0 rfl rfl) h) CA.nil)))) rfl rfl fun a F => sp F (p_nesiL rfl rfl Try.si_27 false (by simp)) rfl rfl fun a F => sp F (p_move rfl) rfl rfl fun a F => sp F (p_loadC (cs := [.string (bs (l12)), .int .i64 (n12)]) rfl Try.agg_27 Try.sz_27 (fun _ h => (CA.cons (ld1 (O.load 2 rfl rfl) h) (CA.cons (ld1 (O.load 2 rfl rfl) h) CA.nil)))) rfl rfl fun a F => so F rfl (o_call (vs := #[.agg #[.string (bs (l12)), .int .i64 (n12)]]) F Try.en_26 rfl rfl ((sDiskValid_ok l12 n12 w).mono ?_)))
    rintro e w ⟨rfl, K⟩
    refine ⟨_, rfl, fun a F => ?_⟩
    have O : Own w0 [] [.cells b6 [.string (bs (crL l12 n12 k12)), .int .i64 (crN l12 n12 k12)] 27, .cells b5 [.string (bs (crL l12 n12 k12)), .int .i64 (crN l12 n12 k12)] 27, .cells b3 [.string (bs (l12)), .int .i64 (n12)] 27] w := O.call0 K
    clear K
    have O : Own w0 [] [.cells b6 [.string (bs (crL l12 n12 k12)), .int .i64 (crN l12 n12 k12)] 27, .cells b5 [.string (bs (crL l12 n12 k12)), .int .i64 (crN l12 n12 k12)] 27, .cells b3 [.string (bs (l12)), .int .i64 (n12)] 27] w := O
    by_cases c26 : (l12.length : Int) ≤ 120 ∧ 0 ≤ n12 ∧ n12 ≤ (l12.length : Int)
    · have F := F.setB (d := 26) rfl (decide_eq_true c26)
      refine sp F (p_not rfl) rfl rfl fun a F => sp F (p_pick (t := false) rfl rfl) rfl rfl fun a F => sp F (p_move rfl) rfl rfl fun a F => sp F (p_move rfl) rfl rfl fun a F => sp F (p_lss rfl rfl) rfl rfl fun a F => sp F (p_pick (t := false) rfl rfl) rfl rfl fun a F => c_nil (hK8 _ _ (?_))
      try clear hK8 K8
      by_cases c32 : k12 < 0
      · have F := F.setB (d := 31) rfl (decide_eq_true c32)
        have F := F.setB (d := 32) rfl (decide_eq_true c32)
        refine c_ift F rfl (c_seq fun K9 hK9 => c_region (sp F (p_loadC (cs := [.string (bs (crL l12 n12 k12)), .int .i64 (crN l12 n12 k12)]) rfl Try.agg_27 Try.sz_27 (fun _ h => (CA.cons (ld1 (O.load 1 rfl rfl) h) (CA.cons (ld1 (O.load 1 rfl rfl) h) CA.nil)))) rfl rfl fun a F => sp F (p_loadC (cs := [.string (bs (crL l12 n12 k12)), .int .i64 (crN l12 n12 k12)]) rfl Try.agg_27 Try.sz_27 (fun _ h => (CA.cons (ld1 (O.load 0 rfl rfl) h) (CA.cons (ld1 (O.load 0 rfl rfl) h) CA.nil)))) rfl rfl fun a F => sp F (p_eqsiL rfl rfl Try.si_27 true (by simp)) rfl rfl fun a F => sp F (p_assign rfl) rfl rfl fun a F => c_nil (hK9 _ _ (?_))))
        try clear hK9 K9
        refine wp_ret (r_then (ret1 F rfl rfl (?_)))
        have O : Own w0 [] [] w := (O.take 0)
        exact ⟨rfl, O⟩
      · have F := F.setB (d := 31) rfl (decide_eq_false c32)
        have F := F.setB (d := 32) rfl (decide_eq_false c32)
        refine c_iff F rfl (wp_skip (hK7 _ _ (?_)))
        try clear hK7 K7
        refine c_seq fun K9 hK9 => ?_
        have hV : CVal l12 n12 k12 := ⟨c26, by omega⟩
        have hcl := crL_le (l := l12) (n := n12) (k := k12)
        have hbd := crN_bd hV
        have hcl2 := crL_le (l := l12) (n := n12) (k := k12 + 1)
        have hpm := (pre_more hV (q := 1) (by omega)).length_le
        refine c_draw Try.mixed (SC [(b3, 0, .string (bs (l12))), (b3, 0 + 1, .int .i64 (n12)), (b5, 0, .string (bs (crL l12 n12 k12))), (b5, 0 + 1, .int .i64 (crN l12 n12 k12))]) [] _ (fun a w h => h) ?_
        have O := O.drawn (w.drawn + 1)
        generalize { w with drawn := w.drawn + 1 } = w at O ⊢
        have hS : SC [(b3, 0, .string (bs (l12))), (b3, 0 + 1, .int .i64 (n12)), (b5, 0, .string (bs (crL l12 n12 k12))), (b5, 0 + 1, .int .i64 (crN l12 n12 k12))] w := (SC.cons (O.load 2 rfl rfl) (SC.cons (O.load 2 rfl rfl) (SC.cons (O.load 1 rfl rfl) (SC.cons (O.load 1 rfl rfl) SC.nil))))
        refine d_take 0 rfl (by kernel_rfl) F (p_loadC (cs := [.string (bs (l12)), .int .i64 (n12)]) rfl Try.agg_27 Try.sz_27 (fun _ h => (CA.cons (SC.get h 0 rfl) (CA.cons (SC.get h 1 rfl) CA.nil)))) rfl rfl hS fun a F => d_take 1 rfl (by kernel_rfl) F (p_move rfl) rfl rfl hS fun a F => d_take 2 rfl (by kernel_rfl) F (p_add rfl rfl (by omega) (by omega)) rfl rfl hS fun a F => d_take 6 rfl (by kernel_rfl) F (p_loadC (cs := [.string (bs (crL l12 n12 k12)), .int .i64 (crN l12 n12 k12)]) rfl Try.agg_27 Try.sz_27 (fun _ h => (CA.cons (SC.get h 2 rfl) (CA.cons (SC.get h 3 rfl) CA.nil)))) rfl rfl hS fun a F => d_one 3 (by kernel_rfl) (d_op rfl F rfl (o_call (vs := #[.agg #[.string (bs (l12)), .int .i64 (n12)], .int .i64 (k12 + 1)]) F Try.en_43 rfl rfl ((iLogCrash_ok l12 n12 (k12 + 1) w (by omega)).mono ?_)))
        rintro e w ⟨rfl, K⟩
        refine ⟨_, rfl, fun a F => ?_⟩
        have O : Own w0 [] [.cells b6 [.string (bs (crL l12 n12 k12)), .int .i64 (crN l12 n12 k12)] 27, .cells b5 [.string (bs (crL l12 n12 k12)), .int .i64 (crN l12 n12 k12)] 27, .cells b3 [.string (bs (l12)), .int .i64 (n12)] 27] w := O.call0 K
        clear K
        have O : Own w0 [] [.cells b6 [.string (bs (crL l12 n12 k12)), .int .i64 (crN l12 n12 k12)] 27, .cells b5 [.string (bs (crL l12 n12 k12)), .int .i64 (crN l12 n12 k12)] 27, .cells b3 [.string (bs (l12)), .int .i64 (n12)] 27] w := O
        refine ⟨fun _ => (SC.cons (O.load 2 rfl rfl) (SC.cons (O.load 2 rfl rfl) (SC.cons (O.load 1 rfl rfl) (SC.cons (O.load 1 rfl rfl) SC.nil)))), ?_⟩
        have hS : SC [(b3, 0, .string (bs (l12))), (b3, 0 + 1, .int .i64 (n12)), (b5, 0, .string (bs (crL l12 n12 k12))), (b5, 0 + 1, .int .i64 (crN l12 n12 k12))] w := (SC.cons (O.load 2 rfl rfl) (SC.cons (O.load 2 rfl rfl) (SC.cons (O.load 1 rfl rfl) (SC.cons (O.load 1 rfl rfl) SC.nil))))
        refine d_one 4 (by kernel_rfl) (d_op rfl F rfl (o_call (vs := #[.agg #[.string (bs (crL l12 n12 (k12 + 1))), .int .i64 (crN l12 n12 (k12 + 1))]]) F Try.en_47 rfl rfl ((recordsOf_ok (crL l12 n12 (k12 + 1)) (crN l12 n12 (k12 + 1)) w (by first | omega | (simp; done) | (simp; omega))).mono ?_)))
        rintro e w ⟨P40, N40, C40, rfl, h40a, h40b, K⟩
        refine ⟨_, rfl, fun a F => ?_⟩
        have O : Own w0 [] [.row 9 1 (.slice P40 N40 C40) N40 ((scan (crL l12 n12 (k12 + 1))).flatMap encStr), .cells b6 [.string (bs (crL l12 n12 k12)), .int .i64 (crN l12 n12 k12)] 27, .cells b5 [.string (bs (crL l12 n12 k12)), .int .i64 (crN l12 n12 k12)] 27, .cells b3 [.string (bs (l12)), .int .i64 (n12)] 27] w := O.call0 K
        clear K
        have O : Own w0 [] [.row 9 1 (.slice P40 N40 C40) N40 ((scan (crL l12 n12 (k12 + 1))).flatMap encStr), .cells b6 [.string (bs (crL l12 n12 k12)), .int .i64 (crN l12 n12 k12)] 27, .cells b5 [.string (bs (crL l12 n12 k12)), .int .i64 (crN l12 n12 k12)] 27, .cells b3 [.string (bs (l12)), .int .i64 (n12)] 27] w := O
        refine ⟨fun _ => (SC.cons (O.load 3 rfl rfl) (SC.cons (O.load 3 rfl rfl) (SC.cons (O.load 2 rfl rfl) (SC.cons (O.load 2 rfl rfl) SC.nil)))), ?_⟩
        have hS : SC [(b3, 0, .string (bs (l12))), (b3, 0 + 1, .int .i64 (n12)), (b5, 0, .string (bs (crL l12 n12 k12))), (b5, 0 + 1, .int .i64 (crN l12 n12 k12))] w := (SC.cons (O.load 3 rfl rfl) (SC.cons (O.load 3 rfl rfl) (SC.cons (O.load 2 rfl rfl) (SC.cons (O.load 2 rfl rfl) SC.nil))))
        refine d_take 5 rfl (by kernel_rfl) F (p_len_l rfl Try.underlying40) rfl rfl hS fun a F => d_one 7 (by kernel_rfl) (d_op rfl F rfl (o_call (vs := #[.agg #[.string (bs (crL l12 n12 k12)), .int .i64 (crN l12 n12 k12)]]) F Try.en_47 rfl rfl ((recordsOf_ok (crL l12 n12 k12) (crN l12 n12 k12) w (by first | omega | (simp; done) | (simp; omega))).mono ?_)))
        rintro e w ⟨P43, N43, C43, rfl, h43a, h43b, K⟩
        refine ⟨_, rfl, fun a F => ?_⟩
        have O : Own w0 [] [.row 9 1 (.slice P43 N43 C43) N43 ((scan (crL l12 n12 k12)).flatMap encStr), .row 9 1 (.slice P40 N40 C40) N40 ((scan (crL l12 n12 (k12 + 1))).flatMap encStr), .cells b6 [.string (bs (crL l12 n12 k12)), .int .i64 (crN l12 n12 k12)] 27, .cells b5 [.string (bs (crL l12 n12 k12)), .int .i64 (crN l12 n12 k12)] 27, .cells b3 [.string (bs (l12)), .int .i64 (n12)] 27] w := O.call0 K
        clear K
        have O : Own w0 [] [.row 9 1 (.slice P43 N43 C43) N43 ((scan (crL l12 n12 k12)).flatMap encStr), .row 9 1 (.slice P40 N40 C40) N40 ((scan (crL l12 n12 (k12 + 1))).flatMap encStr), .cells b6 [.string (bs (crL l12 n12 k12)), .int .i64 (crN l12 n12 k12)] 27, .cells b5 [.string (bs (crL l12 n12 k12)), .int .i64 (crN l12 n12 k12)] 27, .cells b3 [.string (bs (l12)), .int .i64 (n12)] 27] w := O
        refine ⟨fun _ => (SC.cons (O.load 4 rfl rfl) (SC.cons (O.load 4 rfl rfl) (SC.cons (O.load 3 rfl rfl) (SC.cons (O.load 3 rfl rfl) SC.nil)))), ?_⟩
        have hS : SC [(b3, 0, .string (bs (l12))), (b3, 0 + 1, .int .i64 (n12)), (b5, 0, .string (bs (crL l12 n12 k12))), (b5, 0 + 1, .int .i64 (crN l12 n12 k12))] w := (SC.cons (O.load 4 rfl rfl) (SC.cons (O.load 4 rfl rfl) (SC.cons (O.load 3 rfl rfl) (SC.cons (O.load 3 rfl rfl) SC.nil))))
        refine d_take 8 rfl (by kernel_rfl) F (p_len_l rfl Try.underlying40) rfl rfl hS fun a F => d_take 9 rfl (by kernel_rfl) F (p_geq rfl rfl) rfl rfl hS fun a F => ?_
        have c45 : (N43 : Int) ≤ (N40 : Int) := by omega
        have F := F.setB (d := 45) rfl (decide_eq_true c45)
        refine d_take 10 rfl (by kernel_rfl) F (p_assign rfl) rfl rfl hS fun a F => d_done (by kernel_rfl) (hK9 _ _ (?_))
        try clear hK9 K9
        refine wp_ret (ret1 F rfl rfl (?_))
        have O : Own w0 [] [] w := (O.take 0)
        exact ⟨rfl, O⟩
    · have F := F.setB (d := 26) rfl (decide_eq_false c26)
      refine sp F (p_not rfl) rfl rfl fun a F => sp F (p_pick (t := false) rfl rfl) rfl rfl fun a F => sp F (p_move rfl) rfl rfl fun a F => ss F rfl rfl fun a F => ss F rfl rfl fun a F => sp F (p_pick (t := true) rfl rfl) rfl rfl fun a F => c_nil (hK8 _ _ (?_))
      try clear hK8 K8
      refine c_ift F rfl (c_seq fun K9 hK9 => c_region (sp F (p_loadC (cs := [.string (bs (crL l12 n12 k12)), .int .i64 (crN l12 n12 k12)]) rfl Try.agg_27 Try.sz_27 (fun _ h => (CA.cons (ld1 (O.load 1 rfl rfl) h) (CA.cons (ld1 (O.load 1 rfl rfl) h) CA.nil)))) rfl rfl fun a F => sp F (p_loadC (cs := [.string (bs (crL l12 n12 k12)), .int .i64 (crN l12 n12 k12)]) rfl Try.agg_27 Try.sz_27 (fun _ h => (CA.cons (ld1 (O.load 0 rfl rfl) h) (CA.cons (ld1 (O.load 0 rfl rfl) h) CA.nil)))) rfl rfl fun a F => sp F (p_eqsiL rfl rfl Try.si_27 true (by simp)) rfl rfl fun a F => sp F (p_assign rfl) rfl rfl fun a F => c_nil (hK9 _ _ (?_))))
      try clear hK9 K9
      refine wp_ret (r_then (ret1 F rfl rfl (?_)))
      have O : Own w0 [] [] w := (O.take 0)
      exact ⟨rfl, O⟩

set_option maxRecDepth 100000 in
theorem crashMore_lifted (os : Os) (started : os.Started) (H : Type) (enc : TypeId × Value → H) :
    ReturnsInHanded {} Try.checked os 20 .any (Rows.fnCrashMoreSpec.pre6 enc Try.prog Try.f20 Rows.fnCrashMoreRow.domain false) (Rows.fnCrashMoreSpec.post enc Try.prog Try.f20 false true false false) := by
  have e0 : Rows.fnCrashMoreRow.domain = [] := rfl
  rw [e0]
  refine lifted_of (C := Try.checked) Try.facts started (by kernel_rfl) Try.func20 rfl ?_ (tb := 4) (by kernel_rfl) Try.underlying4 (by kernel_rfl)
    (ChangeSpec.witness6 (enc := enc) (C := Try.checked) false ⟨#[], #[.slice none 0 0], []⟩ 8 (by kernel_rfl) (by kernel_rfl) (by kernel_rfl) (by kernel_rfl)) ?_
  · intro ds hds
    match ds, hds with
    | [_], _ => rfl
  intro W base args ds p hval0 hA0
  have hval : ∀ (j : Nat) t v, Try.f20.params[j]? = some t → args[j]? = some v → Value.okWide Try.prog W .any base t v := hval0
  have hA : DataW.TrodAll enc Try.prog W 0 (fun _ => true) true Try.f20.params.toList args.toList ds p := hA0
  clear hA0 hval0
  show Calls Try.prog 20 args W _
  rw [Try.params20] at hA hval
  obtain ⟨v0, d0, hargs, rfl, h0⟩ := trodAll_one hA
  obtain rfl : args = #[v0] := by cases args; simp_all
  obtain ⟨a, n, c, rfl, hC⟩ := open_codeIn (hval 0 34 v0 rfl rfl) h0
  exact (crashMore_ok a n c W hC).mono fun e w' h => ⟨h.1, h.2.below⟩

theorem crashMore_pkg : ¬ Check.packageOf Try.f20.name = "main" := by
  intro h
  have h2 := congrArg String.toList h
  simp only [Check.packageOf, Try.f20] at h2
  simp at h2

theorem crashMore_closed : lawFacts Try.prog 20 Try.f20 Rows.fnCrashMoreSpec Rows.fnCrashMoreRow = true := by kernel_rfl
theorem crashMore_facts : joinedFacts Try.pinned.checked.prog 20 Try.f20 Rows.fnCrashMoreSpec Rows.fnCrashMoreRow = true := facts_of (P := Try.prog) Try.facts crashMore_closed

theorem crashMore_wrap : Func.isWrapper Try.pinned.checked.prog Try.f20 Rows.fnCrashMoreRow.wrapper Rows.fnCrashMoreRow.mainSum := by
  have e1 : Rows.fnCrashMoreRow.wrapper = false := rfl
  have e2 : Rows.fnCrashMoreRow.mainSum = "" := rfl
  rw [e1, e2]
  exact wrapper_of Try.pinned.checked.prog Try.f20 crashMore_pkg

/-- The statement. -/
theorem crashMore_over : Rows.fnCrashMoreRow.holds Try.pinned (OpenSpec.ofChange Rows.fnCrashMoreSpec) :=
  OpenClaim.holds_of_wide 20 Try.f20 rfl rfl rfl rfl rfl rfl rfl ⟨rfl, rfl, rfl, rfl, rfl⟩ rfl rfl rfl rfl rfl (by kernel_rfl) Try.func20 crashMore_facts
    (of_decide_eq_true (by kernel_rfl)) crashMore_wrap
    (fun os started H enc _ => crashMore_lifted os started H enc)
theorem crashMore_holds : Rows.FnCrashMoreSaid := crashMore_over
#print axioms crashMore_holds

end Go.Proofs.Ytklgkfknifkbaaa
