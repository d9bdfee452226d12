/- Without other bytes only what is synchronized is kept: the law FnCrashNone returns true. No conditions. -/
import Derived.Test.YtklgkfknifkbaaaLCrash
import Derived.Test.YtklgkfknifkbaaaLogM
import Derived.Test.YtklgkfknifkbaaaOpenC
namespace Go.Proofs.Ytklgkfknifkbaaa
open Go.ChangeShapes Go.WideShapes Go.ChangeAt Go.RowKit
set_option linter.unusedVariables false
set_option linter.unusedSimpArgs false

set_option maxRecDepth 100000 in
/-- laws.FnCrashNone -/
theorem crashNone_ok (A : Option Addr) (cn : Nat) (cc : Nat) (w0 : World) (hC : CodeIn w0 A cn cc) :
    Calls Try.prog 24 #[.slice A cn cc] w0 fun e w => e = .returned (.bool true) ∧ Own w0 [] [] w := by
  have O := Own.start w0
  have hcc : (cn : Int) ≤ cc := by have := hC.1; omega
  have hcm : (cc : Int) ≤ 9223372036854775807 := by have := hC.2.1; unfold maxLen at this; omega
  refine enterO (n := 60) Try.func24 rfl rfl rfl O fun a w F O => ?_
  refine c_seq fun K1 hK1 => c_region (sp F (p_assign rfl) rfl rfl fun a F => c_nil (hK1 _ _ (?_)))
  try clear hK1 K1
  refine c_seq fun K2 hK2 => c_seq fun K3 hK3 => c_region (sp F (p_move rfl) rfl rfl fun a F => sp F (p_len_l rfl Try.underlying34) rfl rfl fun a F => sp F (p_gtr rfl rfl) rfl rfl fun a F => c_nil (hK3 _ _ (?_)))
  try clear hK3 K3
  by_cases c12 : 1048576 < (cn : Int)
  · have F := F.setB (d := 12) rfl (decide_eq_true c12)
    refine c_ift F rfl (c_seq fun K4 hK4 => c_region (sp F (p_assign rfl) rfl rfl fun a F => c_nil (hK4 _ _ (?_))))
    try clear hK4 K4
    refine wp_ret (r_then (ret1 F rfl rfl (?_)))
    exact ⟨rfl, O⟩
  · have F := F.setB (d := 12) rfl (decide_eq_false c12)
    refine c_iff F rfl (wp_skip (hK2 _ _ (?_)))
    try clear hK2 K2
    refine c_seq fun K4 hK4 => c_region (sp F (p_move rfl) rfl rfl fun a F => so F rfl (o_call (vs := #[.slice A cn cc]) F Try.en_48 rfl rfl ((dLogCrash_ok A cn cc w (hC.keep O)).mono ?_)))
    rintro e w ⟨l15, n15, k15, rfl, h15a, h15b, h15c, h15d, h15e, K⟩
    refine ⟨_, rfl, fun a F => ?_⟩
    have O : Own w0 [] [] w := O.call0 K
    clear K
    have O : Own w0 [] [] w := O
    refine sp F (p_move rfl) rfl rfl fun a F => sp F (p_extract rfl rfl) rfl rfl fun a F => sp F (p_extract rfl rfl) rfl rfl fun a F => so F rfl (o_alloc F O Try.zero_27 rfl fun b3 w O a F => ?_)
    have O : Own w0 [] [.cells b3 [.string (bs ([])), .int .i64 (0)] 27] w := O
    refine so F rfl (o_storeA (vs := [.string (bs (l15)), .int .i64 (n15)]) F O rfl rfl Try.sz_27 (by simp [Value.oneCell']) 0 rfl rfl fun w O => ?_)
    have O : Own w0 [] [.cells b3 [.string (bs (l15)), .int .i64 (n15)] 27] w := O
    refine sp F (p_assign rfl) rfl rfl fun a F => c_nil (hK4 _ _ (?_))
    try clear hK4 K4
    refine c_seq fun K5 hK5 => c_region (sp F (p_loadC (cs := [.string (bs (l15)), .int .i64 (n15)]) rfl Try.agg_27 Try.sz_27 (fun _ h => (CA.cons (ld1 (O.load 0 rfl rfl) h) (CA.cons (ld1 (O.load 0 rfl rfl) h) CA.nil)))) rfl rfl fun a F => sp F (p_move rfl) rfl rfl fun a F => so F rfl (o_call (vs := #[.agg #[.string (bs (l15)), .int .i64 (n15)], .int .i64 (k15)]) F Try.en_43 rfl rfl ((iLogCrash_ok l15 n15 k15 w (by omega)).mono ?_)))
    rintro e w ⟨rfl, K⟩
    refine ⟨_, rfl, fun a F => ?_⟩
    have O : Own w0 [] [.cells b3 [.string (bs (l15)), .int .i64 (n15)] 27] w := O.call0 K
    clear K
    have O : Own w0 [] [.cells b3 [.string (bs (l15)), .int .i64 (n15)] 27] w := O
    refine so F rfl (o_alloc F O Try.zero_27 rfl fun b5 w O a F => ?_)
    have O : Own w0 [] [.cells b5 [.string (bs ([])), .int .i64 (0)] 27, .cells b3 [.string (bs (l15)), .int .i64 (n15)] 27] w := O
    refine so F rfl (o_storeA (vs := [.string (bs (crL l15 n15 k15)), .int .i64 (crN l15 n15 k15)]) F O rfl rfl Try.sz_27 (by simp [Value.oneCell']) 0 rfl rfl fun w O => ?_)
    have O : Own w0 [] [.cells b5 [.string (bs (crL l15 n15 k15)), .int .i64 (crN l15 n15 k15)] 27, .cells b3 [.string (bs (l15)), .int .i64 (n15)] 27] w := O
    refine c_nil (hK5 _ _ (?_))
    try clear hK5 K5
    refine c_seq fun K6 hK6 => c_region (sp F (p_loadC (cs := [.string (bs (l15)), .int .i64 (n15)]) rfl Try.agg_27 Try.sz_27 (fun _ h => (CA.cons (ld1 (O.load 1 rfl rfl) h) (CA.cons (ld1 (O.load 1 rfl rfl) h) CA.nil)))) rfl rfl fun a F => sp F (p_move rfl) rfl rfl fun a F => so F rfl (o_call (vs := #[.agg #[.string (bs (l15)), .int .i64 (n15)], .int .i64 (k15)]) F Try.en_42 rfl rfl ((sLogCrash_ok l15 n15 k15 w (by omega)).mono ?_)))
    rintro e w ⟨rfl, K⟩
    refine ⟨_, rfl, fun a F => ?_⟩
    have O : Own w0 [] [.cells b5 [.string (bs (crL l15 n15 k15)), .int .i64 (crN l15 n15 k15)] 27, .cells b3 [.string (bs (l15)), .int .i64 (n15)] 27] w := O.call0 K
    clear K
    have O : Own w0 [] [.cells b5 [.string (bs (crL l15 n15 k15)), .int .i64 (crN l15 n15 k15)] 27, .cells b3 [.string (bs (l15)), .int .i64 (n15)] 27] w := O
    refine so F rfl (o_alloc F O Try.zero_27 rfl fun b6 w O a F => ?_)
    have O : Own w0 [] [.cells b6 [.string (bs ([])), .int .i64 (0)] 27, .cells b5 [.string (bs (crL l15 n15 k15)), .int .i64 (crN l15 n15 k15)] 27, .cells b3 [.string (bs (l15)), .int .i64 (n15)] 27] w := O
    refine so F rfl (o_storeA (vs := [.string (bs (crL l15 n15 k15)), .int .i64 (crN l15 n15 k15)]) F O rfl rfl Try.sz_27 (by simp [Value.oneCell']) 0 rfl rfl fun w O => ?_)
    have O : Own w0 [] [.cells b6 [.string (bs (crL l15 n15 k15)), .int .i64 (crN l15 n15 k15)] 27, .cells b5 [.string (bs (crL l15 n15 k15)), .int .i64 (crN l15 n15 k15)] 27, .cells b3 [.string (bs (l15)), .int .i64 (n15)] 27] w := O
    refine c_nil (hK6 _ _ (?_))
    try clear hK6 K6
    refine c_seq fun K7 hK7 => c_seq fun K8 hK8 => c_region (sp F (p_loadC (cs := [.string (bs (crL l15 n15 k15)), .int .i64 (crN l15 n15 k15)]) rfl Try.agg_27 Try.sz_27 (fun _ h => (CA.cons (ld1 (O.load 1 rfl rfl) h) (CA.cons (ld1 (O.load 1 rfl rfl) h) CA.nil)))) rfl rfl fun a F => sp F (p_loadC (cs := [.string (bs (crL l15 n15 k15)), .int .i64 (crN l15 n15 k15)]) rfl Try.agg_27 Try.sz_27 (fun _ h => (CA.cons (ld1 (O.load 0 rfl rfl) h) (CA.cons (ld1 (O.load 0 rfl rfl) h) CA.nil)))) rfl rfl fun a F => sp F (p_nesiL rfl rfl Try.si_27 false (by simp)) rfl rfl fun a F => sp F (p_move rfl) rfl rfl fun a F => sp F (p_loadC (cs := [.string (bs (l15)), .int .i64 (n15)]) rfl Try.agg_27 Try.sz_27 (fun _ h => (CA.cons (ld1 (O.load 2 rfl rfl) h) (CA.cons (ld1 (O.load 2 rfl rfl) h) CA.nil)))) rfl rfl fun a F => so F rfl (o_call (vs := #[.agg #[.string (bs (l15)), .int .i64 (n15)]]) F Try.en_26 rfl rfl ((sDiskValid_ok l15 n15 w).mono ?_)))
    rintro e w ⟨rfl, K⟩
    refine ⟨_, rfl, fun a F => ?_⟩
    have O : Own w0 [] [.cells b6 [.string (bs (crL l15 n15 k15)), .int .i64 (crN l15 n15 k15)] 27, .cells b5 [.string (bs (crL l15 n15 k15)), .int .i64 (crN l15 n15 k15)] 27, .cells b3 [.string (bs (l15)), .int .i64 (n15)] 27] w := O.call0 K
    clear K
    have O : Own w0 [] [.cells b6 [.string (bs (crL l15 n15 k15)), .int .i64 (crN l15 n15 k15)] 27, .cells b5 [.string (bs (crL l15 n15 k15)), .int .i64 (crN l15 n15 k15)] 27, .cells b3 [.string (bs (l15)), .int .i64 (n15)] 27] w := O
    by_cases c29 : (l15.length : Int) ≤ 120 ∧ 0 ≤ n15 ∧ n15 ≤ (l15.length : Int)
    · have F := F.setB (d := 29) rfl (decide_eq_true c29)
      refine sp F (p_not rfl) rfl rfl fun a F => sp F (p_pick (t := false) rfl rfl) rfl rfl fun a F => sp F (p_move rfl) rfl rfl fun a F => sp F (p_move rfl) rfl rfl fun a F => sp F (p_lss rfl rfl) rfl rfl fun a F => sp F (p_pick (t := false) rfl rfl) rfl rfl fun a F => c_nil (hK8 _ _ (?_))
      try clear hK8 K8
      by_cases c35 : k15 < 0
      · have F := F.setB (d := 34) rfl (decide_eq_true c35)
        have F := F.setB (d := 35) rfl (decide_eq_true c35)
        refine c_ift F rfl (c_seq fun K9 hK9 => c_region (sp F (p_loadC (cs := [.string (bs (crL l15 n15 k15)), .int .i64 (crN l15 n15 k15)]) rfl Try.agg_27 Try.sz_27 (fun _ h => (CA.cons (ld1 (O.load 1 rfl rfl) h) (CA.cons (ld1 (O.load 1 rfl rfl) h) CA.nil)))) rfl rfl fun a F => sp F (p_loadC (cs := [.string (bs (crL l15 n15 k15)), .int .i64 (crN l15 n15 k15)]) rfl Try.agg_27 Try.sz_27 (fun _ h => (CA.cons (ld1 (O.load 0 rfl rfl) h) (CA.cons (ld1 (O.load 0 rfl rfl) h) CA.nil)))) rfl rfl fun a F => sp F (p_eqsiL rfl rfl Try.si_27 true (by simp)) rfl rfl fun a F => sp F (p_assign rfl) rfl rfl fun a F => c_nil (hK9 _ _ (?_))))
        try clear hK9 K9
        refine wp_ret (r_then (ret1 F rfl rfl (?_)))
        have O : Own w0 [] [] w := (O.take 0)
        exact ⟨rfl, O⟩
      · have F := F.setB (d := 34) rfl (decide_eq_false c35)
        have F := F.setB (d := 35) rfl (decide_eq_false c35)
        refine c_iff F rfl (wp_skip (hK7 _ _ (?_)))
        try clear hK7 K7
        refine c_seq fun K9 hK9 => ?_
        have hV : CVal l15 n15 k15 := ⟨c29, by omega⟩
        have hcl := crL_le (l := l15) (n := n15) (k := k15)
        have hbd := crN_bd hV
        have hV0 : CVal l15 n15 0 := ⟨c29, by omega⟩
        have hcl0 := crL_le (l := l15) (n := n15) (k := 0)
        have hlt := List.length_take (l := l15) (i := (n15 : Int).toNat)
        refine c_region (sp F (p_faddr rfl Try.foff_27_0) rfl rfl fun a F => sp F (p_load rfl Try.agg_9 (fun _ h => (ld1 (O.load 2 rfl rfl) h))) rfl rfl fun a F => sp F (p_faddr rfl Try.foff_27_1) rfl rfl fun a F => sp F (p_load rfl Try.agg_3 (fun _ h => (ld1 (O.load 2 rfl rfl) h))) rfl rfl fun a F => sp F (p_sto rfl rfl Try.underlying9 (by omega) (by omega)) rfl rfl fun a F => so F rfl (o_call (vs := #[.string (bs (l15.take (n15 : Int).toNat))]) F Try.en_37 rfl rfl ((iLogScan_ok (l15.take (n15 : Int).toNat) w (by first | omega | (simp; done) | (simp; omega))).mono ?_)))
        rintro e w ⟨P45, N45, C45, rfl, h45a, h45b, h45c, K⟩
        refine ⟨_, rfl, fun a F => ?_⟩
        have O : Own w0 [] [.row 9 1 (.slice P45 N45 C45) N45 ((scan (l15.take (n15 : Int).toNat)).flatMap encStr), .cells b6 [.string (bs (crL l15 n15 k15)), .int .i64 (crN l15 n15 k15)] 27, .cells b5 [.string (bs (crL l15 n15 k15)), .int .i64 (crN l15 n15 k15)] 27, .cells b3 [.string (bs (l15)), .int .i64 (n15)] 27] w := O.call0 K
        clear K
        have O : Own w0 [] [.row 9 1 (.slice P45 N45 C45) N45 ((scan (l15.take (n15 : Int).toNat)).flatMap encStr), .cells b6 [.string (bs (crL l15 n15 k15)), .int .i64 (crN l15 n15 k15)] 27, .cells b5 [.string (bs (crL l15 n15 k15)), .int .i64 (crN l15 n15 k15)] 27, .cells b3 [.string (bs (l15)), .int .i64 (n15)] 27] w := O
        refine sp F (p_move rfl) rfl rfl fun a F => sp F (p_extract rfl rfl) rfl rfl fun a F => sp F (p_extract rfl rfl) rfl rfl fun a F => sp F (p_assign rfl) rfl rfl fun a F => sp F (p_assign rfl) rfl rfl fun a F => c_nil (hK9 _ _ (?_))
        try clear hK9 K9
        refine c_seq fun K10 hK10 => c_region (sp F (p_loadC (cs := [.string (bs (l15)), .int .i64 (n15)]) rfl Try.agg_27 Try.sz_27 (fun _ h => (CA.cons (ld1 (O.load 3 rfl rfl) h) (CA.cons (ld1 (O.load 3 rfl rfl) h) CA.nil)))) rfl rfl fun a F => so F rfl (o_call (vs := #[.agg #[.string (bs (l15)), .int .i64 (n15)], .int .i64 (0)]) F Try.en_43 rfl rfl ((iLogCrash_ok l15 n15 0 w (by omega)).mono ?_)))
        rintro e w ⟨rfl, K⟩
        refine ⟨_, rfl, fun a F => ?_⟩
        have O : Own w0 [] [.row 9 1 (.slice P45 N45 C45) N45 ((scan (l15.take (n15 : Int).toNat)).flatMap encStr), .cells b6 [.string (bs (crL l15 n15 k15)), .int .i64 (crN l15 n15 k15)] 27, .cells b5 [.string (bs (crL l15 n15 k15)), .int .i64 (crN l15 n15 k15)] 27, .cells b3 [.string (bs (l15)), .int .i64 (n15)] 27] w := O.call0 K
        clear K
        have O : Own w0 [] [.row 9 1 (.slice P45 N45 C45) N45 ((scan (l15.take (n15 : Int).toNat)).flatMap encStr), .cells b6 [.string (bs (crL l15 n15 k15)), .int .i64 (crN l15 n15 k15)] 27, .cells b5 [.string (bs (crL l15 n15 k15)), .int .i64 (crN l15 n15 k15)] 27, .cells b3 [.string (bs (l15)), .int .i64 (n15)] 27] w := O
        refine so F rfl (o_alloc F O Try.zero_27 rfl fun b9 w O a F => ?_)
        have O : Own w0 [] [.cells b9 [.string (bs ([])), .int .i64 (0)] 27, .row 9 1 (.slice P45 N45 C45) N45 ((scan (l15.take (n15 : Int).toNat)).flatMap encStr), .cells b6 [.string (bs (crL l15 n15 k15)), .int .i64 (crN l15 n15 k15)] 27, .cells b5 [.string (bs (crL l15 n15 k15)), .int .i64 (crN l15 n15 k15)] 27, .cells b3 [.string (bs (l15)), .int .i64 (n15)] 27] w := O
        refine so F rfl (o_storeA (vs := [.string (bs (crL l15 n15 0)), .int .i64 (crN l15 n15 0)]) F O rfl rfl Try.sz_27 (by simp [Value.oneCell']) 0 rfl rfl fun w O => ?_)
        have O : Own w0 [] [.cells b9 [.string (bs (crL l15 n15 0)), .int .i64 (crN l15 n15 0)] 27, .row 9 1 (.slice P45 N45 C45) N45 ((scan (l15.take (n15 : Int).toNat)).flatMap encStr), .cells b6 [.string (bs (crL l15 n15 k15)), .int .i64 (crN l15 n15 k15)] 27, .cells b5 [.string (bs (crL l15 n15 k15)), .int .i64 (crN l15 n15 k15)] 27, .cells b3 [.string (bs (l15)), .int .i64 (n15)] 27] w := O
        refine c_nil (hK10 _ _ (?_))
        try clear hK10 K10
        refine c_seq fun K11 hK11 => c_region (sp F (p_loadC (cs := [.string (bs (crL l15 n15 0)), .int .i64 (crN l15 n15 0)]) rfl Try.agg_27 Try.sz_27 (fun _ h => (CA.cons (ld1 (O.load 0 rfl rfl) h) (CA.cons (ld1 (O.load 0 rfl rfl) h) CA.nil)))) rfl rfl fun a F => so F rfl (o_call (vs := #[.agg #[.string (bs (crL l15 n15 0)), .int .i64 (crN l15 n15 0)]]) F Try.en_47 rfl rfl ((recordsOf_ok (crL l15 n15 0) (crN l15 n15 0) w (by first | omega | (simp; done) | (simp; omega))).mono ?_)))
        rintro e w ⟨P51, N51, C51, rfl, h51a, h51b, K⟩
        refine ⟨_, rfl, fun a F => ?_⟩
        have O : Own w0 [] [.row 9 1 (.slice P51 N51 C51) N51 ((scan (crL l15 n15 0)).flatMap encStr), .cells b9 [.string (bs (crL l15 n15 0)), .int .i64 (crN l15 n15 0)] 27, .row 9 1 (.slice P45 N45 C45) N45 ((scan (l15.take (n15 : Int).toNat)).flatMap encStr), .cells b6 [.string (bs (crL l15 n15 k15)), .int .i64 (crN l15 n15 k15)] 27, .cells b5 [.string (bs (crL l15 n15 k15)), .int .i64 (crN l15 n15 k15)] 27, .cells b3 [.string (bs (l15)), .int .i64 (n15)] 27] w := O.call0 K
        clear K
        have O : Own w0 [] [.row 9 1 (.slice P51 N51 C51) N51 ((scan (crL l15 n15 0)).flatMap encStr), .cells b9 [.string (bs (crL l15 n15 0)), .int .i64 (crN l15 n15 0)] 27, .row 9 1 (.slice P45 N45 C45) N45 ((scan (l15.take (n15 : Int).toNat)).flatMap encStr), .cells b6 [.string (bs (crL l15 n15 k15)), .int .i64 (crN l15 n15 k15)] 27, .cells b5 [.string (bs (crL l15 n15 k15)), .int .i64 (crN l15 n15 k15)] 27, .cells b3 [.string (bs (l15)), .int .i64 (n15)] 27] w := O
        refine sp F (p_move rfl) rfl rfl fun a F => so F rfl (o_call (vs := #[.slice P51 N51 C51, .slice P45 N45 C45]) F Try.en_44 rfl rfl ((sameTexts_ok P51 N51 C51 (scan (crL l15 n15 0)) P45 N45 C45 (scan (l15.take (n15 : Int).toNat)) w (O.arr 0 (es := scan (crL l15 n15 0)) rfl encStr_len (by decide)) (by first | omega | (simp; done) | (simp; omega) | (simp at *; omega)) (by omega) (O.arr 2 (es := scan (l15.take (n15 : Int).toNat)) rfl encStr_len (by decide)) (by first | omega | (simp; done) | (simp; omega) | (simp at *; omega)) (by omega)).mono ?_))
        rintro e w ⟨rfl, K⟩
        refine ⟨_, rfl, fun a F => ?_⟩
        have O : Own w0 [] [.row 9 1 (.slice P51 N51 C51) N51 ((scan (crL l15 n15 0)).flatMap encStr), .cells b9 [.string (bs (crL l15 n15 0)), .int .i64 (crN l15 n15 0)] 27, .row 9 1 (.slice P45 N45 C45) N45 ((scan (l15.take (n15 : Int).toNat)).flatMap encStr), .cells b6 [.string (bs (crL l15 n15 k15)), .int .i64 (crN l15 n15 k15)] 27, .cells b5 [.string (bs (crL l15 n15 k15)), .int .i64 (crN l15 n15 k15)] 27, .cells b3 [.string (bs (l15)), .int .i64 (n15)] 27] w := O.call0 K
        clear K
        have c53 : (scan (crL l15 n15 0)) = (scan (l15.take (n15 : Int).toNat)) := by rw [scan_cr hV0, crB_zero hV0]
        have F := F.setB (d := 53) rfl (decide_eq_true c53)
        have O : Own w0 [] [.row 9 1 (.slice P51 N51 C51) N51 ((scan (crL l15 n15 0)).flatMap encStr), .cells b9 [.string (bs (crL l15 n15 0)), .int .i64 (crN l15 n15 0)] 27, .row 9 1 (.slice P45 N45 C45) N45 ((scan (l15.take (n15 : Int).toNat)).flatMap encStr), .cells b6 [.string (bs (crL l15 n15 k15)), .int .i64 (crN l15 n15 k15)] 27, .cells b5 [.string (bs (crL l15 n15 k15)), .int .i64 (crN l15 n15 k15)] 27, .cells b3 [.string (bs (l15)), .int .i64 (n15)] 27] w := O
        refine sp F (p_move rfl) rfl rfl fun a F => sp F (p_faddr rfl Try.foff_27_1) rfl rfl fun a F => sp F (p_load rfl Try.agg_3 (fun _ h => (ld1 (O.load 1 rfl rfl) h))) rfl rfl fun a F => sp F (p_move rfl) rfl rfl fun a F => sp F (p_eql rfl rfl) rfl rfl fun a F => ?_
        have c58 : (crN l15 n15 0) = (used (scan (l15.take (n15 : Int).toNat)) : Int) := by rw [crN_ok hV0, crB_zero hV0]
        have F := F.setB (d := 58) rfl (decide_eq_true c58)
        refine sp F (p_pick (t := true) rfl rfl) rfl rfl fun a F => sp F (p_assign rfl) rfl rfl fun a F => c_nil (hK11 _ _ (?_))
        try clear hK11 K11
        refine wp_ret (ret1 F rfl rfl (?_))
        have O : Own w0 [] [] w := (O.take 0)
        exact ⟨rfl, O⟩
    · have F := F.setB (d := 29) rfl (decide_eq_false c29)
      refine sp F (p_not rfl) rfl rfl fun a F => sp F (p_pick (t := false) rfl rfl) rfl rfl fun a F => sp F (p_move rfl) rfl rfl fun a F => ss F rfl rfl fun a F => ss F rfl rfl fun a F => sp F (p_pick (t := true) rfl rfl) rfl rfl fun a F => c_nil (hK8 _ _ (?_))
      try clear hK8 K8
      refine c_ift F rfl (c_seq fun K9 hK9 => c_region (sp F (p_loadC (cs := [.string (bs (crL l15 n15 k15)), .int .i64 (crN l15 n15 k15)]) rfl Try.agg_27 Try.sz_27 (fun _ h => (CA.cons (ld1 (O.load 1 rfl rfl) h) (CA.cons (ld1 (O.load 1 rfl rfl) h) CA.nil)))) rfl rfl fun a F => sp F (p_loadC (cs := [.string (bs (crL l15 n15 k15)), .int .i64 (crN l15 n15 k15)]) rfl Try.agg_27 Try.sz_27 (fun _ h => (CA.cons (ld1 (O.load 0 rfl rfl) h) (CA.cons (ld1 (O.load 0 rfl rfl) h) CA.nil)))) rfl rfl fun a F => sp F (p_eqsiL rfl rfl Try.si_27 true (by simp)) rfl rfl fun a F => sp F (p_assign rfl) rfl rfl fun a F => c_nil (hK9 _ _ (?_))))
      try clear hK9 K9
      refine wp_ret (r_then (ret1 F rfl rfl (?_)))
      have O : Own w0 [] [] w := (O.take 0)
      exact ⟨rfl, O⟩

set_option maxRecDepth 100000 in
theorem crashNone_lifted (os : Os) (started : os.Started) (H : Type) (enc : TypeId × Value → H) :
    ReturnsInHanded {} Try.checked os 24 .any (Rows.fnCrashNoneSpec.pre6 enc Try.prog Try.f24 Rows.fnCrashNoneRow.domain false) (Rows.fnCrashNoneSpec.post enc Try.prog Try.f24 false true false false) := by
  have e0 : Rows.fnCrashNoneRow.domain = [] := rfl
  rw [e0]
  refine lifted_of (C := Try.checked) Try.facts started (by kernel_rfl) Try.func24 rfl ?_ (tb := 4) (by kernel_rfl) Try.underlying4 (by kernel_rfl)
    (ChangeSpec.witness6 (enc := enc) (C := Try.checked) false ⟨#[], #[.slice none 0 0], []⟩ 8 (by kernel_rfl) (by kernel_rfl) (by kernel_rfl) (by kernel_rfl)) ?_
  · intro ds hds
    match ds, hds with
    | [_], _ => rfl
  intro W base args ds p hval0 hA0
  have hval : ∀ (j : Nat) t v, Try.f24.params[j]? = some t → args[j]? = some v → Value.okWide Try.prog W .any base t v := hval0
  have hA : DataW.TrodAll enc Try.prog W 0 (fun _ => true) true Try.f24.params.toList args.toList ds p := hA0
  clear hA0 hval0
  show Calls Try.prog 24 args W _
  rw [Try.params24] at hA hval
  obtain ⟨v0, d0, hargs, rfl, h0⟩ := trodAll_one hA
  obtain rfl : args = #[v0] := by cases args; simp_all
  obtain ⟨a, n, c, rfl, hC⟩ := open_codeIn (hval 0 34 v0 rfl rfl) h0
  exact (crashNone_ok a n c W hC).mono fun e w' h => ⟨h.1, h.2.below⟩

theorem crashNone_pkg : ¬ Check.packageOf Try.f24.name = "main" := by
  intro h
  have h2 := congrArg String.toList h
  simp only [Check.packageOf, Try.f24] at h2
  simp at h2

theorem crashNone_closed : lawFacts Try.prog 24 Try.f24 Rows.fnCrashNoneSpec Rows.fnCrashNoneRow = true := by kernel_rfl
theorem crashNone_facts : joinedFacts Try.pinned.checked.prog 24 Try.f24 Rows.fnCrashNoneSpec Rows.fnCrashNoneRow = true := facts_of (P := Try.prog) Try.facts crashNone_closed

theorem crashNone_wrap : Func.isWrapper Try.pinned.checked.prog Try.f24 Rows.fnCrashNoneRow.wrapper Rows.fnCrashNoneRow.mainSum := by
  have e1 : Rows.fnCrashNoneRow.wrapper = false := rfl
  have e2 : Rows.fnCrashNoneRow.mainSum = "" := rfl
  rw [e1, e2]
  exact wrapper_of Try.pinned.checked.prog Try.f24 crashNone_pkg

/-- The statement. -/
theorem crashNone_over : Rows.fnCrashNoneRow.holds Try.pinned (OpenSpec.ofChange Rows.fnCrashNoneSpec) :=
  OpenClaim.holds_of_wide 24 Try.f24 rfl rfl rfl rfl rfl rfl rfl ⟨rfl, rfl, rfl, rfl, rfl⟩ rfl rfl rfl rfl rfl (by kernel_rfl) Try.func24 crashNone_facts
    (of_decide_eq_true (by kernel_rfl)) crashNone_wrap
    (fun os started H enc _ => crashNone_lifted os started H enc)
theorem crashNone_holds : Rows.FnCrashNoneSaid := crashNone_over
#print axioms crashNone_holds

end Go.Proofs.Ytklgkfknifkbaaa
