/- A failure keeps a beginning: the law FnCrash returns true. No conditions. -/
import Derived.Test.YtklgkfknifkbaaaLCrash
import Derived.Test.YtklgkfknifkbaaaLogM
import Derived.Test.YtklgkfknifkbaaaOpenC
namespace Go.Proofs.Ytklgkfknifkbaaa
open Go.ChangeShapes Go.WideShapes Go.ChangeAt Go.RowKit
set_option linter.unusedVariables false
set_option linter.unusedSimpArgs false

set_option maxRecDepth 100000 in
/-- laws.FnCrash -/
theorem crash_ok (A : Option Addr) (cn : Nat) (cc : Nat) (w0 : World) (hC : CodeIn w0 A cn cc) :
    Calls Try.prog 23 #[.slice A cn cc] w0 fun e w => e = .returned (.bool true) ∧ Own w0 [] [] w := by
  have O := Own.start w0
  have hcc : (cn : Int) ≤ cc := by have := hC.1; omega
  have hcm : (cc : Int) ≤ 9223372036854775807 := by have := hC.2.1; unfold maxLen at this; omega
  refine enterO (n := 84) Try.func23 rfl rfl rfl O fun a w F O => ?_
  refine c_seq fun K1 hK1 => c_region (sp F (p_assign rfl) rfl rfl fun a F => c_nil (hK1 _ _ (?_)))
  try clear hK1 K1
  refine c_seq fun K2 hK2 => c_seq fun K3 hK3 => c_region (sp F (p_move rfl) rfl rfl fun a F => sp F (p_len_l rfl Try.underlying34) rfl rfl fun a F => sp F (p_gtr rfl rfl) rfl rfl fun a F => c_nil (hK3 _ _ (?_)))
  try clear hK3 K3
  by_cases c13 : 1048576 < (cn : Int)
  · have F := F.setB (d := 13) rfl (decide_eq_true c13)
    refine c_ift F rfl (c_seq fun K4 hK4 => c_region (sp F (p_assign rfl) rfl rfl fun a F => c_nil (hK4 _ _ (?_))))
    try clear hK4 K4
    refine wp_ret (r_then (ret1 F rfl rfl (?_)))
    exact ⟨rfl, O⟩
  · have F := F.setB (d := 13) rfl (decide_eq_false c13)
    refine c_iff F rfl (wp_skip (hK2 _ _ (?_)))
    try clear hK2 K2
    refine c_seq fun K4 hK4 => c_region (sp F (p_move rfl) rfl rfl fun a F => so F rfl (o_call (vs := #[.slice A cn cc]) F Try.en_48 rfl rfl ((dLogCrash_ok A cn cc w (hC.keep O)).mono ?_)))
    rintro e w ⟨l16, n16, k16, rfl, h16a, h16b, h16c, h16d, h16e, K⟩
    refine ⟨_, rfl, fun a F => ?_⟩
    have O : Own w0 [] [] w := O.call0 K
    clear K
    have O : Own w0 [] [] w := O
    refine sp F (p_move rfl) rfl rfl fun a F => sp F (p_extract rfl rfl) rfl rfl fun a F => sp F (p_extract rfl rfl) rfl rfl fun a F => so F rfl (o_alloc F O Try.zero_27 rfl fun b3 w O a F => ?_)
    have O : Own w0 [] [.cells b3 [.string (bs ([])), .int .i64 (0)] 27] w := O
    refine so F rfl (o_storeA (vs := [.string (bs (l16)), .int .i64 (n16)]) F O rfl rfl Try.sz_27 (by simp [Value.oneCell']) 0 rfl rfl fun w O => ?_)
    have O : Own w0 [] [.cells b3 [.string (bs (l16)), .int .i64 (n16)] 27] w := O
    refine sp F (p_assign rfl) rfl rfl fun a F => c_nil (hK4 _ _ (?_))
    try clear hK4 K4
    refine c_seq fun K5 hK5 => c_region (sp F (p_loadC (cs := [.string (bs (l16)), .int .i64 (n16)]) rfl Try.agg_27 Try.sz_27 (fun _ h => (CA.cons (ld1 (O.load 0 rfl rfl) h) (CA.cons (ld1 (O.load 0 rfl rfl) h) CA.nil)))) rfl rfl fun a F => sp F (p_move rfl) rfl rfl fun a F => so F rfl (o_call (vs := #[.agg #[.string (bs (l16)), .int .i64 (n16)], .int .i64 (k16)]) F Try.en_43 rfl rfl ((iLogCrash_ok l16 n16 k16 w (by omega)).mono ?_)))
    rintro e w ⟨rfl, K⟩
    refine ⟨_, rfl, fun a F => ?_⟩
    have O : Own w0 [] [.cells b3 [.string (bs (l16)), .int .i64 (n16)] 27] w := O.call0 K
    clear K
    have O : Own w0 [] [.cells b3 [.string (bs (l16)), .int .i64 (n16)] 27] w := O
    refine so F rfl (o_alloc F O Try.zero_27 rfl fun b5 w O a F => ?_)
    have O : Own w0 [] [.cells b5 [.string (bs ([])), .int .i64 (0)] 27, .cells b3 [.string (bs (l16)), .int .i64 (n16)] 27] w := O
    refine so F rfl (o_storeA (vs := [.string (bs (crL l16 n16 k16)), .int .i64 (crN l16 n16 k16)]) F O rfl rfl Try.sz_27 (by simp [Value.oneCell']) 0 rfl rfl fun w O => ?_)
    have O : Own w0 [] [.cells b5 [.string (bs (crL l16 n16 k16)), .int .i64 (crN l16 n16 k16)] 27, .cells b3 [.string (bs (l16)), .int .i64 (n16)] 27] w := O
    refine c_nil (hK5 _ _ (?_))
    try clear hK5 K5
    refine c_seq fun K6 hK6 => c_region (sp F (p_loadC (cs := [.string (bs (l16)), .int .i64 (n16)]) rfl Try.agg_27 Try.sz_27 (fun _ h => (CA.cons (ld1 (O.load 1 rfl rfl) h) (CA.cons (ld1 (O.load 1 rfl rfl) h) CA.nil)))) rfl rfl fun a F => sp F (p_move rfl) rfl rfl fun a F => so F rfl (o_call (vs := #[.agg #[.string (bs (l16)), .int .i64 (n16)], .int .i64 (k16)]) F Try.en_42 rfl rfl ((sLogCrash_ok l16 n16 k16 w (by omega)).mono ?_)))
    rintro e w ⟨rfl, K⟩
    refine ⟨_, rfl, fun a F => ?_⟩
    have O : Own w0 [] [.cells b5 [.string (bs (crL l16 n16 k16)), .int .i64 (crN l16 n16 k16)] 27, .cells b3 [.string (bs (l16)), .int .i64 (n16)] 27] w := O.call0 K
    clear K
    have O : Own w0 [] [.cells b5 [.string (bs (crL l16 n16 k16)), .int .i64 (crN l16 n16 k16)] 27, .cells b3 [.string (bs (l16)), .int .i64 (n16)] 27] w := O
    refine so F rfl (o_alloc F O Try.zero_27 rfl fun b6 w O a F => ?_)
    have O : Own w0 [] [.cells b6 [.string (bs ([])), .int .i64 (0)] 27, .cells b5 [.string (bs (crL l16 n16 k16)), .int .i64 (crN l16 n16 k16)] 27, .cells b3 [.string (bs (l16)), .int .i64 (n16)] 27] w := O
    refine so F rfl (o_storeA (vs := [.string (bs (crL l16 n16 k16)), .int .i64 (crN l16 n16 k16)]) F O rfl rfl Try.sz_27 (by simp [Value.oneCell']) 0 rfl rfl fun w O => ?_)
    have O : Own w0 [] [.cells b6 [.string (bs (crL l16 n16 k16)), .int .i64 (crN l16 n16 k16)] 27, .cells b5 [.string (bs (crL l16 n16 k16)), .int .i64 (crN l16 n16 k16)] 27, .cells b3 [.string (bs (l16)), .int .i64 (n16)] 27] w := O
    refine c_nil (hK6 _ _ (?_))
    try clear hK6 K6
    refine c_seq fun K7 hK7 => c_seq fun K8 hK8 => c_region (sp F (p_loadC (cs := [.string (bs (crL l16 n16 k16)), .int .i64 (crN l16 n16 k16)]) rfl Try.agg_27 Try.sz_27 (fun _ h => (CA.cons (ld1 (O.load 1 rfl rfl) h) (CA.cons (ld1 (O.load 1 rfl rfl) h) CA.nil)))) rfl rfl fun a F => sp F (p_loadC (cs := [.string (bs (crL l16 n16 k16)), .int .i64 (crN l16 n16 k16)]) rfl Try.agg_27 Try.sz_27 (fun _ h => (CA.cons (ld1 (O.load 0 rfl rfl) h) (CA.cons (ld1 (O.load 0 rfl rfl) h) CA.nil)))) rfl rfl fun a F => sp F (p_nesiL rfl rfl Try.si_27 false (by simp)) rfl rfl fun a F => sp F (p_move rfl) rfl rfl fun a F => sp F (p_loadC (cs := [.string (bs (l16)), .int .i64 (n16)]) rfl Try.agg_27 Try.sz_27 (fun _ h => (CA.cons (ld1 (O.load 2 rfl rfl) h) (CA.cons (ld1 (O.load 2 rfl rfl) h) CA.nil)))) rfl rfl fun a F => so F rfl (o_call (vs := #[.agg #[.string (bs (l16)), .int .i64 (n16)]]) F Try.en_26 rfl rfl ((sDiskValid_ok l16 n16 w).mono ?_)))
    rintro e w ⟨rfl, K⟩
    refine ⟨_, rfl, fun a F => ?_⟩
    have O : Own w0 [] [.cells b6 [.string (bs (crL l16 n16 k16)), .int .i64 (crN l16 n16 k16)] 27, .cells b5 [.string (bs (crL l16 n16 k16)), .int .i64 (crN l16 n16 k16)] 27, .cells b3 [.string (bs (l16)), .int .i64 (n16)] 27] w := O.call0 K
    clear K
    have O : Own w0 [] [.cells b6 [.string (bs (crL l16 n16 k16)), .int .i64 (crN l16 n16 k16)] 27, .cells b5 [.string (bs (crL l16 n16 k16)), .int .i64 (crN l16 n16 k16)] 27, .cells b3 [.string (bs (l16)), .int .i64 (n16)] 27] w := O
    by_cases c30 : (l16.length : Int) ≤ 120 ∧ 0 ≤ n16 ∧ n16 ≤ (l16.length : Int)
    · have F := F.setB (d := 30) rfl (decide_eq_true c30)
      refine sp F (p_not rfl) rfl rfl fun a F => sp F (p_pick (t := false) rfl rfl) rfl rfl fun a F => sp F (p_move rfl) rfl rfl fun a F => sp F (p_move rfl) rfl rfl fun a F => sp F (p_lss rfl rfl) rfl rfl fun a F => sp F (p_pick (t := false) rfl rfl) rfl rfl fun a F => c_nil (hK8 _ _ (?_))
      try clear hK8 K8
      by_cases c36 : k16 < 0
      · have F := F.setB (d := 35) rfl (decide_eq_true c36)
        have F := F.setB (d := 36) rfl (decide_eq_true c36)
        refine c_ift F rfl (c_seq fun K9 hK9 => c_region (sp F (p_loadC (cs := [.string (bs (crL l16 n16 k16)), .int .i64 (crN l16 n16 k16)]) rfl Try.agg_27 Try.sz_27 (fun _ h => (CA.cons (ld1 (O.load 1 rfl rfl) h) (CA.cons (ld1 (O.load 1 rfl rfl) h) CA.nil)))) rfl rfl fun a F => sp F (p_loadC (cs := [.string (bs (crL l16 n16 k16)), .int .i64 (crN l16 n16 k16)]) rfl Try.agg_27 Try.sz_27 (fun _ h => (CA.cons (ld1 (O.load 0 rfl rfl) h) (CA.cons (ld1 (O.load 0 rfl rfl) h) CA.nil)))) rfl rfl fun a F => sp F (p_eqsiL rfl rfl Try.si_27 true (by simp)) rfl rfl fun a F => sp F (p_assign rfl) rfl rfl fun a F => c_nil (hK9 _ _ (?_))))
        try clear hK9 K9
        refine wp_ret (r_then (ret1 F rfl rfl (?_)))
        have O : Own w0 [] [] w := (O.take 0)
        exact ⟨rfl, O⟩
      · have F := F.setB (d := 35) rfl (decide_eq_false c36)
        have F := F.setB (d := 36) rfl (decide_eq_false c36)
        refine c_iff F rfl (wp_skip (hK7 _ _ (?_)))
        try clear hK7 K7
        refine c_seq fun K9 hK9 => ?_
        have hV : CVal l16 n16 k16 := ⟨c30, by omega⟩
        have hcl := crL_le (l := l16) (n := n16) (k := k16)
        have hbd := crN_bd hV
        have hpa := pre_all hV
        have hpo := (pre_old hV).length_le
        have hpl := hpa.length_le
        have hln := len_cr hV
        refine c_region (sp F (p_loadC (cs := [.string (bs (l16)), .int .i64 (n16)]) rfl Try.agg_27 Try.sz_27 (fun _ h => (CA.cons (ld1 (O.load 2 rfl rfl) h) (CA.cons (ld1 (O.load 2 rfl rfl) h) CA.nil)))) rfl rfl fun a F => so F rfl (o_call (vs := #[.agg #[.string (bs (l16)), .int .i64 (n16)]]) F Try.en_47 rfl rfl ((recordsOf_ok l16 n16 w (by first | omega | (simp; done) | (simp; omega))).mono ?_)))
        rintro e w ⟨P41, N41, C41, rfl, h41a, h41b, K⟩
        refine ⟨_, rfl, fun a F => ?_⟩
        have O : Own w0 [] [.row 9 1 (.slice P41 N41 C41) N41 ((scan l16).flatMap encStr), .cells b6 [.string (bs (crL l16 n16 k16)), .int .i64 (crN l16 n16 k16)] 27, .cells b5 [.string (bs (crL l16 n16 k16)), .int .i64 (crN l16 n16 k16)] 27, .cells b3 [.string (bs (l16)), .int .i64 (n16)] 27] w := O.call0 K
        clear K
        have O : Own w0 [] [.row 9 1 (.slice P41 N41 C41) N41 ((scan l16).flatMap encStr), .cells b6 [.string (bs (crL l16 n16 k16)), .int .i64 (crN l16 n16 k16)] 27, .cells b5 [.string (bs (crL l16 n16 k16)), .int .i64 (crN l16 n16 k16)] 27, .cells b3 [.string (bs (l16)), .int .i64 (n16)] 27] w := O
        refine sp F (p_assign rfl) rfl rfl fun a F => c_nil (hK9 _ _ (?_))
        try clear hK9 K9
        refine c_seq fun K10 hK10 => c_region (sp F (p_loadC (cs := [.string (bs (crL l16 n16 k16)), .int .i64 (crN l16 n16 k16)]) rfl Try.agg_27 Try.sz_27 (fun _ h => (CA.cons (ld1 (O.load 2 rfl rfl) h) (CA.cons (ld1 (O.load 2 rfl rfl) h) CA.nil)))) rfl rfl fun a F => so F rfl (o_call (vs := #[.agg #[.string (bs (crL l16 n16 k16)), .int .i64 (crN l16 n16 k16)]]) F Try.en_47 rfl rfl ((recordsOf_ok (crL l16 n16 k16) (crN l16 n16 k16) w (by first | omega | (simp; done) | (simp; omega))).mono ?_)))
        rintro e w ⟨P43, N43, C43, rfl, h43a, h43b, K⟩
        refine ⟨_, rfl, fun a F => ?_⟩
        have O : Own w0 [] [.row 9 1 (.slice P43 N43 C43) N43 ((scan (crL l16 n16 k16)).flatMap encStr), .row 9 1 (.slice P41 N41 C41) N41 ((scan l16).flatMap encStr), .cells b6 [.string (bs (crL l16 n16 k16)), .int .i64 (crN l16 n16 k16)] 27, .cells b5 [.string (bs (crL l16 n16 k16)), .int .i64 (crN l16 n16 k16)] 27, .cells b3 [.string (bs (l16)), .int .i64 (n16)] 27] w := O.call0 K
        clear K
        have O : Own w0 [] [.row 9 1 (.slice P43 N43 C43) N43 ((scan (crL l16 n16 k16)).flatMap encStr), .row 9 1 (.slice P41 N41 C41) N41 ((scan l16).flatMap encStr), .cells b6 [.string (bs (crL l16 n16 k16)), .int .i64 (crN l16 n16 k16)] 27, .cells b5 [.string (bs (crL l16 n16 k16)), .int .i64 (crN l16 n16 k16)] 27, .cells b3 [.string (bs (l16)), .int .i64 (n16)] 27] w := O
        refine sp F (p_assign rfl) rfl rfl fun a F => c_nil (hK10 _ _ (?_))
        try clear hK10 K10
        refine c_seq fun K11 hK11 => ?_
        have hlt := List.length_take (l := l16) (i := (n16 : Int).toNat)
        refine c_region (sp F (p_faddr rfl Try.foff_27_0) rfl rfl fun a F => sp F (p_load rfl Try.agg_9 (fun _ h => (ld1 (O.load 4 rfl rfl) h))) rfl rfl fun a F => sp F (p_faddr rfl Try.foff_27_1) rfl rfl fun a F => sp F (p_load rfl Try.agg_3 (fun _ h => (ld1 (O.load 4 rfl rfl) h))) rfl rfl fun a F => sp F (p_sto rfl rfl Try.underlying9 (by omega) (by omega)) rfl rfl fun a F => so F rfl (o_call (vs := #[.string (bs (l16.take (n16 : Int).toNat))]) F Try.en_37 rfl rfl ((iLogScan_ok (l16.take (n16 : Int).toNat) w (by first | omega | (simp; done) | (simp; omega))).mono ?_)))
        rintro e w ⟨P50, N50, C50, rfl, h50a, h50b, h50c, K⟩
        refine ⟨_, rfl, fun a F => ?_⟩
        have O : Own w0 [] [.row 9 1 (.slice P50 N50 C50) N50 ((scan (l16.take (n16 : Int).toNat)).flatMap encStr), .row 9 1 (.slice P43 N43 C43) N43 ((scan (crL l16 n16 k16)).flatMap encStr), .row 9 1 (.slice P41 N41 C41) N41 ((scan l16).flatMap encStr), .cells b6 [.string (bs (crL l16 n16 k16)), .int .i64 (crN l16 n16 k16)] 27, .cells b5 [.string (bs (crL l16 n16 k16)), .int .i64 (crN l16 n16 k16)] 27, .cells b3 [.string (bs (l16)), .int .i64 (n16)] 27] w := O.call0 K
        clear K
        have O : Own w0 [] [.row 9 1 (.slice P50 N50 C50) N50 ((scan (l16.take (n16 : Int).toNat)).flatMap encStr), .row 9 1 (.slice P43 N43 C43) N43 ((scan (crL l16 n16 k16)).flatMap encStr), .row 9 1 (.slice P41 N41 C41) N41 ((scan l16).flatMap encStr), .cells b6 [.string (bs (crL l16 n16 k16)), .int .i64 (crN l16 n16 k16)] 27, .cells b5 [.string (bs (crL l16 n16 k16)), .int .i64 (crN l16 n16 k16)] 27, .cells b3 [.string (bs (l16)), .int .i64 (n16)] 27] w := O
        refine sp F (p_move rfl) rfl rfl fun a F => sp F (p_extract rfl rfl) rfl rfl fun a F => sp F (p_extract rfl rfl) rfl rfl fun a F => sp F (p_assign rfl) rfl rfl fun a F => sp F (p_assign rfl) rfl rfl fun a F => c_nil (hK11 _ _ (?_))
        try clear hK11 K11
        refine c_seq fun K12 hK12 => c_seq fun K13 hK13 => ?_
        have hcap := O.rowCap 2 rfl
        refine c_region (sp F (p_move rfl) rfl rfl fun a F => sp F (p_len_l rfl Try.underlying40) rfl rfl fun a F => sp F (p_move rfl) rfl rfl fun a F => sp F (p_len_l rfl Try.underlying40) rfl rfl fun a F => sp F (p_gtr rfl rfl) rfl rfl fun a F => ?_)
        have c57 : ¬ ((N41 : Int) < (N43 : Int)) := by omega
        have F := F.setB (d := 57) rfl (decide_eq_false c57)
        refine sp F (p_move rfl) rfl rfl fun a F => sp F (p_move rfl) rfl rfl fun a F => sp F (p_len_l rfl Try.underlying40) rfl rfl fun a F => sp F (p_move rfl) rfl rfl fun a F => sp F (p_len_l rfl Try.underlying40) rfl rfl fun a F => sp F (p_lss rfl rfl) rfl rfl fun a F => ?_
        have c63 : ¬ ((N43 : Int) < (N50 : Int)) := by omega
        have F := F.setB (d := 63) rfl (decide_eq_false c63)
        refine sp F (p_pick (t := false) rfl rfl) rfl rfl fun a F => sp F (p_move rfl) rfl rfl fun a F => sp F (p_move rfl) rfl rfl fun a F => sp F (p_move rfl) rfl rfl fun a F => sp F (p_move rfl) rfl rfl fun a F => sp F (p_len_l rfl Try.underlying40) rfl rfl fun a F => sp F (p_slto rfl rfl Try.underlying40 Try.sz_9 (by omega) (by omega)) rfl rfl fun a F => so F rfl (o_call (vs := #[.slice P43 N43 C43, .slice P41 (((N43 : Int) : Int).toNat) C41]) F Try.en_44 rfl rfl ((sameTexts_ok P43 N43 C43 (scan (crL l16 n16 k16)) P41 (((N43 : Int) : Int).toNat) C41 ((scan l16).take (((N43 : Int) : Int).toNat)) w (O.arr 1 (es := scan (crL l16 n16 k16)) rfl encStr_len (by decide)) (by first | omega | (simp; done) | (simp; omega) | (simp at *; omega)) (by omega) ((O.arr 2 (es := scan l16) rfl encStr_len (by decide)).take (((N43 : Int) : Int).toNat)) (by first | omega | (simp; done) | (simp; omega) | (simp at *; omega)) (by omega)).mono ?_))
        rintro e w ⟨rfl, K⟩
        refine ⟨_, rfl, fun a F => ?_⟩
        have O : Own w0 [] [.row 9 1 (.slice P50 N50 C50) N50 ((scan (l16.take (n16 : Int).toNat)).flatMap encStr), .row 9 1 (.slice P43 N43 C43) N43 ((scan (crL l16 n16 k16)).flatMap encStr), .row 9 1 (.slice P41 N41 C41) N41 ((scan l16).flatMap encStr), .cells b6 [.string (bs (crL l16 n16 k16)), .int .i64 (crN l16 n16 k16)] 27, .cells b5 [.string (bs (crL l16 n16 k16)), .int .i64 (crN l16 n16 k16)] 27, .cells b3 [.string (bs (l16)), .int .i64 (n16)] 27] w := O.call0 K
        clear K
        have c71 : (scan (crL l16 n16 k16)) = ((scan l16).take (((N43 : Int) : Int).toNat)) := by rw [show ((N43 : Int) : Int).toNat = (scan (crL l16 n16 k16)).length from by omega]; exact take_of_prefix hpa
        have F := F.setB (d := 71) rfl (decide_eq_true c71)
        have O : Own w0 [] [.row 9 1 (.slice P50 N50 C50) N50 ((scan (l16.take (n16 : Int).toNat)).flatMap encStr), .row 9 1 (.slice P43 N43 C43) N43 ((scan (crL l16 n16 k16)).flatMap encStr), .row 9 1 (.slice P41 N41 C41) N41 ((scan l16).flatMap encStr), .cells b6 [.string (bs (crL l16 n16 k16)), .int .i64 (crN l16 n16 k16)] 27, .cells b5 [.string (bs (crL l16 n16 k16)), .int .i64 (crN l16 n16 k16)] 27, .cells b3 [.string (bs (l16)), .int .i64 (n16)] 27] w := O
        refine sp F (p_not rfl) rfl rfl fun a F => sp F (p_pick (t := false) rfl rfl) rfl rfl fun a F => c_nil (hK13 _ _ (?_))
        try clear hK13 K13
        refine c_iff F rfl (wp_skip (hK12 _ _ (?_)))
        try clear hK12 K12
        refine c_seq fun K14 hK14 => c_region (sp F (p_faddr rfl Try.foff_27_1) rfl rfl fun a F => sp F (p_load rfl Try.agg_3 (fun _ h => (ld1 (O.load 4 rfl rfl) h))) rfl rfl fun a F => sp F (p_faddr rfl Try.foff_27_0) rfl rfl fun a F => sp F (p_load rfl Try.agg_9 (fun _ h => (ld1 (O.load 4 rfl rfl) h))) rfl rfl fun a F => sp F (p_len_b rfl Try.underlying9) rfl rfl fun a F => sp F (p_eql rfl rfl) rfl rfl fun a F => ?_)
        have c79 : (crN l16 n16 k16) = ((crL l16 n16 k16).length : Int) := by omega
        have F := F.setB (d := 79) rfl (decide_eq_true c79)
        refine sp F (p_move rfl) rfl rfl fun a F => sp F (p_loadC (cs := [.string (bs (crL l16 n16 k16)), .int .i64 (crN l16 n16 k16)]) rfl Try.agg_27 Try.sz_27 (fun _ h => (CA.cons (ld1 (O.load 4 rfl rfl) h) (CA.cons (ld1 (O.load 4 rfl rfl) h) CA.nil)))) rfl rfl fun a F => so F rfl (o_call (vs := #[.agg #[.string (bs (crL l16 n16 k16)), .int .i64 (crN l16 n16 k16)]]) F Try.en_28 rfl rfl ((iDiskValid_ok (crL l16 n16 k16) (crN l16 n16 k16) w).mono ?_))
        rintro e w ⟨rfl, K⟩
        refine ⟨_, rfl, fun a F => ?_⟩
        have O : Own w0 [] [.row 9 1 (.slice P50 N50 C50) N50 ((scan (l16.take (n16 : Int).toNat)).flatMap encStr), .row 9 1 (.slice P43 N43 C43) N43 ((scan (crL l16 n16 k16)).flatMap encStr), .row 9 1 (.slice P41 N41 C41) N41 ((scan l16).flatMap encStr), .cells b6 [.string (bs (crL l16 n16 k16)), .int .i64 (crN l16 n16 k16)] 27, .cells b5 [.string (bs (crL l16 n16 k16)), .int .i64 (crN l16 n16 k16)] 27, .cells b3 [.string (bs (l16)), .int .i64 (n16)] 27] w := O.call0 K
        clear K
        have c82 : ((crL l16 n16 k16).length : Int) ≤ 120 ∧ 0 ≤ (crN l16 n16 k16) ∧ (crN l16 n16 k16) ≤ ((crL l16 n16 k16).length : Int) := by omega
        have F := F.setB (d := 82) rfl (decide_eq_true c82)
        have O : Own w0 [] [.row 9 1 (.slice P50 N50 C50) N50 ((scan (l16.take (n16 : Int).toNat)).flatMap encStr), .row 9 1 (.slice P43 N43 C43) N43 ((scan (crL l16 n16 k16)).flatMap encStr), .row 9 1 (.slice P41 N41 C41) N41 ((scan l16).flatMap encStr), .cells b6 [.string (bs (crL l16 n16 k16)), .int .i64 (crN l16 n16 k16)] 27, .cells b5 [.string (bs (crL l16 n16 k16)), .int .i64 (crN l16 n16 k16)] 27, .cells b3 [.string (bs (l16)), .int .i64 (n16)] 27] w := O
        refine sp F (p_pick (t := true) rfl rfl) rfl rfl fun a F => sp F (p_assign rfl) rfl rfl fun a F => c_nil (hK14 _ _ (?_))
        try clear hK14 K14
        refine wp_ret (ret1 F rfl rfl (?_))
        have O : Own w0 [] [] w := (O.take 0)
        exact ⟨rfl, O⟩
    · have F := F.setB (d := 30) rfl (decide_eq_false c30)
      refine sp F (p_not rfl) rfl rfl fun a F => sp F (p_pick (t := false) rfl rfl) rfl rfl fun a F => sp F (p_move rfl) rfl rfl fun a F => ss F rfl rfl fun a F => ss F rfl rfl fun a F => sp F (p_pick (t := true) rfl rfl) rfl rfl fun a F => c_nil (hK8 _ _ (?_))
      try clear hK8 K8
      refine c_ift F rfl (c_seq fun K9 hK9 => c_region (sp F (p_loadC (cs := [.string (bs (crL l16 n16 k16)), .int .i64 (crN l16 n16 k16)]) rfl Try.agg_27 Try.sz_27 (fun _ h => (CA.cons (ld1 (O.load 1 rfl rfl) h) (CA.cons (ld1 (O.load 1 rfl rfl) h) CA.nil)))) rfl rfl fun a F => sp F (p_loadC (cs := [.string (bs (crL l16 n16 k16)), .int .i64 (crN l16 n16 k16)]) rfl Try.agg_27 Try.sz_27 (fun _ h => (CA.cons (ld1 (O.load 0 rfl rfl) h) (CA.cons (ld1 (O.load 0 rfl rfl) h) CA.nil)))) rfl rfl fun a F => sp F (p_eqsiL rfl rfl Try.si_27 true (by simp)) rfl rfl fun a F => sp F (p_assign rfl) rfl rfl fun a F => c_nil (hK9 _ _ (?_))))
      try clear hK9 K9
      refine wp_ret (r_then (ret1 F rfl rfl (?_)))
      have O : Own w0 [] [] w := (O.take 0)
      exact ⟨rfl, O⟩

set_option maxRecDepth 100000 in
theorem crash_lifted (os : Os) (started : os.Started) (H : Type) (enc : TypeId × Value → H) :
    ReturnsInHanded {} Try.checked os 23 .any (Rows.fnCrashSpec.pre6 enc Try.prog Try.f23 Rows.fnCrashRow.domain false) (Rows.fnCrashSpec.post enc Try.prog Try.f23 false true false false) := by
  have e0 : Rows.fnCrashRow.domain = [] := rfl
  rw [e0]
  refine lifted_of (C := Try.checked) Try.facts started (by kernel_rfl) Try.func23 rfl ?_ (tb := 4) (by kernel_rfl) Try.underlying4 (by kernel_rfl)
    (ChangeSpec.witness6 (enc := enc) (C := Try.checked) false ⟨#[], #[.slice none 0 0], []⟩ 8 (by kernel_rfl) (by kernel_rfl) (by kernel_rfl) (by kernel_rfl)) ?_
  · intro ds hds
    match ds, hds with
    | [_], _ => rfl
  intro W base args ds p hval0 hA0
  have hval : ∀ (j : Nat) t v, Try.f23.params[j]? = some t → args[j]? = some v → Value.okWide Try.prog W .any base t v := hval0
  have hA : DataW.TrodAll enc Try.prog W 0 (fun _ => true) true Try.f23.params.toList args.toList ds p := hA0
  clear hA0 hval0
  show Calls Try.prog 23 args W _
  rw [Try.params23] at hA hval
  obtain ⟨v0, d0, hargs, rfl, h0⟩ := trodAll_one hA
  obtain rfl : args = #[v0] := by cases args; simp_all
  obtain ⟨a, n, c, rfl, hC⟩ := open_codeIn (hval 0 34 v0 rfl rfl) h0
  exact (crash_ok a n c W hC).mono fun e w' h => ⟨h.1, h.2.below⟩

theorem crash_pkg : ¬ Check.packageOf Try.f23.name = "main" := by
  intro h
  have h2 := congrArg String.toList h
  simp only [Check.packageOf, Try.f23] at h2
  simp at h2

theorem crash_closed : lawFacts Try.prog 23 Try.f23 Rows.fnCrashSpec Rows.fnCrashRow = true := by kernel_rfl
theorem crash_facts : joinedFacts Try.pinned.checked.prog 23 Try.f23 Rows.fnCrashSpec Rows.fnCrashRow = true := facts_of (P := Try.prog) Try.facts crash_closed

theorem crash_wrap : Func.isWrapper Try.pinned.checked.prog Try.f23 Rows.fnCrashRow.wrapper Rows.fnCrashRow.mainSum := by
  have e1 : Rows.fnCrashRow.wrapper = false := rfl
  have e2 : Rows.fnCrashRow.mainSum = "" := rfl
  rw [e1, e2]
  exact wrapper_of Try.pinned.checked.prog Try.f23 crash_pkg

/-- The statement. -/
theorem crash_over : Rows.fnCrashRow.holds Try.pinned (OpenSpec.ofChange Rows.fnCrashSpec) :=
  OpenClaim.holds_of_wide 23 Try.f23 rfl rfl rfl rfl rfl rfl rfl ⟨rfl, rfl, rfl, rfl, rfl⟩ rfl rfl rfl rfl rfl (by kernel_rfl) Try.func23 crash_facts
    (of_decide_eq_true (by kernel_rfl)) crash_wrap
    (fun os started H enc _ => crash_lifted os started H enc)
theorem crash_holds : Rows.FnCrashSaid := crash_over
#print axioms crash_holds

end Go.Proofs.Ytklgkfknifkbaaa
