/- Contracts of the functions on entries of packs that read alone. No conditions but those on lengths. -/
import Derived.Test.YtbhidkcljekobaaPk
import Derived.Test.YtbhidkcljekobaaRev
namespace Go.Proofs.Ytbhidkcljekobaa
open Go.ChangeShapes Go.WideShapes Go.ChangeAt Go.RowKit
set_option linter.unusedVariables false
set_option linter.unusedSimpArgs false

set_option maxRecDepth 100000 in
/-- spec.l6In -/
theorem l6In_ok (n : Int) (lo : Int) (hi : Int) (w0 : World) :
    Calls Try.prog 36 #[.int .i64 (n), .int .i64 (lo), .int .i64 (hi)] w0 fun e w => e = .returned (.bool (decide (lo ≤ n ∧ n ≤ hi))) ∧ Own w0 [] [] w := by
  have O := Own.start w0
  refine enterO (n := 15) Try.func36 rfl rfl rfl O fun a w F O => ?_
  refine c_seq fun K1 hK1 => c_region (sp F (p_assign rfl) rfl rfl fun a F => c_nil (hK1 _ _ (?_)))
  try clear hK1 K1
  refine c_seq fun K2 hK2 => c_region (sp F (p_move rfl) rfl rfl fun a F => sp F (p_move rfl) rfl rfl fun a F => sp F (p_geq rfl rfl) rfl rfl fun a F => sp F (p_move rfl) rfl rfl fun a F => ?_)
  by_cases c10 : lo ≤ n
  · have F := F.setB (d := 9) rfl (decide_eq_true c10)
    have F := F.setB (d := 10) rfl (decide_eq_true c10)
    refine sp F (p_move rfl) rfl rfl fun a F => sp F (p_move rfl) rfl rfl fun a F => sp F (p_leq rfl rfl) rfl rfl fun a F => sp F (p_pick (t := true) rfl rfl) rfl rfl fun a F => sp F (p_assign rfl) rfl rfl fun a F => c_nil (hK2 _ _ (?_))
    try clear hK2 K2
    refine wp_ret (ret1 F rfl rfl (?_))
    exact ⟨congrArg Ending.returned (show Value.bool (decide (n ≤ hi)) = .bool (decide (lo ≤ n ∧ n ≤ hi)) from by exact vbi (by omega)), O⟩
  · have F := F.setB (d := 9) rfl (decide_eq_false c10)
    have F := F.setB (d := 10) rfl (decide_eq_false c10)
    refine ss F rfl rfl fun a F => ss F rfl rfl fun a F => ss F rfl rfl fun a F => sp F (p_pick (t := false) rfl rfl) rfl rfl fun a F => sp F (p_assign rfl) rfl rfl fun a F => c_nil (hK2 _ _ (?_))
    try clear hK2 K2
    refine wp_ret (ret1 F rfl rfl (?_))
    exact ⟨congrArg Ending.returned (show Value.bool false = .bool (decide (lo ≤ n ∧ n ≤ hi)) from by exact vbf (by omega)), O⟩

set_option maxRecDepth 100000 in
/-- impl.inRange -/
theorem inRange_ok (n : Int) (lo : Int) (hi : Int) (w0 : World) :
    Calls Try.prog 40 #[.int .i64 (n), .int .i64 (lo), .int .i64 (hi)] w0 fun e w => e = .returned (.bool (decide (lo ≤ n ∧ n ≤ hi))) ∧ Own w0 [] [] w := by
  have O := Own.start w0
  refine enterO (n := 15) Try.func40 rfl rfl rfl O fun a w F O => ?_
  refine c_seq fun K1 hK1 => c_region (sp F (p_assign rfl) rfl rfl fun a F => c_nil (hK1 _ _ (?_)))
  try clear hK1 K1
  refine c_seq fun K2 hK2 => c_region (sp F (p_move rfl) rfl rfl fun a F => sp F (p_move rfl) rfl rfl fun a F => sp F (p_leq rfl rfl) rfl rfl fun a F => sp F (p_move rfl) rfl rfl fun a F => ?_)
  by_cases c10 : lo ≤ n
  · have F := F.setB (d := 9) rfl (decide_eq_true c10)
    have F := F.setB (d := 10) rfl (decide_eq_true c10)
    refine sp F (p_move rfl) rfl rfl fun a F => sp F (p_move rfl) rfl rfl fun a F => sp F (p_leq rfl rfl) rfl rfl fun a F => sp F (p_pick (t := true) rfl rfl) rfl rfl fun a F => sp F (p_assign rfl) rfl rfl fun a F => c_nil (hK2 _ _ (?_))
    try clear hK2 K2
    refine wp_ret (ret1 F rfl rfl (?_))
    exact ⟨congrArg Ending.returned (show Value.bool (decide (n ≤ hi)) = .bool (decide (lo ≤ n ∧ n ≤ hi)) from by exact vbi (by omega)), O⟩
  · have F := F.setB (d := 9) rfl (decide_eq_false c10)
    have F := F.setB (d := 10) rfl (decide_eq_false c10)
    refine ss F rfl rfl fun a F => ss F rfl rfl fun a F => ss F rfl rfl fun a F => sp F (p_pick (t := false) rfl rfl) rfl rfl fun a F => sp F (p_assign rfl) rfl rfl fun a F => c_nil (hK2 _ _ (?_))
    try clear hK2 K2
    refine wp_ret (ret1 F rfl rfl (?_))
    exact ⟨congrArg Ending.returned (show Value.bool false = .bool (decide (lo ≤ n ∧ n ≤ hi)) from by exact vbf (by omega)), O⟩

set_option maxRecDepth 100000 in
/-- laws.toIntS -/
theorem toIntS_ok (A : Option Addr) (n : Nat) (c : Nat) (es : List (Int)) (w0 : World) (hA : Arr w0 encInt 1 A es) (hn : (n : Int) = es.length) (hb : (n : Int) ≤ 1048600) :
    Calls Try.prog 49 #[.slice A n c] w0 fun e w => ∃ (b : Nat), ∃ (N : Nat), e = .returned (.slice (some ⟨b, 0, none⟩) N N) ∧ ((N : Int) = es.length) ∧ Own w0 [] [.row 3 1 (.slice (some ⟨b, 0, none⟩) N N) N (es.flatMap encInt)] w := by
  have O := Own.start w0
  refine enterO (n := 22) Try.func49 rfl rfl rfl O fun a w F O => ?_
  refine c_seq fun K1 hK1 => c_region (sp F (p_assign rfl) rfl rfl fun a F => c_nil (hK1 _ _ (?_)))
  try clear hK1 K1
  refine c_seq fun K2 hK2 => c_region (sp F (p_move rfl) rfl rfl fun a F => sp F (p_len_l rfl Try.underlying56) rfl rfl fun a F => so F rfl (o_make (enc := encInt) (e0 := 0) F O rfl rfl Try.underlying56 Try.elem_3 Try.zero_3 encInt_len (by decide) (by omega) (by omega) rfl rfl fun b7 w O a F => ?_))
  have O : Own w0 [] [.row 3 1 (.slice (some ⟨b7, 0, none⟩) (((n : Int) : Int).toNat) (((n : Int) : Int).toNat)) (((n : Int) : Int).toNat) ((List.replicate (((n : Int) : Int).toNat) 0).flatMap encInt)] w := O
  refine sp F (p_assign rfl) rfl rfl fun a F => c_nil (hK2 _ _ (?_))
  try clear hK2 K2
  refine c_seq fun K3 hK3 => c_seq fun K4 hK4 => c_region (sp F (p_assign rfl) rfl rfl fun a F => c_nil (hK4 _ _ (?_)))
  try clear hK4 K4
  refine wp_block (?_)
  refine c_loop (fun mm a w => ∃ (k : Int), ∃ (es1 : List Int), mm = ((n : Int) - k).toNat ∧ Has 22 [(0, .slice A n c), (2, .slice none 0 0), (3, .slice (some ⟨b7, 0, none⟩) (((n : Int) : Int).toNat) (((n : Int) : Int).toNat)), (4, .int .i64 (k))] a ∧ Own w0 [] [.row 3 1 (.slice (some ⟨b7, 0, none⟩) (((n : Int) : Int).toNat) (((n : Int) : Int).toNat)) (((n : Int) : Int).toNat) (es1.flatMap encInt)] w ∧ (0 ≤ k) ∧ (k ≤ n) ∧ ((es1.length : Int) = n) ∧ (SameTo k es1 es)) ?_ ?_
  · have F : Has 22 [(0, .slice A n c), (2, .slice none 0 0), (3, .slice (some ⟨b7, 0, none⟩) (((n : Int) : Int).toNat) (((n : Int) : Int).toNat)), (4, .int .i64 (0))] a := F.pick ⟨rfl, rfl, rfl, rfl, trivial⟩
    exact ⟨((n : Int) - 0).toNat, 0, (List.replicate (((n : Int) : Int).toNat) 0), rfl, F, O, by first | assumption | omega, by first | assumption | omega, by simp, by exact sameTo_zero⟩
  · rintro mm a w ⟨k, es1, rfl, F, O, hi0a, hi0b, hi0c, hi0d⟩
    refine c_seq fun K5 hK5 => c_seq fun K6 hK6 => c_region (sp F (p_move rfl) rfl rfl fun a F => sp F (p_move rfl) rfl rfl fun a F => sp F (p_len_l rfl Try.underlying56) rfl rfl fun a F => sp F (p_lss rfl rfl) rfl rfl fun a F => c_nil (hK6 _ _ (?_)))
    try clear hK6 K6
    by_cases c11 : k < (n : Int)
    · have F := F.setB (d := 11) rfl (decide_eq_true c11)
      refine c_ift F rfl (wp_skip (hK5 _ _ (?_)))
      try clear hK5 K5
      refine c_seq fun K7 hK7 => wp_block (c_region (sp F (p_move rfl) rfl rfl fun a F => sp F (p_move rfl) rfl rfl fun a F => sp F (p_move rfl) rfl rfl fun a F => sp F (p_move rfl) rfl rfl fun a F => ?_))
      obtain ⟨b18, o18, hp18, hb18, hc18⟩ := Arr.out hA (by omega)
      have hA18 := hA; rw [hp18] at hA18 F
      obtain ⟨e18, he18⟩ := get_some (l := es) (i := k) (by omega) (by first | omega | (simp; omega))
      refine sp F (p_iaddr rfl rfl Try.underlying56 Try.sz_3 (by omega) (by omega)) rfl rfl fun a F => sp F (p_load rfl Try.agg_3 (fun _ h => (ld1 (((O.old hb18 (by simp)).trans (hc18 _ _ he18 0 _ rfl))) h))) rfl rfl fun a F => ?_
      obtain ⟨e20, he20⟩ := get_some (l := es1) (i := k) (by omega) (by first | omega | (simp; omega))
      refine sp F (p_iaddr rfl rfl Try.underlying56 Try.sz_3 (by omega) (by omega)) rfl rfl fun a F => so F rfl (o_storeRow F O rfl rfl Try.sz_3 rfl rfl 0 rfl (by rw [flat_len encInt_len]; first | omega | (simp; omega)) fun w O => ?_)
      have hst : (es1.flatMap encInt).set (0 + (k : Int).toNat * 1) (.int .i64 (e18)) = (es1.set (k : Int).toNat e18).flatMap encInt := flat_set encInt_len he20 (j := 0) rfl (by decide)
      have O := O.setR 0 rfl (congrArg (Res.row 3 1 (.slice (some ⟨b7, 0, none⟩) (((n : Int) : Int).toNat) (((n : Int) : Int).toNat)) (((n : Int) : Int).toNat)) hst)
      have O : Own w0 [] [.row 3 1 (.slice (some ⟨b7, 0, none⟩) (((n : Int) : Int).toNat) (((n : Int) : Int).toNat)) (((n : Int) : Int).toNat) ((es1.set (k : Int).toNat e18).flatMap encInt)] w := O
      refine c_nil (hK7 _ _ (?_))
      try clear hK7 K7
      refine c_region (sp F (p_move rfl) rfl rfl fun a F => sp F (p_add rfl rfl (by omega) (by omega)) rfl rfl fun a F => sp F (p_assign rfl) rfl rfl fun a F => c_nil (?_))
      try rw [← hp18] at F
      try rw [← hp18] at O
      have F : Has 22 [(0, .slice A n c), (2, .slice none 0 0), (3, .slice (some ⟨b7, 0, none⟩) (((n : Int) : Int).toNat) (((n : Int) : Int).toNat)), (4, .int .i64 (k + 1))] a := F.pick ⟨rfl, rfl, rfl, rfl, trivial⟩
      exact ⟨((n : Int) - (k + 1)).toNat, by omega, (k + 1), (es1.set (k : Int).toNat e18), rfl, F, O, by first | assumption | omega, by first | assumption | omega, by simp; omega, by exact sameTo_set hi0d hi0a he18 (by omega)⟩
    · have F := F.setB (d := 11) rfl (decide_eq_false c11)
      refine c_iff F rfl (wp_exit (e_then (e_then (e_here (hK3 _ _ (?_))))))
      try clear hK3 K3
      refine c_seq fun K7 hK7 => ?_
      obtain rfl : es = es1 := (same_ext hi0d (by omega) (by omega)).symm
      refine c_region (sp F (p_move rfl) rfl rfl fun a F => sp F (p_assign rfl) rfl rfl fun a F => c_nil (hK7 _ _ (?_)))
      try clear hK7 K7
      refine wp_ret (ret1 F rfl rfl (?_))
      exact ⟨b7, (((n : Int) : Int).toNat), rfl, by first | assumption | omega, O⟩

set_option maxRecDepth 100000 in
/-- laws.eqIntS -/
theorem eqIntS_ok (A : Option Addr) (n : Nat) (c : Nat) (es : List (Int)) (A2 : Option Addr) (n2 : Nat) (c2 : Nat) (es2 : List (Int)) (w0 : World) (hA : Arr w0 encInt 1 A es) (hn : (n : Int) = es.length) (hb : (n : Int) ≤ 1048600) (hA2 : Arr w0 encInt 1 A2 es2) (hn2 : (n2 : Int) = es2.length) (hb2 : (n2 : Int) ≤ 1048600) :
    Calls Try.prog 50 #[.slice A n c, .slice A2 n2 c2] w0 fun e w => e = .returned (.bool (decide (es = es2))) ∧ Own w0 [] [] w := by
  have O := Own.start w0
  refine enterO (n := 26) Try.func50 rfl rfl rfl O fun a w F O => ?_
  refine c_seq fun K1 hK1 => c_region (sp F (p_assign rfl) rfl rfl fun a F => c_nil (hK1 _ _ (?_)))
  try clear hK1 K1
  refine c_seq fun K2 hK2 => c_seq fun K3 hK3 => c_region (sp F (p_move rfl) rfl rfl fun a F => sp F (p_len_l rfl Try.underlying56) rfl rfl fun a F => sp F (p_move rfl) rfl rfl fun a F => sp F (p_len_l rfl Try.underlying56) rfl rfl fun a F => sp F (p_neq rfl rfl) rfl rfl fun a F => c_nil (hK3 _ _ (?_)))
  try clear hK3 K3
  by_cases c10 : (n : Int) = (n2 : Int)
  · have F := F.setB (d := 10) rfl (decide_eq_false (fun h => h c10))
    refine c_iff F rfl (wp_skip (hK2 _ _ (?_)))
    try clear hK2 K2
    refine c_seq fun K4 hK4 => c_seq fun K5 hK5 => c_region (sp F (p_assign rfl) rfl rfl fun a F => c_nil (hK5 _ _ (?_)))
    try clear hK5 K5
    refine wp_block (?_)
    refine c_loop (fun mm a w => ∃ (k : Int), mm = ((n : Int) - k).toNat ∧ Has 26 [(0, .slice A n c), (1, .slice A2 n2 c2), (10, .bool false), (5, .int .i64 (k))] a ∧ Own w0 [] [] w ∧ (0 ≤ k) ∧ (k ≤ n) ∧ (SameTo k es es2)) ?_ ?_
    · have F : Has 26 [(0, .slice A n c), (1, .slice A2 n2 c2), (10, .bool false), (5, .int .i64 (0))] a := F.pick ⟨rfl, rfl, rfl, rfl, trivial⟩
      exact ⟨((n : Int) - 0).toNat, 0, rfl, F, O, by first | assumption | omega, by first | assumption | omega, by exact sameTo_zero⟩
    · rintro mm a w ⟨k, rfl, F, O, hi0a, hi0b, hi0c⟩
      refine c_seq fun K6 hK6 => c_seq fun K7 hK7 => c_region (sp F (p_move rfl) rfl rfl fun a F => sp F (p_move rfl) rfl rfl fun a F => sp F (p_len_l rfl Try.underlying56) rfl rfl fun a F => sp F (p_lss rfl rfl) rfl rfl fun a F => c_nil (hK7 _ _ (?_)))
      try clear hK7 K7
      by_cases c14 : k < (n : Int)
      · have F := F.setB (d := 14) rfl (decide_eq_true c14)
        refine c_ift F rfl (wp_skip (hK6 _ _ (?_)))
        try clear hK6 K6
        refine c_seq fun K8 hK8 => wp_block (c_seq fun K9 hK9 => ?_)
        obtain ⟨b19, o19, hp19, hb19, hc19⟩ := Arr.out hA (by omega)
        have hA19 := hA; rw [hp19] at hA19 F
        obtain ⟨e19, he19⟩ := get_some (l := es) (i := k) (by omega) (by first | omega | (simp; omega))
        obtain ⟨b23, o23, hp23, hb23, hc23⟩ := Arr.out hA2 (by omega)
        have hA23 := hA2; rw [hp23] at hA23 F
        obtain ⟨e23, he23⟩ := get_some (l := es2) (i := k) (by omega) (by first | omega | (simp; omega))
        refine c_draw Try.mixed (SC [(b19, o19 + (k : Int).toNat * 1, .int .i64 (e19)), (b23, o23 + (k : Int).toNat * 1, .int .i64 (e23))]) [] _ (fun a w h => h) ?_
        have O := O.drawn (w.drawn + 1)
        generalize { w with drawn := w.drawn + 1 } = w at O ⊢
        have hS : SC [(b19, o19 + (k : Int).toNat * 1, .int .i64 (e19)), (b23, o23 + (k : Int).toNat * 1, .int .i64 (e23))] w := (SC.cons (((O.old hb19 (by simp)).trans (hc19 _ _ he19 0 _ rfl))) (SC.cons (((O.old hb23 (by simp)).trans (hc23 _ _ he23 0 _ rfl))) SC.nil))
        refine d_take 0 rfl (by kernel_rfl) F (p_move rfl) rfl rfl hS fun a F => d_take 1 rfl (by kernel_rfl) F (p_move rfl) rfl rfl hS fun a F => d_take 2 rfl (by kernel_rfl) F (p_iaddr rfl rfl Try.underlying56 Try.sz_3 (by omega) (by omega)) rfl rfl hS fun a F => d_take 3 rfl (by kernel_rfl) F (p_load rfl Try.agg_3 (fun _ h => (SC.get h 0 rfl))) rfl rfl hS fun a F => d_take 4 rfl (by kernel_rfl) F (p_move rfl) rfl rfl hS fun a F => d_take 5 rfl (by kernel_rfl) F (p_move rfl) rfl rfl hS fun a F => d_take 6 rfl (by kernel_rfl) F (p_iaddr rfl rfl Try.underlying56 Try.sz_3 (by omega) (by omega)) rfl rfl hS fun a F => d_take 7 rfl (by kernel_rfl) F (p_load rfl Try.agg_3 (fun _ h => (SC.get h 1 rfl))) rfl rfl hS fun a F => d_take 8 rfl (by kernel_rfl) F (p_neq rfl rfl) rfl rfl hS fun a F => d_done (by kernel_rfl) (hK9 _ _ (?_))
        try clear hK9 K9
        by_cases c25 : e19 = e23
        · have F := F.setB (d := 25) rfl (decide_eq_false (fun h => h c25))
          refine c_iff F rfl (wp_skip (hK8 _ _ (?_)))
          try clear hK8 K8
          refine c_region (sp F (p_move rfl) rfl rfl fun a F => sp F (p_add rfl rfl (by omega) (by omega)) rfl rfl fun a F => sp F (p_assign rfl) rfl rfl fun a F => c_nil (?_))
          try rw [← hp23] at F
          try rw [← hp23] at O
          try rw [← hp19] at F
          try rw [← hp19] at O
          have F : Has 26 [(0, .slice A n c), (1, .slice A2 n2 c2), (10, .bool false), (5, .int .i64 (k + 1))] a := F.pick ⟨rfl, rfl, rfl, rfl, trivial⟩
          exact ⟨((n : Int) - (k + 1)).toNat, by omega, (k + 1), rfl, F, O, by first | assumption | omega, by first | assumption | omega, by exact sameTo_step hi0c hi0a he19 he23 (by omega)⟩
        · have F := F.setB (d := 25) rfl (decide_eq_true c25)
          refine c_ift F rfl (c_seq fun K10 hK10 => c_region (sp F (p_assign rfl) rfl rfl fun a F => c_nil (hK10 _ _ (?_))))
          try clear hK10 K10
          refine wp_ret (r_block (r_then (r_then (r_block (r_then (ret1 F rfl rfl (?_)))))))
          exact ⟨congrArg Ending.returned (show Value.bool false = .bool (decide (es = es2)) from by exact vbf (fun h => by subst h; first | omega | (rw [he19] at he23; injection he23; omega))), O⟩
      · have F := F.setB (d := 14) rfl (decide_eq_false c14)
        refine c_iff F rfl (wp_exit (e_then (e_then (e_here (hK4 _ _ (?_))))))
        try clear hK4 K4
        refine c_seq fun K8 hK8 => c_region (sp F (p_assign rfl) rfl rfl fun a F => c_nil (hK8 _ _ (?_)))
        try clear hK8 K8
        refine wp_ret (ret1 F rfl rfl (?_))
        exact ⟨congrArg Ending.returned (show Value.bool true = .bool (decide (es = es2)) from by exact vbt (same_ext hi0c (by omega) (by omega))), O⟩
  · have F := F.setB (d := 10) rfl (decide_eq_true c10)
    refine c_ift F rfl (c_seq fun K4 hK4 => c_region (sp F (p_assign rfl) rfl rfl fun a F => c_nil (hK4 _ _ (?_))))
    try clear hK4 K4
    refine wp_ret (r_then (ret1 F rfl rfl (?_)))
    exact ⟨congrArg Ending.returned (show Value.bool false = .bool (decide (es = es2)) from by exact vbf (fun h => by subst h; first | omega | (rw [he19] at he23; injection he23; omega))), O⟩

set_option maxRecDepth 100000 in
/-- laws.szIntS -/
theorem szIntS_ok (A : Option Addr) (n : Nat) (c : Nat) (es : List (Int)) (left : Int) (w0 : World) (hA : Arr w0 encInt 1 A es) (hn : (n : Int) = es.length) (hb : (n : Int) ≤ 9223372036854775807) (h0 : 0 ≤ left) (h1 : left ≤ 1048576) :
    Calls Try.prog 48 #[.slice A n c, .int .i64 (left)] w0 fun e w => ∃ (q : Int), e = .returned (.int .i64 (q)) ∧ (q = -1 ∨ (0 ≤ q ∧ q = left - n)) ∧ Own w0 [] [] w := by
  have O := Own.start w0
  refine enterO (n := 12) Try.func48 rfl rfl rfl O fun a w F O => ?_
  refine c_seq fun K1 hK1 => c_region (sp F (p_assign rfl) rfl rfl fun a F => c_nil (hK1 _ _ (?_)))
  try clear hK1 K1
  refine c_seq fun K2 hK2 => c_region (sp F (p_move rfl) rfl rfl fun a F => sp F (p_move rfl) rfl rfl fun a F => sp F (p_len_l rfl Try.underlying56) rfl rfl fun a F => sp F (p_sub rfl rfl (by omega) (by omega)) rfl rfl fun a F => sp F (p_assign rfl) rfl rfl fun a F => c_nil (hK2 _ _ (?_)))
  try clear hK2 K2
  refine c_seq fun K3 hK3 => c_seq fun K4 hK4 => c_region (sp F (p_move rfl) rfl rfl fun a F => sp F (p_lss rfl rfl) rfl rfl fun a F => c_nil (hK4 _ _ (?_)))
  try clear hK4 K4
  by_cases c10 : (left - (n : Int)) < 0
  · have F := F.setB (d := 10) rfl (decide_eq_true c10)
    refine c_ift F rfl (c_seq fun K5 hK5 => c_region (sp F (p_assign rfl) rfl rfl fun a F => c_nil (hK5 _ _ (?_))))
    try clear hK5 K5
    refine wp_ret (r_then (ret1 F rfl rfl (?_)))
    exact ⟨(-1), congrArg Ending.returned (show Value.int .i64 (-1) = .int .i64 ((-1)) from by first | exact vint (by omega) | exact vint (by simp; done)), by first | assumption | omega, O⟩
  · have F := F.setB (d := 10) rfl (decide_eq_false c10)
    refine c_iff F rfl (wp_skip (hK3 _ _ (?_)))
    try clear hK3 K3
    refine c_seq fun K5 hK5 => c_region (sp F (p_move rfl) rfl rfl fun a F => sp F (p_assign rfl) rfl rfl fun a F => c_nil (hK5 _ _ (?_)))
    try clear hK5 K5
    refine wp_ret (ret1 F rfl rfl (?_))
    exact ⟨(left - (n : Int)), congrArg Ending.returned (show Value.int .i64 (left - (n : Int)) = .int .i64 ((left - (n : Int))) from by first | exact vint (by omega) | exact vint (by simp; done)), by first | assumption | omega, O⟩

set_option maxRecDepth 100000 in
/-- laws.szPackEntry -/
theorem szPackEntry_ok (u0 : Int) (AL : Option Addr) (nL : Nat) (cL : Nat) (esL : List (Int)) (u2 : Int) (AO : Option Addr) (nO : Nat) (cO : Nat) (esO : List (Int × Int × List UInt8)) (left : Int) (w0 : World) (hAL : Arr w0 encInt 1 AL esL) (hnL : (nL : Int) = esL.length) (hbL : (nL : Int) ≤ 9223372036854775807) (hAO : Arr w0 encOp 3 AO esO) (hnO : (nO : Int) = esO.length) (hbO : (nO : Int) ≤ 9223372036854775807) (ht : ∀ o ∈ esO, (o.2.2.length : Int) ≤ 9223372036854775807) (h0 : 0 ≤ left) (h1 : left ≤ 1048576) :
    Calls Try.prog 35 #[.agg #[.int .i64 (u0), .slice AL nL cL, .int .i64 (u2), .slice AO nO cO], .int .i64 (left)] w0 fun e w => ∃ (q : Int), e = .returned (.int .i64 (q)) ∧ (q = -1 ∨ (0 ≤ q ∧ q ≤ left ∧ (nL : Int) ≤ 1048576 ∧ (nO : Int) ≤ 1048576)) ∧ Own w0 [] [] w := by
  have O := Own.start w0
  have htn := tsz_nonneg esO
  refine enterO (n := 18) Try.func35 rfl rfl rfl O fun a w F O => ?_
  refine c_seq fun K1 hK1 => c_region (so F rfl (o_box F O rfl rfl fun b2 w O a F => ?_))
  have O : Own w0 [] [.cells b2 [.int .i64 (u0), .slice AL nL cL, .int .i64 (u2), .slice AO nO cO] 58] w := O
  refine sp F (p_assign rfl) rfl rfl fun a F => c_nil (hK1 _ _ (?_))
  try clear hK1 K1
  refine c_seq fun K2 hK2 => c_region (sp F (p_faddr rfl Try.foff_58_1) rfl rfl fun a F => sp F (p_load rfl Try.agg_56 (fun _ h => (ld1 (O.load 0 rfl rfl) h))) rfl rfl fun a F => sp F (p_move rfl) rfl rfl fun a F => so F rfl (o_call (vs := #[.slice AL nL cL, .int .i64 (left)]) F Try.en_48 rfl rfl ((szIntS_ok AL nL cL esL left w (hAL.keep O) (by first | omega | (simp; done) | (simp; omega) | (simp at *; omega)) (by omega) (by omega) (by omega)).mono ?_)))
  rintro e w ⟨q8, rfl, h8a, K⟩
  refine ⟨_, rfl, fun a F => ?_⟩
  have O : Own w0 [] [.cells b2 [.int .i64 (u0), .slice AL nL cL, .int .i64 (u2), .slice AO nO cO] 58] w := O.call0 K
  clear K
  have O : Own w0 [] [.cells b2 [.int .i64 (u0), .slice AL nL cL, .int .i64 (u2), .slice AO nO cO] 58] w := O
  refine sp F (p_assign rfl) rfl rfl fun a F => c_nil (hK2 _ _ (?_))
  try clear hK2 K2
  refine c_seq fun K3 hK3 => c_seq fun K4 hK4 => c_region (sp F (p_move rfl) rfl rfl fun a F => sp F (p_lss rfl rfl) rfl rfl fun a F => c_nil (hK4 _ _ (?_)))
  try clear hK4 K4
  by_cases c10 : q8 < 0
  · have F := F.setB (d := 10) rfl (decide_eq_true c10)
    refine c_ift F rfl (c_seq fun K5 hK5 => c_region (sp F (p_assign rfl) rfl rfl fun a F => c_nil (hK5 _ _ (?_))))
    try clear hK5 K5
    refine wp_ret (r_then (ret1 F rfl rfl (?_)))
    have O : Own w0 [] [] w := (O.take 0)
    exact ⟨(-1), congrArg Ending.returned (show Value.int .i64 (-1) = .int .i64 ((-1)) from by first | exact vint (by omega) | exact vint (by simp; done)), by first | assumption | omega, O⟩
  · have F := F.setB (d := 10) rfl (decide_eq_false c10)
    refine c_iff F rfl (wp_skip (hK3 _ _ (?_)))
    try clear hK3 K3
    refine c_seq fun K5 hK5 => c_region (sp F (p_faddr rfl Try.foff_58_3) rfl rfl fun a F => sp F (p_load rfl Try.agg_27 (fun _ h => (ld1 (O.load 0 rfl rfl) h))) rfl rfl fun a F => sp F (p_move rfl) rfl rfl fun a F => so F rfl (o_call (vs := #[.slice AO nO cO, .int .i64 (q8)]) F Try.en_15 rfl rfl ((szOpS_ok AO nO cO esO q8 w (hAO.keep O) (by first | omega | (simp; done) | (simp; omega) | (simp at *; omega)) (by omega) (by assumption) (by omega) (by omega)).mono ?_)))
    rintro e w ⟨q14, rfl, h14a, K⟩
    refine ⟨_, rfl, fun a F => ?_⟩
    have O : Own w0 [] [.cells b2 [.int .i64 (u0), .slice AL nL cL, .int .i64 (u2), .slice AO nO cO] 58] w := O.call0 K
    clear K
    have O : Own w0 [] [.cells b2 [.int .i64 (u0), .slice AL nL cL, .int .i64 (u2), .slice AO nO cO] 58] w := O
    refine sp F (p_assign rfl) rfl rfl fun a F => c_nil (hK5 _ _ (?_))
    try clear hK5 K5
    refine c_seq fun K6 hK6 => c_seq fun K7 hK7 => c_region (sp F (p_move rfl) rfl rfl fun a F => sp F (p_lss rfl rfl) rfl rfl fun a F => c_nil (hK7 _ _ (?_)))
    try clear hK7 K7
    by_cases c16 : q14 < 0
    · have F := F.setB (d := 16) rfl (decide_eq_true c16)
      refine c_ift F rfl (c_seq fun K8 hK8 => c_region (sp F (p_assign rfl) rfl rfl fun a F => c_nil (hK8 _ _ (?_))))
      try clear hK8 K8
      refine wp_ret (r_then (ret1 F rfl rfl (?_)))
      have O : Own w0 [] [] w := (O.take 0)
      exact ⟨(-1), congrArg Ending.returned (show Value.int .i64 (-1) = .int .i64 ((-1)) from by first | exact vint (by omega) | exact vint (by simp; done)), by first | assumption | omega, O⟩
    · have F := F.setB (d := 16) rfl (decide_eq_false c16)
      refine c_iff F rfl (wp_skip (hK6 _ _ (?_)))
      try clear hK6 K6
      refine c_seq fun K8 hK8 => c_region (sp F (p_move rfl) rfl rfl fun a F => sp F (p_assign rfl) rfl rfl fun a F => c_nil (hK8 _ _ (?_)))
      try clear hK8 K8
      refine wp_ret (ret1 F rfl rfl (?_))
      have O : Own w0 [] [] w := (O.take 0)
      exact ⟨q14, rfl, by first | assumption | omega, O⟩

set_option maxRecDepth 100000 in
/-- laws.szPackEntryS -/
theorem szPackEntryS_ok (A : Option Addr) (n : Nat) (c : Nat) (es : List (Ent)) (L : List PE) (left : Int) (w0 : World) (hA : Arr w0 encEnt 4 A es) (hn : (n : Int) = es.length) (hb : (n : Int) ≤ 9223372036854775807) (hE : Ents w0 es L) (hB : BndL L) (h0 : 0 ≤ left) (h1 : left ≤ 1048576) :
    Calls Try.prog 18 #[.slice A n c, .int .i64 (left)] w0 fun e w => ∃ (q : Int), e = .returned (.int .i64 (q)) ∧ (q = -1 ∨ ((0 ≤ q ∧ (n : Int) ≤ 1048576) ∧ SmallL L)) ∧ Own w0 [] [] w := by
  have O := Own.start w0
  refine enterO (n := 27) Try.func18 rfl rfl rfl O fun a w F O => ?_
  refine c_seq fun K1 hK1 => c_region (sp F (p_assign rfl) rfl rfl fun a F => c_nil (hK1 _ _ (?_)))
  try clear hK1 K1
  refine c_seq fun K2 hK2 => c_region (sp F (p_move rfl) rfl rfl fun a F => sp F (p_move rfl) rfl rfl fun a F => sp F (p_len_l rfl Try.underlying32) rfl rfl fun a F => sp F (p_sub rfl rfl (by omega) (by omega)) rfl rfl fun a F => sp F (p_assign rfl) rfl rfl fun a F => c_nil (hK2 _ _ (?_)))
  try clear hK2 K2
  refine c_seq fun K3 hK3 => c_seq fun K4 hK4 => c_region (sp F (p_move rfl) rfl rfl fun a F => sp F (p_lss rfl rfl) rfl rfl fun a F => c_nil (hK4 _ _ (?_)))
  try clear hK4 K4
  by_cases c11 : (left - (n : Int)) < 0
  · have F := F.setB (d := 11) rfl (decide_eq_true c11)
    refine c_ift F rfl (c_seq fun K5 hK5 => c_region (sp F (p_assign rfl) rfl rfl fun a F => c_nil (hK5 _ _ (?_))))
    try clear hK5 K5
    refine wp_ret (r_then (ret1 F rfl rfl (?_)))
    exact ⟨(-1), congrArg Ending.returned (show Value.int .i64 (-1) = .int .i64 ((-1)) from by first | exact vint (by omega) | exact vint (by simp; done)), by first | exact .inl rfl | exact .inr ⟨⟨by omega, by omega⟩, smallTo_all hi0e (by have := hE.1; omega)⟩ | omega, O⟩
  · have F := F.setB (d := 11) rfl (decide_eq_false c11)
    refine c_iff F rfl (wp_skip (hK3 _ _ (?_)))
    try clear hK3 K3
    refine c_seq fun K5 hK5 => c_seq fun K6 hK6 => c_region (sp F (p_assign rfl) rfl rfl fun a F => c_nil (hK6 _ _ (?_)))
    try clear hK6 K6
    refine wp_block (?_)
    refine c_loop (fun mm a w => ∃ (k : Int), ∃ (m : Int), mm = ((n : Int) - k).toNat ∧ Has 27 [(0, .slice A n c), (11, .bool false), (5, .int .i64 (k)), (1, .int .i64 (m))] a ∧ Own w0 [] [] w ∧ (0 ≤ k) ∧ (k ≤ n) ∧ (0 ≤ m) ∧ (m ≤ 1048576) ∧ (SmallTo L k)) ?_ ?_
    · have F : Has 27 [(0, .slice A n c), (11, .bool false), (5, .int .i64 (0)), (1, .int .i64 (left - (n : Int)))] a := F.pick ⟨rfl, rfl, rfl, rfl, trivial⟩
      exact ⟨((n : Int) - 0).toNat, 0, (left - (n : Int)), rfl, F, O, by first | assumption | omega, by first | assumption | omega, by first | assumption | omega, by first | assumption | omega, by exact smallTo_zero⟩
    · rintro mm a w ⟨k, m, rfl, F, O, hi0a, hi0b, hi0c, hi0d, hi0e⟩
      refine c_seq fun K7 hK7 => c_seq fun K8 hK8 => c_region (sp F (p_move rfl) rfl rfl fun a F => sp F (p_move rfl) rfl rfl fun a F => sp F (p_len_l rfl Try.underlying32) rfl rfl fun a F => sp F (p_lss rfl rfl) rfl rfl fun a F => c_nil (hK8 _ _ (?_)))
      try clear hK8 K8
      by_cases c15 : k < (n : Int)
      · have F := F.setB (d := 15) rfl (decide_eq_true c15)
        refine c_ift F rfl (wp_skip (hK7 _ _ (?_)))
        try clear hK7 K7
        refine c_seq fun K9 hK9 => wp_block (c_seq fun K10 hK10 => c_region (sp F (p_move rfl) rfl rfl fun a F => sp F (p_move rfl) rfl rfl fun a F => ?_))
        obtain ⟨b20, o20, hp20, hb20, hc20⟩ := Arr.out hA (by omega)
        have hA20 := hA; rw [hp20] at hA20 F
        obtain ⟨e20, he20⟩ := get_some (l := es) (i := k) (by omega) (by first | omega | (simp; omega))
        obtain ⟨pe20, hq20, ⟨⟨hr20a, hr20b⟩, hr20c, hr20d⟩, hl20, ho20⟩ := hE.at he20
        obtain ⟨hb20a, hb20b, hb20c⟩ := hB _ (List.mem_of_getElem? hq20)
        refine sp F (p_iaddr rfl rfl Try.underlying32 Try.sz_58 (by omega) (by omega)) rfl rfl fun a F => sp F (p_loadC (cs := [.int .i64 (e20.1), .slice e20.2.1.1 e20.2.1.2.1 e20.2.1.2.2, .int .i64 (e20.2.2.1), .slice e20.2.2.2.1 e20.2.2.2.2.1 e20.2.2.2.2.2]) rfl Try.agg_58 Try.sz_58 (fun _ h => (CA.cons (ld1 (((O.old hb20 (by simp)).trans (hc20 _ _ he20 0 _ rfl))) h) (CA.cons (ld1 (((O.old hb20 (by simp)).trans (hc20 _ _ he20 1 _ rfl))) h) (CA.cons (ld1 (((O.old hb20 (by simp)).trans (hc20 _ _ he20 2 _ rfl))) h) (CA.cons (ld1 (((O.old hb20 (by simp)).trans (hc20 _ _ he20 3 _ rfl))) h) CA.nil)))))) rfl rfl fun a F => sp F (p_move rfl) rfl rfl fun a F => so F rfl (o_call (vs := #[.agg #[.int .i64 (e20.1), .slice e20.2.1.1 e20.2.1.2.1 e20.2.1.2.2, .int .i64 (e20.2.2.1), .slice e20.2.2.2.1 e20.2.2.2.2.1 e20.2.2.2.2.2], .int .i64 (m)]) F Try.en_35 rfl rfl ((szPackEntry_ok e20.1 e20.2.1.1 e20.2.1.2.1 e20.2.1.2.2 pe20.2.1 e20.2.2.1 e20.2.2.2.1 e20.2.2.2.2.1 e20.2.2.2.2.2 pe20.2.2.2 m w (hl20.keep O) (by first | omega | (simp; done) | (simp; omega) | (simp at *; omega)) (by omega) (ho20.keep O) (by first | omega | (simp; done) | (simp; omega) | (simp at *; omega)) (by omega) (by assumption) (by omega) (by omega)).mono ?_))
        rintro e w ⟨q23, rfl, h23a, K⟩
        refine ⟨_, rfl, fun a F => ?_⟩
        have O : Own w0 [] [] w := O.call0 K
        clear K
        have O : Own w0 [] [] w := O
        refine sp F (p_assign rfl) rfl rfl fun a F => c_nil (hK10 _ _ (?_))
        try clear hK10 K10
        refine c_seq fun K11 hK11 => c_region (sp F (p_move rfl) rfl rfl fun a F => sp F (p_lss rfl rfl) rfl rfl fun a F => c_nil (hK11 _ _ (?_)))
        try clear hK11 K11
        by_cases c25 : q23 < 0
        · have F := F.setB (d := 25) rfl (decide_eq_true c25)
          refine c_ift F rfl (c_seq fun K12 hK12 => c_region (sp F (p_assign rfl) rfl rfl fun a F => c_nil (hK12 _ _ (?_))))
          try clear hK12 K12
          refine wp_ret (r_block (r_then (r_then (r_block (r_then (ret1 F rfl rfl (?_)))))))
          exact ⟨(-1), congrArg Ending.returned (show Value.int .i64 (-1) = .int .i64 ((-1)) from by first | exact vint (by omega) | exact vint (by simp; done)), by first | exact .inl rfl | exact .inr ⟨⟨by omega, by omega⟩, smallTo_all hi0e (by have := hE.1; omega)⟩ | omega, O⟩
        · have F := F.setB (d := 25) rfl (decide_eq_false c25)
          refine c_iff F rfl (wp_skip (hK9 _ _ (?_)))
          try clear hK9 K9
          refine c_region (sp F (p_move rfl) rfl rfl fun a F => sp F (p_add rfl rfl (by omega) (by omega)) rfl rfl fun a F => sp F (p_assign rfl) rfl rfl fun a F => c_nil (?_))
          try rw [← hp20] at F
          try rw [← hp20] at O
          have F : Has 27 [(0, .slice A n c), (11, .bool false), (5, .int .i64 (k + 1)), (1, .int .i64 (q23))] a := F.pick ⟨rfl, rfl, rfl, rfl, trivial⟩
          exact ⟨((n : Int) - (k + 1)).toNat, by omega, (k + 1), q23, rfl, F, O, by first | assumption | omega, by first | assumption | omega, by first | assumption | omega, by first | assumption | omega, by exact smallTo_step hi0e hi0a hq20 (by omega) (by omega)⟩
      · have F := F.setB (d := 15) rfl (decide_eq_false c15)
        refine c_iff F rfl (wp_exit (e_then (e_then (e_here (hK5 _ _ (?_))))))
        try clear hK5 K5
        refine c_seq fun K9 hK9 => c_region (sp F (p_move rfl) rfl rfl fun a F => sp F (p_assign rfl) rfl rfl fun a F => c_nil (hK9 _ _ (?_)))
        try clear hK9 K9
        refine wp_ret (ret1 F rfl rfl (?_))
        exact ⟨m, rfl, by first | exact .inl rfl | exact .inr ⟨⟨by omega, by omega⟩, smallTo_all hi0e (by have := hE.1; omega)⟩ | omega, O⟩

set_option maxRecDepth 100000 in
/-- laws.eqPackEntry -/
theorem eqPackEntry_ok (u0 : Int) (AL : Option Addr) (nL : Nat) (cL : Nat) (esL : List (Int)) (u2 : Int) (AO : Option Addr) (nO : Nat) (cO : Nat) (esO : List (Int × Int × List UInt8)) (v0 : Int) (AL2 : Option Addr) (nL2 : Nat) (cL2 : Nat) (esL2 : List (Int)) (v2 : Int) (AO2 : Option Addr) (nO2 : Nat) (cO2 : Nat) (esO2 : List (Int × Int × List UInt8)) (w0 : World) (hAL : Arr w0 encInt 1 AL esL) (hnL : (nL : Int) = esL.length) (hbL : (nL : Int) ≤ 1048600) (hAO : Arr w0 encOp 3 AO esO) (hnO : (nO : Int) = esO.length) (hbO : (nO : Int) ≤ 1048600) (hAL2 : Arr w0 encInt 1 AL2 esL2) (hnL2 : (nL2 : Int) = esL2.length) (hbL2 : (nL2 : Int) ≤ 1048600) (hAO2 : Arr w0 encOp 3 AO2 esO2) (hnO2 : (nO2 : Int) = esO2.length) (hbO2 : (nO2 : Int) ≤ 1048600) :
    Calls Try.prog 42 #[.agg #[.int .i64 (u0), .slice AL nL cL, .int .i64 (u2), .slice AO nO cO], .agg #[.int .i64 (v0), .slice AL2 nL2 cL2, .int .i64 (v2), .slice AO2 nO2 cO2]] w0 fun e w => e = .returned (.bool (decide (u0 = v0 ∧ esL = esL2 ∧ u2 = v2 ∧ esO = esO2))) ∧ Own w0 [] [] w := by
  have O := Own.start w0
  refine enterO (n := 27) Try.func42 rfl rfl rfl O fun a w F O => ?_
  refine c_seq fun K1 hK1 => c_region (so F rfl (o_box F O rfl rfl fun b2 w O a F => ?_))
  have O : Own w0 [] [.cells b2 [.int .i64 (u0), .slice AL nL cL, .int .i64 (u2), .slice AO nO cO] 61] w := O
  refine so F rfl (o_box F O rfl rfl fun b3 w O a F => ?_)
  have O : Own w0 [] [.cells b3 [.int .i64 (v0), .slice AL2 nL2 cL2, .int .i64 (v2), .slice AO2 nO2 cO2] 61, .cells b2 [.int .i64 (u0), .slice AL nL cL, .int .i64 (u2), .slice AO nO cO] 61] w := O
  refine sp F (p_assign rfl) rfl rfl fun a F => c_nil (hK1 _ _ (?_))
  try clear hK1 K1
  refine c_seq fun K2 hK2 => c_seq fun K3 hK3 => c_region (sp F (p_faddr rfl Try.foff_61_0) rfl rfl fun a F => sp F (p_load rfl Try.agg_3 (fun _ h => (ld1 (O.load 1 rfl rfl) h))) rfl rfl fun a F => sp F (p_faddr rfl Try.foff_61_0) rfl rfl fun a F => sp F (p_load rfl Try.agg_3 (fun _ h => (ld1 (O.load 0 rfl rfl) h))) rfl rfl fun a F => sp F (p_neq rfl rfl) rfl rfl fun a F => c_nil (hK3 _ _ (?_)))
  try clear hK3 K3
  by_cases c9 : u0 = v0
  · have F := F.setB (d := 9) rfl (decide_eq_false (fun h => h c9))
    refine c_iff F rfl (wp_skip (hK2 _ _ (?_)))
    try clear hK2 K2
    refine c_seq fun K4 hK4 => c_seq fun K5 hK5 => c_region (sp F (p_faddr rfl Try.foff_61_1) rfl rfl fun a F => sp F (p_load rfl Try.agg_56 (fun _ h => (ld1 (O.load 1 rfl rfl) h))) rfl rfl fun a F => sp F (p_faddr rfl Try.foff_61_1) rfl rfl fun a F => sp F (p_load rfl Try.agg_56 (fun _ h => (ld1 (O.load 0 rfl rfl) h))) rfl rfl fun a F => so F rfl (o_call (vs := #[.slice AL nL cL, .slice AL2 nL2 cL2]) F Try.en_50 rfl rfl ((eqIntS_ok AL nL cL esL AL2 nL2 cL2 esL2 w (hAL.keep O) (by first | omega | (simp; done) | (simp; omega) | (simp at *; omega)) (by omega) (hAL2.keep O) (by first | omega | (simp; done) | (simp; omega) | (simp at *; omega)) (by omega)).mono ?_)))
    rintro e w ⟨rfl, K⟩
    refine ⟨_, rfl, fun a F => ?_⟩
    have O : Own w0 [] [.cells b3 [.int .i64 (v0), .slice AL2 nL2 cL2, .int .i64 (v2), .slice AO2 nO2 cO2] 61, .cells b2 [.int .i64 (u0), .slice AL nL cL, .int .i64 (u2), .slice AO nO cO] 61] w := O.call0 K
    clear K
    have O : Own w0 [] [.cells b3 [.int .i64 (v0), .slice AL2 nL2 cL2, .int .i64 (v2), .slice AO2 nO2 cO2] 61, .cells b2 [.int .i64 (u0), .slice AL nL cL, .int .i64 (u2), .slice AO nO cO] 61] w := O
    by_cases c14 : esL = esL2
    · have F := F.setB (d := 14) rfl (decide_eq_true c14)
      refine sp F (p_not rfl) rfl rfl fun a F => c_nil (hK5 _ _ (?_))
      try clear hK5 K5
      refine c_iff F rfl (wp_skip (hK4 _ _ (?_)))
      try clear hK4 K4
      refine c_seq fun K6 hK6 => c_seq fun K7 hK7 => c_region (sp F (p_faddr rfl Try.foff_61_2) rfl rfl fun a F => sp F (p_load rfl Try.agg_3 (fun _ h => (ld1 (O.load 1 rfl rfl) h))) rfl rfl fun a F => sp F (p_faddr rfl Try.foff_61_2) rfl rfl fun a F => sp F (p_load rfl Try.agg_3 (fun _ h => (ld1 (O.load 0 rfl rfl) h))) rfl rfl fun a F => sp F (p_neq rfl rfl) rfl rfl fun a F => c_nil (hK7 _ _ (?_)))
      try clear hK7 K7
      by_cases c20 : u2 = v2
      · have F := F.setB (d := 20) rfl (decide_eq_false (fun h => h c20))
        refine c_iff F rfl (wp_skip (hK6 _ _ (?_)))
        try clear hK6 K6
        refine c_seq fun K8 hK8 => c_seq fun K9 hK9 => c_region (sp F (p_faddr rfl Try.foff_61_3) rfl rfl fun a F => sp F (p_load rfl Try.agg_23 (fun _ h => (ld1 (O.load 1 rfl rfl) h))) rfl rfl fun a F => sp F (p_faddr rfl Try.foff_61_3) rfl rfl fun a F => sp F (p_load rfl Try.agg_23 (fun _ h => (ld1 (O.load 0 rfl rfl) h))) rfl rfl fun a F => so F rfl (o_call (vs := #[.slice AO nO cO, .slice AO2 nO2 cO2]) F Try.en_17 rfl rfl ((eqOpS_ok AO nO cO esO AO2 nO2 cO2 esO2 w (hAO.keep O) (by first | omega | (simp; done) | (simp; omega) | (simp at *; omega)) (by omega) (hAO2.keep O) (by first | omega | (simp; done) | (simp; omega) | (simp at *; omega)) (by omega)).mono ?_)))
        rintro e w ⟨rfl, K⟩
        refine ⟨_, rfl, fun a F => ?_⟩
        have O : Own w0 [] [.cells b3 [.int .i64 (v0), .slice AL2 nL2 cL2, .int .i64 (v2), .slice AO2 nO2 cO2] 61, .cells b2 [.int .i64 (u0), .slice AL nL cL, .int .i64 (u2), .slice AO nO cO] 61] w := O.call0 K
        clear K
        have O : Own w0 [] [.cells b3 [.int .i64 (v0), .slice AL2 nL2 cL2, .int .i64 (v2), .slice AO2 nO2 cO2] 61, .cells b2 [.int .i64 (u0), .slice AL nL cL, .int .i64 (u2), .slice AO nO cO] 61] w := O
        by_cases c25 : esO = esO2
        · have F := F.setB (d := 25) rfl (decide_eq_true c25)
          refine sp F (p_not rfl) rfl rfl fun a F => c_nil (hK9 _ _ (?_))
          try clear hK9 K9
          refine c_iff F rfl (wp_skip (hK8 _ _ (?_)))
          try clear hK8 K8
          refine c_seq fun K10 hK10 => c_region (sp F (p_assign rfl) rfl rfl fun a F => c_nil (hK10 _ _ (?_)))
          try clear hK10 K10
          refine wp_ret (ret1 F rfl rfl (?_))
          have O : Own w0 [] [] w := (O.take 0)
          exact ⟨congrArg Ending.returned (show Value.bool true = .bool (decide (u0 = v0 ∧ esL = esL2 ∧ u2 = v2 ∧ esO = esO2)) from by exact vbt ⟨by omega, c14, by omega, c25⟩), O⟩
        · have F := F.setB (d := 25) rfl (decide_eq_false c25)
          refine sp F (p_not rfl) rfl rfl fun a F => c_nil (hK9 _ _ (?_))
          try clear hK9 K9
          refine c_ift F rfl (c_seq fun K10 hK10 => c_region (sp F (p_assign rfl) rfl rfl fun a F => c_nil (hK10 _ _ (?_))))
          try clear hK10 K10
          refine wp_ret (r_then (ret1 F rfl rfl (?_)))
          have O : Own w0 [] [] w := (O.take 0)
          exact ⟨congrArg Ending.returned (show Value.bool false = .bool (decide (u0 = v0 ∧ esL = esL2 ∧ u2 = v2 ∧ esO = esO2)) from by exact vbf (fun h => by first | (have := h.1; omega) | (have := h.2.2.1; omega) | exact c14 h.2.1 | exact c25 h.2.2.2)), O⟩
      · have F := F.setB (d := 20) rfl (decide_eq_true c20)
        refine c_ift F rfl (c_seq fun K8 hK8 => c_region (sp F (p_assign rfl) rfl rfl fun a F => c_nil (hK8 _ _ (?_))))
        try clear hK8 K8
        refine wp_ret (r_then (ret1 F rfl rfl (?_)))
        have O : Own w0 [] [] w := (O.take 0)
        exact ⟨congrArg Ending.returned (show Value.bool false = .bool (decide (u0 = v0 ∧ esL = esL2 ∧ u2 = v2 ∧ esO = esO2)) from by exact vbf (fun h => by first | (have := h.1; omega) | (have := h.2.2.1; omega) | exact c14 h.2.1 | exact c25 h.2.2.2)), O⟩
    · have F := F.setB (d := 14) rfl (decide_eq_false c14)
      refine sp F (p_not rfl) rfl rfl fun a F => c_nil (hK5 _ _ (?_))
      try clear hK5 K5
      refine c_ift F rfl (c_seq fun K6 hK6 => c_region (sp F (p_assign rfl) rfl rfl fun a F => c_nil (hK6 _ _ (?_))))
      try clear hK6 K6
      refine wp_ret (r_then (ret1 F rfl rfl (?_)))
      have O : Own w0 [] [] w := (O.take 0)
      exact ⟨congrArg Ending.returned (show Value.bool false = .bool (decide (u0 = v0 ∧ esL = esL2 ∧ u2 = v2 ∧ esO = esO2)) from by exact vbf (fun h => by first | (have := h.1; omega) | (have := h.2.2.1; omega) | exact c14 h.2.1 | exact c25 h.2.2.2)), O⟩
  · have F := F.setB (d := 9) rfl (decide_eq_true c9)
    refine c_ift F rfl (c_seq fun K4 hK4 => c_region (sp F (p_assign rfl) rfl rfl fun a F => c_nil (hK4 _ _ (?_))))
    try clear hK4 K4
    refine wp_ret (r_then (ret1 F rfl rfl (?_)))
    have O : Own w0 [] [] w := (O.take 0)
    exact ⟨congrArg Ending.returned (show Value.bool false = .bool (decide (u0 = v0 ∧ esL = esL2 ∧ u2 = v2 ∧ esO = esO2)) from by exact vbf (fun h => by first | (have := h.1; omega) | (have := h.2.2.1; omega) | exact c14 h.2.1 | exact c25 h.2.2.2)), O⟩

set_option maxRecDepth 100000 in
/-- laws.eqPackEntryS -/
theorem eqPackEntryS_ok (A : Option Addr) (n : Nat) (c : Nat) (es : List (Ent)) (A2 : Option Addr) (n2 : Nat) (c2 : Nat) (es2 : List (Ent)) (L : List PE) (L2 : List PE) (w0 : World) (hA : Arr w0 encEnt 4 A es) (hn : (n : Int) = es.length) (hb : (n : Int) ≤ 1048600) (hA2 : Arr w0 encEnt 4 A2 es2) (hn2 : (n2 : Int) = es2.length) (hb2 : (n2 : Int) ≤ 1048600) (hE : Ents w0 es L) (hE2 : Ents w0 es2 L2) (hS : SmallL L) (hS2 : SmallL L2) :
    Calls Try.prog 22 #[.slice A n c, .slice A2 n2 c2] w0 fun e w => e = .returned (.bool (decide (L = L2))) ∧ Own w0 [] [] w := by
  have O := Own.start w0
  have hEl := hE.1
  have hEl2 := hE2.1
  refine enterO (n := 27) Try.func22 rfl rfl rfl O fun a w F O => ?_
  refine c_seq fun K1 hK1 => c_region (sp F (p_assign rfl) rfl rfl fun a F => c_nil (hK1 _ _ (?_)))
  try clear hK1 K1
  refine c_seq fun K2 hK2 => c_seq fun K3 hK3 => c_region (sp F (p_move rfl) rfl rfl fun a F => sp F (p_len_l rfl Try.underlying35) rfl rfl fun a F => sp F (p_move rfl) rfl rfl fun a F => sp F (p_len_l rfl Try.underlying35) rfl rfl fun a F => sp F (p_neq rfl rfl) rfl rfl fun a F => c_nil (hK3 _ _ (?_)))
  try clear hK3 K3
  by_cases c10 : (n : Int) = (n2 : Int)
  · have F := F.setB (d := 10) rfl (decide_eq_false (fun h => h c10))
    refine c_iff F rfl (wp_skip (hK2 _ _ (?_)))
    try clear hK2 K2
    refine c_seq fun K4 hK4 => c_seq fun K5 hK5 => c_region (sp F (p_assign rfl) rfl rfl fun a F => c_nil (hK5 _ _ (?_)))
    try clear hK5 K5
    refine wp_block (?_)
    refine c_loop (fun mm a w => ∃ (k : Int), mm = ((n : Int) - k).toNat ∧ Has 27 [(0, .slice A n c), (1, .slice A2 n2 c2), (10, .bool false), (5, .int .i64 (k))] a ∧ Own w0 [] [] w ∧ (0 ≤ k) ∧ (k ≤ n) ∧ (SameTo k L L2)) ?_ ?_
    · have F : Has 27 [(0, .slice A n c), (1, .slice A2 n2 c2), (10, .bool false), (5, .int .i64 (0))] a := F.pick ⟨rfl, rfl, rfl, rfl, trivial⟩
      exact ⟨((n : Int) - 0).toNat, 0, rfl, F, O, by first | assumption | omega, by first | assumption | omega, by exact sameTo_zero⟩
    · rintro mm a w ⟨k, rfl, F, O, hi0a, hi0b, hi0c⟩
      refine c_seq fun K6 hK6 => c_seq fun K7 hK7 => c_region (sp F (p_move rfl) rfl rfl fun a F => sp F (p_move rfl) rfl rfl fun a F => sp F (p_len_l rfl Try.underlying35) rfl rfl fun a F => sp F (p_lss rfl rfl) rfl rfl fun a F => c_nil (hK7 _ _ (?_)))
      try clear hK7 K7
      by_cases c14 : k < (n : Int)
      · have F := F.setB (d := 14) rfl (decide_eq_true c14)
        refine c_ift F rfl (wp_skip (hK6 _ _ (?_)))
        try clear hK6 K6
        refine c_seq fun K8 hK8 => wp_block (c_seq fun K9 hK9 => ?_)
        obtain ⟨b19, o19, hp19, hb19, hc19⟩ := Arr.out hA (by omega)
        have hA19 := hA; rw [hp19] at hA19 F
        obtain ⟨e19, he19⟩ := get_some (l := es) (i := k) (by omega) (by first | omega | (simp; omega))
        obtain ⟨pe19, hq19, ⟨⟨hr19a, hr19b⟩, hr19c, hr19d⟩, hl19, ho19⟩ := hE.at he19
        have hs19 := hS _ _ hq19
        obtain ⟨b23, o23, hp23, hb23, hc23⟩ := Arr.out hA2 (by omega)
        have hA23 := hA2; rw [hp23] at hA23 F
        obtain ⟨e23, he23⟩ := get_some (l := es2) (i := k) (by omega) (by first | omega | (simp; omega))
        obtain ⟨pe23, hq23, ⟨⟨hr23a, hr23b⟩, hr23c, hr23d⟩, hl23, ho23⟩ := hE2.at he23
        have hs23 := hS2 _ _ hq23
        by_cases cc1 : e19.1 = e23.1 ∧ pe19.2.1 = pe23.2.1 ∧ e19.2.2.1 = e23.2.2.1 ∧ pe19.2.2.2 = pe23.2.2.2
        · refine c_draw Try.mixed (SC [(b19, o19 + (k : Int).toNat * 4, .int .i64 (e19.1)), (b19, o19 + (k : Int).toNat * 4 + 1, .slice e19.2.1.1 e19.2.1.2.1 e19.2.1.2.2), (b19, o19 + (k : Int).toNat * 4 + 2, .int .i64 (e19.2.2.1)), (b19, o19 + (k : Int).toNat * 4 + 3, .slice e19.2.2.2.1 e19.2.2.2.2.1 e19.2.2.2.2.2), (b23, o23 + (k : Int).toNat * 4, .int .i64 (e23.1)), (b23, o23 + (k : Int).toNat * 4 + 1, .slice e23.2.1.1 e23.2.1.2.1 e23.2.1.2.2), (b23, o23 + (k : Int).toNat * 4 + 2, .int .i64 (e23.2.2.1)), (b23, o23 + (k : Int).toNat * 4 + 3, .slice e23.2.2.2.1 e23.2.2.2.2.1 e23.2.2.2.2.2)]) [] _ (fun a w h => h) ?_
          have O := O.drawn (w.drawn + 1)
          generalize { w with drawn := w.drawn + 1 } = w at O ⊢
          have hS : SC [(b19, o19 + (k : Int).toNat * 4, .int .i64 (e19.1)), (b19, o19 + (k : Int).toNat * 4 + 1, .slice e19.2.1.1 e19.2.1.2.1 e19.2.1.2.2), (b19, o19 + (k : Int).toNat * 4 + 2, .int .i64 (e19.2.2.1)), (b19, o19 + (k : Int).toNat * 4 + 3, .slice e19.2.2.2.1 e19.2.2.2.2.1 e19.2.2.2.2.2), (b23, o23 + (k : Int).toNat * 4, .int .i64 (e23.1)), (b23, o23 + (k : Int).toNat * 4 + 1, .slice e23.2.1.1 e23.2.1.2.1 e23.2.1.2.2), (b23, o23 + (k : Int).toNat * 4 + 2, .int .i64 (e23.2.2.1)), (b23, o23 + (k : Int).toNat * 4 + 3, .slice e23.2.2.2.1 e23.2.2.2.2.1 e23.2.2.2.2.2)] w := (SC.cons (((O.old hb19 (by simp)).trans (hc19 _ _ he19 0 _ rfl))) (SC.cons (((O.old hb19 (by simp)).trans (hc19 _ _ he19 1 _ rfl))) (SC.cons (((O.old hb19 (by simp)).trans (hc19 _ _ he19 2 _ rfl))) (SC.cons (((O.old hb19 (by simp)).trans (hc19 _ _ he19 3 _ rfl))) (SC.cons (((O.old hb23 (by simp)).trans (hc23 _ _ he23 0 _ rfl))) (SC.cons (((O.old hb23 (by simp)).trans (hc23 _ _ he23 1 _ rfl))) (SC.cons (((O.old hb23 (by simp)).trans (hc23 _ _ he23 2 _ rfl))) (SC.cons (((O.old hb23 (by simp)).trans (hc23 _ _ he23 3 _ rfl))) SC.nil))))))))
          refine d_take 0 rfl (by kernel_rfl) F (p_move rfl) rfl rfl hS fun a F => d_take 1 rfl (by kernel_rfl) F (p_move rfl) rfl rfl hS fun a F => d_take 2 rfl (by kernel_rfl) F (p_iaddr rfl rfl Try.underlying35 Try.sz_61 (by omega) (by omega)) rfl rfl hS fun a F => d_take 3 rfl (by kernel_rfl) F (p_loadC (cs := [.int .i64 (e19.1), .slice e19.2.1.1 e19.2.1.2.1 e19.2.1.2.2, .int .i64 (e19.2.2.1), .slice e19.2.2.2.1 e19.2.2.2.2.1 e19.2.2.2.2.2]) rfl Try.agg_61 Try.sz_61 (fun _ h => (CA.cons (SC.get h 0 rfl) (CA.cons (SC.get h 1 rfl) (CA.cons (SC.get h 2 rfl) (CA.cons (SC.get h 3 rfl) CA.nil)))))) rfl rfl hS fun a F => d_take 4 rfl (by kernel_rfl) F (p_move rfl) rfl rfl hS fun a F => d_take 5 rfl (by kernel_rfl) F (p_move rfl) rfl rfl hS fun a F => d_take 6 rfl (by kernel_rfl) F (p_iaddr rfl rfl Try.underlying35 Try.sz_61 (by omega) (by omega)) rfl rfl hS fun a F => d_take 7 rfl (by kernel_rfl) F (p_loadC (cs := [.int .i64 (e23.1), .slice e23.2.1.1 e23.2.1.2.1 e23.2.1.2.2, .int .i64 (e23.2.2.1), .slice e23.2.2.2.1 e23.2.2.2.2.1 e23.2.2.2.2.2]) rfl Try.agg_61 Try.sz_61 (fun _ h => (CA.cons (SC.get h 4 rfl) (CA.cons (SC.get h 5 rfl) (CA.cons (SC.get h 6 rfl) (CA.cons (SC.get h 7 rfl) CA.nil)))))) rfl rfl hS fun a F => d_one 8 (by kernel_rfl) (d_op rfl F rfl (o_call (vs := #[.agg #[.int .i64 (e19.1), .slice e19.2.1.1 e19.2.1.2.1 e19.2.1.2.2, .int .i64 (e19.2.2.1), .slice e19.2.2.2.1 e19.2.2.2.2.1 e19.2.2.2.2.2], .agg #[.int .i64 (e23.1), .slice e23.2.1.1 e23.2.1.2.1 e23.2.1.2.2, .int .i64 (e23.2.2.1), .slice e23.2.2.2.1 e23.2.2.2.2.1 e23.2.2.2.2.2]]) F Try.en_42 rfl rfl ((eqPackEntry_ok e19.1 e19.2.1.1 e19.2.1.2.1 e19.2.1.2.2 pe19.2.1 e19.2.2.1 e19.2.2.2.1 e19.2.2.2.2.1 e19.2.2.2.2.2 pe19.2.2.2 e23.1 e23.2.1.1 e23.2.1.2.1 e23.2.1.2.2 pe23.2.1 e23.2.2.1 e23.2.2.2.1 e23.2.2.2.2.1 e23.2.2.2.2.2 pe23.2.2.2 w (hl19.keep O) (by first | omega | (simp; done) | (simp; omega) | (simp at *; omega)) (by omega) (ho19.keep O) (by first | omega | (simp; done) | (simp; omega) | (simp at *; omega)) (by omega) (hl23.keep O) (by first | omega | (simp; done) | (simp; omega) | (simp at *; omega)) (by omega) (ho23.keep O) (by first | omega | (simp; done) | (simp; omega) | (simp at *; omega)) (by omega)).mono ?_)))
          rintro e w ⟨rfl, K⟩
          refine ⟨_, rfl, fun a F => ?_⟩
          have O : Own w0 [] [] w := O.call0 K
          clear K
          have F := F.setB (d := 25) rfl (decide_eq_true cc1)
          have O : Own w0 [] [] w := O
          refine ⟨fun _ => (SC.cons (((O.old hb19 (by simp)).trans (hc19 _ _ he19 0 _ rfl))) (SC.cons (((O.old hb19 (by simp)).trans (hc19 _ _ he19 1 _ rfl))) (SC.cons (((O.old hb19 (by simp)).trans (hc19 _ _ he19 2 _ rfl))) (SC.cons (((O.old hb19 (by simp)).trans (hc19 _ _ he19 3 _ rfl))) (SC.cons (((O.old hb23 (by simp)).trans (hc23 _ _ he23 0 _ rfl))) (SC.cons (((O.old hb23 (by simp)).trans (hc23 _ _ he23 1 _ rfl))) (SC.cons (((O.old hb23 (by simp)).trans (hc23 _ _ he23 2 _ rfl))) (SC.cons (((O.old hb23 (by simp)).trans (hc23 _ _ he23 3 _ rfl))) SC.nil)))))))), ?_⟩
          have hS : SC [(b19, o19 + (k : Int).toNat * 4, .int .i64 (e19.1)), (b19, o19 + (k : Int).toNat * 4 + 1, .slice e19.2.1.1 e19.2.1.2.1 e19.2.1.2.2), (b19, o19 + (k : Int).toNat * 4 + 2, .int .i64 (e19.2.2.1)), (b19, o19 + (k : Int).toNat * 4 + 3, .slice e19.2.2.2.1 e19.2.2.2.2.1 e19.2.2.2.2.2), (b23, o23 + (k : Int).toNat * 4, .int .i64 (e23.1)), (b23, o23 + (k : Int).toNat * 4 + 1, .slice e23.2.1.1 e23.2.1.2.1 e23.2.1.2.2), (b23, o23 + (k : Int).toNat * 4 + 2, .int .i64 (e23.2.2.1)), (b23, o23 + (k : Int).toNat * 4 + 3, .slice e23.2.2.2.1 e23.2.2.2.2.1 e23.2.2.2.2.2)] w := (SC.cons (((O.old hb19 (by simp)).trans (hc19 _ _ he19 0 _ rfl))) (SC.cons (((O.old hb19 (by simp)).trans (hc19 _ _ he19 1 _ rfl))) (SC.cons (((O.old hb19 (by simp)).trans (hc19 _ _ he19 2 _ rfl))) (SC.cons (((O.old hb19 (by simp)).trans (hc19 _ _ he19 3 _ rfl))) (SC.cons (((O.old hb23 (by simp)).trans (hc23 _ _ he23 0 _ rfl))) (SC.cons (((O.old hb23 (by simp)).trans (hc23 _ _ he23 1 _ rfl))) (SC.cons (((O.old hb23 (by simp)).trans (hc23 _ _ he23 2 _ rfl))) (SC.cons (((O.old hb23 (by simp)).trans (hc23 _ _ he23 3 _ rfl))) SC.nil))))))))
          refine d_take 9 rfl (by kernel_rfl) F (p_not rfl) rfl rfl hS fun a F => d_done (by kernel_rfl) (hK9 _ _ (?_))
          try clear hK9 K9
          refine c_iff F rfl (wp_skip (hK8 _ _ (?_)))
          try clear hK8 K8
          refine c_region (sp F (p_move rfl) rfl rfl fun a F => sp F (p_add rfl rfl (by omega) (by omega)) rfl rfl fun a F => sp F (p_assign rfl) rfl rfl fun a F => c_nil (?_))
          try rw [← hp23] at F
          try rw [← hp23] at O
          try rw [← hp19] at F
          try rw [← hp19] at O
          have F : Has 27 [(0, .slice A n c), (1, .slice A2 n2 c2), (10, .bool false), (5, .int .i64 (k + 1))] a := F.pick ⟨rfl, rfl, rfl, rfl, trivial⟩
          exact ⟨((n : Int) - (k + 1)).toNat, by omega, (k + 1), rfl, F, O, by first | assumption | omega, by first | assumption | omega, by exact sameTo_step hi0c hi0a hq19 hq23 (Prod.ext (by omega) (Prod.ext cc1.2.1 (Prod.ext (by omega) cc1.2.2.2)))⟩
        · refine c_draw Try.mixed (SC [(b19, o19 + (k : Int).toNat * 4, .int .i64 (e19.1)), (b19, o19 + (k : Int).toNat * 4 + 1, .slice e19.2.1.1 e19.2.1.2.1 e19.2.1.2.2), (b19, o19 + (k : Int).toNat * 4 + 2, .int .i64 (e19.2.2.1)), (b19, o19 + (k : Int).toNat * 4 + 3, .slice e19.2.2.2.1 e19.2.2.2.2.1 e19.2.2.2.2.2), (b23, o23 + (k : Int).toNat * 4, .int .i64 (e23.1)), (b23, o23 + (k : Int).toNat * 4 + 1, .slice e23.2.1.1 e23.2.1.2.1 e23.2.1.2.2), (b23, o23 + (k : Int).toNat * 4 + 2, .int .i64 (e23.2.2.1)), (b23, o23 + (k : Int).toNat * 4 + 3, .slice e23.2.2.2.1 e23.2.2.2.2.1 e23.2.2.2.2.2)]) [] _ (fun a w h => h) ?_
          have O := O.drawn (w.drawn + 1)
          generalize { w with drawn := w.drawn + 1 } = w at O ⊢
          have hS : SC [(b19, o19 + (k : Int).toNat * 4, .int .i64 (e19.1)), (b19, o19 + (k : Int).toNat * 4 + 1, .slice e19.2.1.1 e19.2.1.2.1 e19.2.1.2.2), (b19, o19 + (k : Int).toNat * 4 + 2, .int .i64 (e19.2.2.1)), (b19, o19 + (k : Int).toNat * 4 + 3, .slice e19.2.2.2.1 e19.2.2.2.2.1 e19.2.2.2.2.2), (b23, o23 + (k : Int).toNat * 4, .int .i64 (e23.1)), (b23, o23 + (k : Int).toNat * 4 + 1, .slice e23.2.1.1 e23.2.1.2.1 e23.2.1.2.2), (b23, o23 + (k : Int).toNat * 4 + 2, .int .i64 (e23.2.2.1)), (b23, o23 + (k : Int).toNat * 4 + 3, .slice e23.2.2.2.1 e23.2.2.2.2.1 e23.2.2.2.2.2)] w := (SC.cons (((O.old hb19 (by simp)).trans (hc19 _ _ he19 0 _ rfl))) (SC.cons (((O.old hb19 (by simp)).trans (hc19 _ _ he19 1 _ rfl))) (SC.cons (((O.old hb19 (by simp)).trans (hc19 _ _ he19 2 _ rfl))) (SC.cons (((O.old hb19 (by simp)).trans (hc19 _ _ he19 3 _ rfl))) (SC.cons (((O.old hb23 (by simp)).trans (hc23 _ _ he23 0 _ rfl))) (SC.cons (((O.old hb23 (by simp)).trans (hc23 _ _ he23 1 _ rfl))) (SC.cons (((O.old hb23 (by simp)).trans (hc23 _ _ he23 2 _ rfl))) (SC.cons (((O.old hb23 (by simp)).trans (hc23 _ _ he23 3 _ rfl))) SC.nil))))))))
          refine d_take 0 rfl (by kernel_rfl) F (p_move rfl) rfl rfl hS fun a F => d_take 1 rfl (by kernel_rfl) F (p_move rfl) rfl rfl hS fun a F => d_take 2 rfl (by kernel_rfl) F (p_iaddr rfl rfl Try.underlying35 Try.sz_61 (by omega) (by omega)) rfl rfl hS fun a F => d_take 3 rfl (by kernel_rfl) F (p_loadC (cs := [.int .i64 (e19.1), .slice e19.2.1.1 e19.2.1.2.1 e19.2.1.2.2, .int .i64 (e19.2.2.1), .slice e19.2.2.2.1 e19.2.2.2.2.1 e19.2.2.2.2.2]) rfl Try.agg_61 Try.sz_61 (fun _ h => (CA.cons (SC.get h 0 rfl) (CA.cons (SC.get h 1 rfl) (CA.cons (SC.get h 2 rfl) (CA.cons (SC.get h 3 rfl) CA.nil)))))) rfl rfl hS fun a F => d_take 4 rfl (by kernel_rfl) F (p_move rfl) rfl rfl hS fun a F => d_take 5 rfl (by kernel_rfl) F (p_move rfl) rfl rfl hS fun a F => d_take 6 rfl (by kernel_rfl) F (p_iaddr rfl rfl Try.underlying35 Try.sz_61 (by omega) (by omega)) rfl rfl hS fun a F => d_take 7 rfl (by kernel_rfl) F (p_loadC (cs := [.int .i64 (e23.1), .slice e23.2.1.1 e23.2.1.2.1 e23.2.1.2.2, .int .i64 (e23.2.2.1), .slice e23.2.2.2.1 e23.2.2.2.2.1 e23.2.2.2.2.2]) rfl Try.agg_61 Try.sz_61 (fun _ h => (CA.cons (SC.get h 4 rfl) (CA.cons (SC.get h 5 rfl) (CA.cons (SC.get h 6 rfl) (CA.cons (SC.get h 7 rfl) CA.nil)))))) rfl rfl hS fun a F => d_one 8 (by kernel_rfl) (d_op rfl F rfl (o_call (vs := #[.agg #[.int .i64 (e19.1), .slice e19.2.1.1 e19.2.1.2.1 e19.2.1.2.2, .int .i64 (e19.2.2.1), .slice e19.2.2.2.1 e19.2.2.2.2.1 e19.2.2.2.2.2], .agg #[.int .i64 (e23.1), .slice e23.2.1.1 e23.2.1.2.1 e23.2.1.2.2, .int .i64 (e23.2.2.1), .slice e23.2.2.2.1 e23.2.2.2.2.1 e23.2.2.2.2.2]]) F Try.en_42 rfl rfl ((eqPackEntry_ok e19.1 e19.2.1.1 e19.2.1.2.1 e19.2.1.2.2 pe19.2.1 e19.2.2.1 e19.2.2.2.1 e19.2.2.2.2.1 e19.2.2.2.2.2 pe19.2.2.2 e23.1 e23.2.1.1 e23.2.1.2.1 e23.2.1.2.2 pe23.2.1 e23.2.2.1 e23.2.2.2.1 e23.2.2.2.2.1 e23.2.2.2.2.2 pe23.2.2.2 w (hl19.keep O) (by first | omega | (simp; done) | (simp; omega) | (simp at *; omega)) (by omega) (ho19.keep O) (by first | omega | (simp; done) | (simp; omega) | (simp at *; omega)) (by omega) (hl23.keep O) (by first | omega | (simp; done) | (simp; omega) | (simp at *; omega)) (by omega) (ho23.keep O) (by first | omega | (simp; done) | (simp; omega) | (simp at *; omega)) (by omega)).mono ?_)))
          rintro e w ⟨rfl, K⟩
          refine ⟨_, rfl, fun a F => ?_⟩
          have O : Own w0 [] [] w := O.call0 K
          clear K
          have F := F.setB (d := 25) rfl (decide_eq_false cc1)
          have O : Own w0 [] [] w := O
          refine ⟨fun _ => (SC.cons (((O.old hb19 (by simp)).trans (hc19 _ _ he19 0 _ rfl))) (SC.cons (((O.old hb19 (by simp)).trans (hc19 _ _ he19 1 _ rfl))) (SC.cons (((O.old hb19 (by simp)).trans (hc19 _ _ he19 2 _ rfl))) (SC.cons (((O.old hb19 (by simp)).trans (hc19 _ _ he19 3 _ rfl))) (SC.cons (((O.old hb23 (by simp)).trans (hc23 _ _ he23 0 _ rfl))) (SC.cons (((O.old hb23 (by simp)).trans (hc23 _ _ he23 1 _ rfl))) (SC.cons (((O.old hb23 (by simp)).trans (hc23 _ _ he23 2 _ rfl))) (SC.cons (((O.old hb23 (by simp)).trans (hc23 _ _ he23 3 _ rfl))) SC.nil)))))))), ?_⟩
          have hS : SC [(b19, o19 + (k : Int).toNat * 4, .int .i64 (e19.1)), (b19, o19 + (k : Int).toNat * 4 + 1, .slice e19.2.1.1 e19.2.1.2.1 e19.2.1.2.2), (b19, o19 + (k : Int).toNat * 4 + 2, .int .i64 (e19.2.2.1)), (b19, o19 + (k : Int).toNat * 4 + 3, .slice e19.2.2.2.1 e19.2.2.2.2.1 e19.2.2.2.2.2), (b23, o23 + (k : Int).toNat * 4, .int .i64 (e23.1)), (b23, o23 + (k : Int).toNat * 4 + 1, .slice e23.2.1.1 e23.2.1.2.1 e23.2.1.2.2), (b23, o23 + (k : Int).toNat * 4 + 2, .int .i64 (e23.2.2.1)), (b23, o23 + (k : Int).toNat * 4 + 3, .slice e23.2.2.2.1 e23.2.2.2.2.1 e23.2.2.2.2.2)] w := (SC.cons (((O.old hb19 (by simp)).trans (hc19 _ _ he19 0 _ rfl))) (SC.cons (((O.old hb19 (by simp)).trans (hc19 _ _ he19 1 _ rfl))) (SC.cons (((O.old hb19 (by simp)).trans (hc19 _ _ he19 2 _ rfl))) (SC.cons (((O.old hb19 (by simp)).trans (hc19 _ _ he19 3 _ rfl))) (SC.cons (((O.old hb23 (by simp)).trans (hc23 _ _ he23 0 _ rfl))) (SC.cons (((O.old hb23 (by simp)).trans (hc23 _ _ he23 1 _ rfl))) (SC.cons (((O.old hb23 (by simp)).trans (hc23 _ _ he23 2 _ rfl))) (SC.cons (((O.old hb23 (by simp)).trans (hc23 _ _ he23 3 _ rfl))) SC.nil))))))))
          refine d_take 9 rfl (by kernel_rfl) F (p_not rfl) rfl rfl hS fun a F => d_done (by kernel_rfl) (hK9 _ _ (?_))
          try clear hK9 K9
          refine c_ift F rfl (c_seq fun K10 hK10 => c_region (sp F (p_assign rfl) rfl rfl fun a F => c_nil (hK10 _ _ (?_))))
          try clear hK10 K10
          refine wp_ret (r_block (r_then (r_then (r_block (r_then (ret1 F rfl rfl (?_)))))))
          exact ⟨congrArg Ending.returned (show Value.bool false = .bool (decide (L = L2)) from by exact vbf (fun h => by subst h; first | omega | (rw [hq19] at hq23; injection hq23 with h9; subst h9; exact cc1 ⟨by omega, rfl, by omega, rfl⟩))), O⟩
      · have F := F.setB (d := 14) rfl (decide_eq_false c14)
        refine c_iff F rfl (wp_exit (e_then (e_then (e_here (hK4 _ _ (?_))))))
        try clear hK4 K4
        refine c_seq fun K8 hK8 => c_region (sp F (p_assign rfl) rfl rfl fun a F => c_nil (hK8 _ _ (?_)))
        try clear hK8 K8
        refine wp_ret (ret1 F rfl rfl (?_))
        exact ⟨congrArg Ending.returned (show Value.bool true = .bool (decide (L = L2)) from by exact vbt (same_ext hi0c (by omega) (by omega))), O⟩
  · have F := F.setB (d := 10) rfl (decide_eq_true c10)
    refine c_ift F rfl (c_seq fun K4 hK4 => c_region (sp F (p_assign rfl) rfl rfl fun a F => c_nil (hK4 _ _ (?_))))
    try clear hK4 K4
    refine wp_ret (r_then (ret1 F rfl rfl (?_)))
    exact ⟨congrArg Ending.returned (show Value.bool false = .bool (decide (L = L2)) from by exact vbf (fun h => by subst h; first | omega | (rw [hq19] at hq23; injection hq23 with h9; subst h9; exact cc1 ⟨by omega, rfl, by omega, rfl⟩))), O⟩

set_option maxRecDepth 100000 in
/-- spec.l3Depth -/
theorem l3Depth_ok (A : Option Addr) (n : Nat) (c : Nat) (es : List (Ent)) (i : Int) (n0 : Nat) (w0 : World) (hA : Arr w0 encEnt 4 A es) (hn : (n : Int) = es.length) (hb : (n : Int) ≤ 1048600) (hd : Dp (bases es) i.toNat n0) (hv : PV (bases es)) (h0 : 0 ≤ i) (h1 : i < n) (h2 : (n0 : Int) ≤ 1048600) :
    Calls Try.prog 37 #[.slice A n c, .int .i64 (i)] w0 fun e w => e = .returned (.int .i64 ((n0 : Int))) ∧ Own w0 [] [] w := by
  have O := Own.start w0
  refine enterO (n := 20) Try.func37 rfl rfl rfl O fun a w F O => ?_
  refine c_seq fun K1 hK1 => c_region (sp F (p_assign rfl) rfl rfl fun a F => c_nil (hK1 _ _ (?_)))
  try clear hK1 K1
  refine c_seq fun K2 hK2 => c_region (sp F (p_assign rfl) rfl rfl fun a F => c_nil (hK2 _ _ (?_)))
  try clear hK2 K2
  refine c_seq fun K3 hK3 => wp_block (?_)
  refine c_loop (fun mm a w => ∃ (j : Int), ∃ (m : Int), ∃ (n1 : Nat), mm = n1 + 1 ∧ Has 20 [(0, .slice A n c), (4, .int .i64 (0)), (1, .int .i64 (j)), (5, .int .i64 (m))] a ∧ Own w0 [] [] w ∧ (0 ≤ j) ∧ (j < n) ∧ (m + (n1 : Int) = n0) ∧ (Dp (bases es) (j : Int).toNat n1) ∧ (0 ≤ m)) ?_ ?_
  · have F : Has 20 [(0, .slice A n c), (4, .int .i64 (0)), (1, .int .i64 (i)), (5, .int .i64 (0))] a := F.pick ⟨rfl, rfl, rfl, rfl, trivial⟩
    exact ⟨n0 + 1, i, 0, n0, rfl, F, O, by first | assumption | omega, by first | assumption | omega, by first | assumption | omega, by first | assumption | omega, by first | assumption | omega⟩
  · rintro mm a w ⟨j, m, n1, rfl, F, O, hi0a, hi0b, hi0c, hi0d, hi0e⟩
    refine c_seq fun K4 hK4 => c_seq fun K5 hK5 => c_region (sp F (p_move rfl) rfl rfl fun a F => sp F (p_move rfl) rfl rfl fun a F => ?_)
    obtain ⟨b8, o8, hp8, hb8, hc8⟩ := Arr.out hA (by omega)
    have hA8 := hA; rw [hp8] at hA8 F
    obtain ⟨e8, he8⟩ := get_some (l := es) (i := j) (by omega) (by first | omega | (simp; omega))
    have hw8 := bases_get hi0a he8
    refine sp F (p_iaddr rfl rfl Try.underlying35 Try.sz_61 (by omega) (by omega)) rfl rfl fun a F => sp F (p_faddr rfl Try.foff_61_2) rfl rfl fun a F => sp F (p_load rfl Try.agg_3 (fun _ h => (ld1 (((O.old hb8 (by simp)).trans (hc8 _ _ he8 2 _ rfl))) h))) rfl rfl fun a F => sp F (p_geq rfl rfl) rfl rfl fun a F => c_nil (hK5 _ _ (?_))
    try clear hK5 K5
    by_cases c11 : 0 ≤ e8.2.2.1
    · have F := F.setB (d := 11) rfl (decide_eq_true c11)
      refine c_ift F rfl (wp_skip (hK4 _ _ (?_)))
      try clear hK4 K4
      refine wp_block (c_seq fun K6 hK6 => c_region (sp F (p_move rfl) rfl rfl fun a F => sp F (p_add rfl rfl (by omega) (by omega)) rfl rfl fun a F => sp F (p_assign rfl) rfl rfl fun a F => c_nil (hK6 _ _ (?_))))
      try clear hK6 K6
      refine c_region (sp F (p_move rfl) rfl rfl fun a F => sp F (p_move rfl) rfl rfl fun a F => ?_)
      have hw8 := bases_get hi0a he8
      refine sp F (p_iaddr rfl rfl Try.underlying35 Try.sz_61 (by omega) (by omega)) rfl rfl fun a F => sp F (p_faddr rfl Try.foff_61_2) rfl rfl fun a F => sp F (p_load rfl Try.agg_3 (fun _ h => (ld1 (((O.old hb8 (by simp)).trans (hc8 _ _ he8 2 _ rfl))) h))) rfl rfl fun a F => sp F (p_assign rfl) rfl rfl fun a F => c_nil (?_)
      obtain ⟨n2, hn2, hd2⟩ := dp_pos hi0d hw8 c11
      have hpb := pv_at hv hi0a hw8
      try rw [← hp8] at F
      try rw [← hp8] at O
      have F : Has 20 [(0, .slice A n c), (4, .int .i64 (0)), (1, .int .i64 (e8.2.2.1)), (5, .int .i64 (m + 1))] a := F.pick ⟨rfl, rfl, rfl, rfl, trivial⟩
      exact ⟨n2 + 1, by omega, e8.2.2.1, (m + 1), n2, rfl, F, O, by first | assumption | omega, by first | assumption | omega, by first | assumption | omega, by exact hd2, by first | assumption | omega⟩
    · have F := F.setB (d := 11) rfl (decide_eq_false c11)
      refine c_iff F rfl (wp_exit (e_then (e_then (e_here (hK3 _ _ (?_))))))
      try clear hK3 K3
      refine c_seq fun K6 hK6 => c_region (sp F (p_move rfl) rfl rfl fun a F => sp F (p_assign rfl) rfl rfl fun a F => c_nil (hK6 _ _ (?_)))
      try clear hK6 K6
      refine wp_ret (ret1 F rfl rfl (?_))
      exact ⟨congrArg Ending.returned (show Value.int .i64 (m) = .int .i64 ((n0 : Int)) from by exact vint (by have hz := dp_neg hi0d hw8 (by omega); omega)), O⟩

set_option maxRecDepth 100000 in
/-- spec.PackDepth -/
theorem sPackDepth_ok (A : Option Addr) (n : Nat) (c : Nat) (es : List (Ent)) (i : Int) (w0 : World) (hA : Arr w0 encEnt 4 A es) (hn : (n : Int) = es.length) (hb : (n : Int) ≤ 1048600) :
    Calls Try.prog 19 #[.slice A n c, .int .i64 (i)] w0 fun e w => ∃ (r : Int), e = .returned (.int .i64 (r)) ∧ (PD (bases es) i r) ∧ Own w0 [] [] w := by
  have O := Own.start w0
  have hbl := bases_len (es := es)
  refine enterO (n := 30) Try.func19 rfl rfl rfl O fun a w F O => ?_
  refine c_seq fun K1 hK1 => c_region (sp F (p_assign rfl) rfl rfl fun a F => c_nil (hK1 _ _ (?_)))
  try clear hK1 K1
  refine c_seq fun K2 hK2 => c_seq fun K3 hK3 => c_region (sp F (p_assign rfl) rfl rfl fun a F => c_nil (hK3 _ _ (?_)))
  try clear hK3 K3
  refine wp_block (?_)
  refine c_loop (fun mm a w => ∃ (k : Int), mm = ((n : Int) - k).toNat ∧ Has 30 [(0, .slice A n c), (1, .int .i64 (i)), (5, .int .i64 (k))] a ∧ Own w0 [] [] w ∧ (0 ≤ k) ∧ (k ≤ n) ∧ (PVto (bases es) k)) ?_ ?_
  · have F : Has 30 [(0, .slice A n c), (1, .int .i64 (i)), (5, .int .i64 (0))] a := F.pick ⟨rfl, rfl, rfl, trivial⟩
    exact ⟨((n : Int) - 0).toNat, 0, rfl, F, O, by first | assumption | omega, by first | assumption | omega, by exact pv_zero⟩
  · rintro mm a w ⟨k, rfl, F, O, hi0a, hi0b, hi0c⟩
    refine c_seq fun K4 hK4 => c_seq fun K5 hK5 => c_region (sp F (p_move rfl) rfl rfl fun a F => sp F (p_move rfl) rfl rfl fun a F => sp F (p_len_l rfl Try.underlying35) rfl rfl fun a F => sp F (p_lss rfl rfl) rfl rfl fun a F => c_nil (hK5 _ _ (?_)))
    try clear hK5 K5
    by_cases c9 : k < (n : Int)
    · have F := F.setB (d := 9) rfl (decide_eq_true c9)
      refine c_ift F rfl (wp_skip (hK4 _ _ (?_)))
      try clear hK4 K4
      refine c_seq fun K6 hK6 => wp_block (c_seq fun K7 hK7 => c_region (sp F (p_move rfl) rfl rfl fun a F => sp F (p_move rfl) rfl rfl fun a F => ?_))
      obtain ⟨b14, o14, hp14, hb14, hc14⟩ := Arr.out hA (by omega)
      have hA14 := hA; rw [hp14] at hA14 F
      obtain ⟨e14, he14⟩ := get_some (l := es) (i := k) (by omega) (by first | omega | (simp; omega))
      have hw14 := bases_get hi0a he14
      refine sp F (p_iaddr rfl rfl Try.underlying35 Try.sz_61 (by omega) (by omega)) rfl rfl fun a F => sp F (p_faddr rfl Try.foff_61_2) rfl rfl fun a F => sp F (p_load rfl Try.agg_3 (fun _ h => (ld1 (((O.old hb14 (by simp)).trans (hc14 _ _ he14 2 _ rfl))) h))) rfl rfl fun a F => sp F (p_move rfl) rfl rfl fun a F => sp F (p_sub rfl rfl (by omega) (by omega)) rfl rfl fun a F => so F rfl (o_call (vs := #[.int .i64 (e14.2.2.1), .int .i64 (-1), .int .i64 (k - 1)]) F Try.en_36 rfl rfl ((l6In_ok e14.2.2.1 (-1) (k - 1) w).mono ?_))
      rintro e w ⟨rfl, K⟩
      refine ⟨_, rfl, fun a F => ?_⟩
      have O : Own w0 [] [] w := O.call0 K
      clear K
      have O : Own w0 [] [] w := O
      by_cases c19 : (-1) ≤ e14.2.2.1 ∧ e14.2.2.1 ≤ (k - 1)
      · have F := F.setB (d := 19) rfl (decide_eq_true c19)
        refine sp F (p_not rfl) rfl rfl fun a F => c_nil (hK7 _ _ (?_))
        try clear hK7 K7
        refine c_iff F rfl (wp_skip (hK6 _ _ (?_)))
        try clear hK6 K6
        refine c_region (sp F (p_move rfl) rfl rfl fun a F => sp F (p_add rfl rfl (by omega) (by omega)) rfl rfl fun a F => sp F (p_assign rfl) rfl rfl fun a F => c_nil (?_))
        try rw [← hp14] at F
        try rw [← hp14] at O
        have F : Has 30 [(0, .slice A n c), (1, .int .i64 (i)), (5, .int .i64 (k + 1))] a := F.pick ⟨rfl, rfl, rfl, trivial⟩
        exact ⟨((n : Int) - (k + 1)).toNat, by omega, (k + 1), rfl, F, O, by first | assumption | omega, by first | assumption | omega, by exact pv_step hi0c hi0a hw14 c19⟩
      · have F := F.setB (d := 19) rfl (decide_eq_false c19)
        refine sp F (p_not rfl) rfl rfl fun a F => c_nil (hK7 _ _ (?_))
        try clear hK7 K7
        refine c_ift F rfl (c_seq fun K8 hK8 => c_region (sp F (p_assign rfl) rfl rfl fun a F => c_nil (hK8 _ _ (?_))))
        try clear hK8 K8
        refine wp_ret (r_block (r_then (r_then (r_block (r_then (ret1 F rfl rfl (?_)))))))
        exact ⟨(-1), congrArg Ending.returned (show Value.int .i64 (-1) = .int .i64 ((-1)) from by first | exact vint (by omega) | exact vint (by simp; done)), by first | exact pd_bad (pv_not hi0a hw14 c19) | exact pd_out (fun h => c25 (by omega)) | exact pd_ok hV (by omega) (by omega) hdn, O⟩
    · have F := F.setB (d := 9) rfl (decide_eq_false c9)
      refine c_iff F rfl (wp_exit (e_then (e_then (e_here (hK2 _ _ (?_))))))
      try clear hK2 K2
      refine c_seq fun K6 hK6 => c_seq fun K7 hK7 => c_region (sp F (p_move rfl) rfl rfl fun a F => sp F (p_move rfl) rfl rfl fun a F => sp F (p_len_l rfl Try.underlying35) rfl rfl fun a F => sp F (p_sub rfl rfl (by omega) (by omega)) rfl rfl fun a F => so F rfl (o_call (vs := #[.int .i64 (i), .int .i64 (0), .int .i64 ((n : Int) - 1)]) F Try.en_36 rfl rfl ((l6In_ok i 0 ((n : Int) - 1) w).mono ?_)))
      rintro e w ⟨rfl, K⟩
      refine ⟨_, rfl, fun a F => ?_⟩
      have O : Own w0 [] [] w := O.call0 K
      clear K
      have O : Own w0 [] [] w := O
      by_cases c25 : 0 ≤ i ∧ i ≤ ((n : Int) - 1)
      · have F := F.setB (d := 25) rfl (decide_eq_true c25)
        refine sp F (p_not rfl) rfl rfl fun a F => c_nil (hK7 _ _ (?_))
        try clear hK7 K7
        refine c_iff F rfl (wp_skip (hK6 _ _ (?_)))
        try clear hK6 K6
        refine c_seq fun K8 hK8 => ?_
        have hV := pv_all hi0c (by omega)
        obtain ⟨nd, hdn, hdl⟩ := dp_get (i := i) hV (by omega) (by omega)
        refine c_region (sp F (p_move rfl) rfl rfl fun a F => sp F (p_move rfl) rfl rfl fun a F => so F rfl (o_call (vs := #[.slice A n c, .int .i64 (i)]) F Try.en_37 rfl rfl ((l3Depth_ok A n c es i nd w (hA.keep O) (by first | omega | (simp; done) | (simp; omega) | (simp at *; omega)) (by omega) (by assumption) (by assumption) (by omega) (by omega) (by omega)).mono ?_)))
        rintro e w ⟨rfl, K⟩
        refine ⟨_, rfl, fun a F => ?_⟩
        have O : Own w0 [] [] w := O.call0 K
        clear K
        have O : Own w0 [] [] w := O
        refine sp F (p_assign rfl) rfl rfl fun a F => c_nil (hK8 _ _ (?_))
        try clear hK8 K8
        refine wp_ret (ret1 F rfl rfl (?_))
        exact ⟨(nd : Int), rfl, by first | exact pd_bad (pv_not hi0a hw14 c19) | exact pd_out (fun h => c25 (by omega)) | exact pd_ok hV (by omega) (by omega) hdn, O⟩
      · have F := F.setB (d := 25) rfl (decide_eq_false c25)
        refine sp F (p_not rfl) rfl rfl fun a F => c_nil (hK7 _ _ (?_))
        try clear hK7 K7
        refine c_ift F rfl (c_seq fun K8 hK8 => c_region (sp F (p_assign rfl) rfl rfl fun a F => c_nil (hK8 _ _ (?_))))
        try clear hK8 K8
        refine wp_ret (r_then (ret1 F rfl rfl (?_)))
        exact ⟨(-1), congrArg Ending.returned (show Value.int .i64 (-1) = .int .i64 ((-1)) from by first | exact vint (by omega) | exact vint (by simp; done)), by first | exact pd_bad (pv_not hi0a hw14 c19) | exact pd_out (fun h => c25 (by omega)) | exact pd_ok hV (by omega) (by omega) hdn, O⟩

set_option maxRecDepth 100000 in
/-- impl.packed).depth -/
theorem depth_ok (b : Nat) (n0 : Nat) (w0 : World) (hd : DpAt w0 n0 b) (h2 : (n0 : Int) ≤ 1048600) :
    Calls Try.prog 41 #[.pointer (some ⟨b, 0, none⟩)] w0 fun e w => e = .returned (.int .i64 ((n0 : Int))) ∧ Own w0 [] [] w := by
  have O := Own.start w0
  refine enterO (n := 16) Try.func41 rfl rfl rfl O fun a w F O => ?_
  refine c_seq fun K1 hK1 => c_region (sp F (p_assign rfl) rfl rfl fun a F => c_nil (hK1 _ _ (?_)))
  try clear hK1 K1
  refine c_seq fun K2 hK2 => c_region (sp F (p_assign rfl) rfl rfl fun a F => c_nil (hK2 _ _ (?_)))
  try clear hK2 K2
  refine c_seq fun K3 hK3 => wp_block (?_)
  refine c_loop (fun mm a w => ∃ (j : Nat), ∃ (m : Int), ∃ (n1 : Nat), mm = n1 + 1 ∧ Has 16 [(2, .int .i64 (0)), (0, .pointer (some ⟨j, 0, none⟩)), (3, .int .i64 (m))] a ∧ Own w0 [] [] w ∧ (m + (n1 : Int) = n0) ∧ (DpAt w0 n1 j) ∧ (0 ≤ m)) ?_ ?_
  · have F : Has 16 [(2, .int .i64 (0)), (0, .pointer (some ⟨b, 0, none⟩)), (3, .int .i64 (0))] a := F.pick ⟨rfl, rfl, rfl, trivial⟩
    exact ⟨n0 + 1, b, 0, n0, rfl, F, O, by first | assumption | omega, by first | assumption | omega, by first | assumption | omega⟩
  · rintro mm a w ⟨j, m, n1, rfl, F, O, hi0a, hi0b, hi0c⟩
    refine c_seq fun K4 hK4 => c_seq fun K5 hK5 => ?_
    by_cases cs2 : n1 = 0
    · subst cs2
      obtain ⟨hq0, hq4⟩ := hi0b
      refine c_region (sp F (p_move rfl) rfl rfl fun a F => sp F (p_nil rfl) rfl rfl fun a F => sp F (p_faddr rfl Try.foff_82_1) rfl rfl fun a F => sp F (p_load rfl Try.agg_66 (fun _ h => (ld1 (((O.old hq0 (by simp)).trans hq4)) h))) rfl rfl fun a F => sp F (p_pneN rfl (by kernel_rfl)) rfl rfl fun a F => c_nil (hK5 _ _ (?_)))
      try clear hK5 K5
      refine c_iff F rfl (wp_exit (e_then (e_then (e_here (hK3 _ _ (?_))))))
      try clear hK3 K3
      refine c_seq fun K6 hK6 => c_region (sp F (p_move rfl) rfl rfl fun a F => sp F (p_assign rfl) rfl rfl fun a F => c_nil (hK6 _ _ (?_)))
      try clear hK6 K6
      refine wp_ret (ret1 F rfl rfl (?_))
      exact ⟨congrArg Ending.returned (show Value.int .i64 (m) = .int .i64 ((n0 : Int)) from by first | exact vint (by omega) | exact vint (by simp; done)), O⟩
    · obtain ⟨n2, rfl⟩ : ∃ n2, n1 = n2 + 1 := ⟨n1 - 1, by omega⟩
      obtain ⟨hq0, q, hq4, hq5⟩ := hi0b
      refine c_region (sp F (p_move rfl) rfl rfl fun a F => sp F (p_nil rfl) rfl rfl fun a F => sp F (p_faddr rfl Try.foff_82_1) rfl rfl fun a F => sp F (p_load rfl Try.agg_66 (fun _ h => (ld1 (((O.old hq0 (by simp)).trans hq4)) h))) rfl rfl fun a F => sp F (p_pneS rfl (by kernel_rfl)) rfl rfl fun a F => c_nil (hK5 _ _ (?_)))
      try clear hK5 K5
      refine c_ift F rfl (wp_skip (hK4 _ _ (?_)))
      try clear hK4 K4
      refine c_seq fun K6 hK6 => wp_block (c_region (sp F (p_move rfl) rfl rfl fun a F => sp F (p_add rfl rfl (by omega) (by omega)) rfl rfl fun a F => sp F (p_assign rfl) rfl rfl fun a F => c_nil (hK6 _ _ (?_))))
      try clear hK6 K6
      refine c_region (sp F (p_move rfl) rfl rfl fun a F => sp F (p_nil rfl) rfl rfl fun a F => sp F (p_faddr rfl Try.foff_82_1) rfl rfl fun a F => sp F (p_load rfl Try.agg_66 (fun _ h => (ld1 (((O.old hq0 (by simp)).trans hq4)) h))) rfl rfl fun a F => sp F (p_assign rfl) rfl rfl fun a F => c_nil (?_))
      have F : Has 16 [(2, .int .i64 (0)), (0, .pointer (some ⟨q, 0, none⟩)), (3, .int .i64 (m + 1))] a := F.pick ⟨rfl, rfl, rfl, trivial⟩
      exact ⟨n2 + 1, by omega, q, (m + 1), n2, rfl, F, O, by first | assumption | omega, by exact hq5, by first | assumption | omega⟩

end Go.Proofs.Ytbhidkcljekobaa
