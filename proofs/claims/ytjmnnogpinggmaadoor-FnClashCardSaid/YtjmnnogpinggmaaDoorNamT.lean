/- Contracts of the functions on lists of texts. No conditions but those on lengths. -/
import Derived.Test.YtjmnnogpinggmaaDoorNamC
namespace Go.Proofs.YtjmnnogpinggmaaDoor
open Go.ChangeShapes Go.WideShapes Go.ChangeAt Go.RowKit
set_option linter.unusedVariables false
set_option linter.unusedSimpArgs false


theorem slice_row {w : World} {P : Option Addr} {E sz n c : Nat} {xs : List Value} (h : w.ownsRow 0 E sz (.slice P n c) n xs) : (P = none ∧ n = 0 ∧ c = 0) ∨ ∃ b, P = some ⟨b, 0, none⟩ := by
  rcases h.2 with ⟨hv, hn⟩ | ⟨g, cap, cur, hv, _⟩
  · injection hv with h1 h2 h3
    exact .inl ⟨h1, hn, h3⟩
  · injection hv with h1 h2 h3
    exact .inr ⟨g, h1⟩
set_option maxRecDepth 100000 in
/-- laws.markText -/
theorem markText_ok (k : Int) (w0 : World) (h0 : 0 ≤ k) (h1 : k ≤ 100000000) :
    Calls Tryd.prog 46 #[.int .i64 (k)] w0 fun e w => e = .returned (.string (bs (mtext k))) ∧ Own w0 [] [] w := by
  have O := Own.start w0
  refine enterO (n := 20) Tryd.func46 rfl rfl rfl O fun a w F O => ?_
  refine c_seq fun K1 hK1 => c_region (sp F (p_assign rfl) rfl rfl fun a F => c_nil (hK1 _ _ (?_)))
  try clear hK1 K1
  refine c_seq fun K2 hK2 => c_seq fun K3 hK3 => c_region (sp F (p_move rfl) rfl rfl fun a F => sp F (p_leq rfl rfl) rfl rfl fun a F => c_nil (hK3 _ _ (?_)))
  try clear hK3 K3
  by_cases c5 : k ≤ 0
  · have F := F.setB (d := 5) rfl (decide_eq_true c5)
    refine c_ift F rfl (c_seq fun K4 hK4 => c_region (sp F (p_assign rfl) rfl rfl fun a F => c_nil (hK4 _ _ (?_))))
    try clear hK4 K4
    refine wp_ret (r_then (ret1 F rfl rfl (?_)))
    exact ⟨congrArg Ending.returned (show Value.string (bs ([109, 48])) = .string (bs (mtext k)) from by exact vstr (by unfold mtext; rw [if_pos (by omega)])), O⟩
  · have F := F.setB (d := 5) rfl (decide_eq_false c5)
    refine c_iff F rfl (wp_skip (hK2 _ _ (?_)))
    try clear hK2 K2
    refine c_seq fun K4 hK4 => c_region (sp F (p_assign rfl) rfl rfl fun a F => c_nil (hK4 _ _ (?_)))
    try clear hK4 K4
    refine c_seq fun K5 hK5 => wp_block (?_)
    refine c_loop (fun mm a w => ∃ (j : Int), ∃ (L1 : List UInt8), mm = (j).toNat ∧ Has 20 [(2, .string (bs ([]))), (5, .bool false), (0, .int .i64 (j)), (3, .string (bs (L1)))] a ∧ Own w0 [] [] w ∧ (0 ≤ j) ∧ (j ≤ k) ∧ (∃ f, (j : Int).toNat ≤ f ∧ digsF f (j : Int).toNat ++ L1 = digsF k.toNat k.toNat) ∧ ((L1.length : Int) + j ≤ k)) ?_ ?_
    · have F : Has 20 [(2, .string (bs ([]))), (5, .bool false), (0, .int .i64 (k)), (3, .string (bs ([])))] a := F.pick ⟨rfl, rfl, rfl, rfl, trivial⟩
      exact ⟨(k).toNat, k, ([]), rfl, F, O, by first | assumption | omega, by first | assumption | omega, by exact ⟨k.toNat, Nat.le_refl _, by simp⟩, by simp⟩
    · rintro mm a w ⟨j, L1, rfl, F, O, hi0a, hi0b, hi0c, hi0d⟩
      refine c_seq fun K6 hK6 => c_seq fun K7 hK7 => c_region (sp F (p_move rfl) rfl rfl fun a F => sp F (p_gtr rfl rfl) rfl rfl fun a F => c_nil (hK7 _ _ (?_)))
      try clear hK7 K7
      by_cases c7 : 0 < j
      · have F := F.setB (d := 7) rfl (decide_eq_true c7)
        refine c_ift F rfl (wp_skip (hK6 _ _ (?_)))
        try clear hK6 K6
        refine wp_block (c_seq fun K8 hK8 => c_region (sp F (p_move rfl) rfl rfl fun a F => sp F (p_rem rfl rfl (by omega) (by omega) (by omega)) rfl rfl fun a F => sp F (p_add rfl rfl (by omega) (by omega)) rfl rfl fun a F => sp F (p_convu8s rfl (by rw [Tryd.underlying3]; rfl) Tryd.underlying5 (by omega) (by omega)) rfl rfl fun a F => so F rfl (o_bslice (cs := [.int .u8 (48 + (j % 10))]) F O rfl Tryd.underlying22 Tryd.sz_5 Tryd.zero_5 rfl rfl rfl fun b12 w O a F => ?_)))
        have O : Own w0 [] [.cells b12 [.int .u8 (48 + (j % 10))] 5] w := O
        refine sp F (p_cbs1 rfl Tryd.underlying22 Tryd.underlying5 Tryd.underlying9 (by omega) (by omega) (fun _ h => ld1 (O.load 0 rfl rfl) h)) rfl rfl fun a F => sp F (p_move rfl) rfl rfl fun a F => sp F (p_cat rfl rfl (by first | omega | (simp; omega))) rfl rfl fun a F => sp F (p_assign rfl) rfl rfl fun a F => c_nil (hK8 _ _ (?_))
        try clear hK8 K8
        refine c_region (sp F (p_move rfl) rfl rfl fun a F => sp F (p_quo rfl rfl (by omega) (by omega) (by omega)) rfl rfl fun a F => sp F (p_assign rfl) rfl rfl fun a F => c_nil (?_))
        have F : Has 20 [(2, .string (bs ([]))), (5, .bool false), (0, .int .i64 (j / 10)), (3, .string (bs (([UInt8.ofNat (48 + (j % 10) : Int).toNat]) ++ L1)))] a := F.pick ⟨rfl, rfl, rfl, rfl, trivial⟩
        have O : Own w0 [] [] w := (O.take 0)
        exact ⟨((j / 10)).toNat, by omega, (j / 10), (([UInt8.ofNat (48 + (j % 10) : Int).toNat]) ++ L1), rfl, F, O, by first | assumption | omega, by first | assumption | omega, by obtain ⟨f, hf, hL⟩ := hi0c; exact digsF_step c7 hf hL, by simp; omega⟩
      · have F := F.setB (d := 7) rfl (decide_eq_false c7)
        refine c_iff F rfl (wp_exit (e_then (e_then (e_here (hK5 _ _ (?_))))))
        try clear hK5 K5
        refine c_seq fun K8 hK8 => c_region (sp F (p_move rfl) rfl rfl fun a F => sp F (p_cat rfl rfl (by first | omega | (simp; omega))) rfl rfl fun a F => sp F (p_assign rfl) rfl rfl fun a F => c_nil (hK8 _ _ (?_)))
        try clear hK8 K8
        refine wp_ret (ret1 F rfl rfl (?_))
        exact ⟨congrArg Ending.returned (show Value.string (bs (([109]) ++ L1)) = .string (bs (mtext k)) from by exact vstr (by unfold mtext; rw [if_neg (by omega)]; obtain ⟨f, hf, hL⟩ := hi0c; have h9 : j.toNat = 0 := (by omega); rw [h9, digsF_zero] at hL; rw [← hL]; rfl)), O⟩

set_option maxRecDepth 100000 in
/-- laws.eqStringS -/
theorem eqStringS_ok (A : Option Addr) (n : Nat) (c : Nat) (es : List (List UInt8)) (A2 : Option Addr) (n2 : Nat) (c2 : Nat) (es2 : List (List UInt8)) (w0 : World) (hA : Arr w0 encStr 1 A es) (hn : (n : Int) = es.length) (hb : (n : Int) ≤ 1048600) (hA2 : Arr w0 encStr 1 A2 es2) (hn2 : (n2 : Int) = es2.length) (hb2 : (n2 : Int) ≤ 1048600) :
    Calls Tryd.prog 30 #[.slice A n c, .slice A2 n2 c2] w0 fun e w => e = .returned (.bool (decide (es = es2))) ∧ Own w0 [] [] w := by
  have O := Own.start w0
  refine enterO (n := 26) Tryd.func30 rfl rfl rfl O fun a w F O => ?_
  refine c_seq fun K1 hK1 => c_region (sp F (p_assign rfl) rfl rfl fun a F => c_nil (hK1 _ _ (?_)))
  try clear hK1 K1
  refine c_seq fun K2 hK2 => c_seq fun K3 hK3 => c_region (sp F (p_move rfl) rfl rfl fun a F => sp F (p_len_l rfl Tryd.underlying28) rfl rfl fun a F => sp F (p_move rfl) rfl rfl fun a F => sp F (p_len_l rfl Tryd.underlying28) rfl rfl fun a F => sp F (p_neq rfl rfl) rfl rfl fun a F => c_nil (hK3 _ _ (?_)))
  try clear hK3 K3
  by_cases c10 : (n : Int) = (n2 : Int)
  · have F := F.setB (d := 10) rfl (decide_eq_false (fun h => h c10))
    refine c_iff F rfl (wp_skip (hK2 _ _ (?_)))
    try clear hK2 K2
    refine c_seq fun K4 hK4 => c_seq fun K5 hK5 => c_region (sp F (p_assign rfl) rfl rfl fun a F => c_nil (hK5 _ _ (?_)))
    try clear hK5 K5
    refine wp_block (?_)
    refine c_loop (fun mm a w => ∃ (k : Int), mm = ((n : Int) - k).toNat ∧ Has 26 [(0, .slice A n c), (1, .slice A2 n2 c2), (10, .bool false), (5, .int .i64 (k))] a ∧ Own w0 [] [] w ∧ (0 ≤ k) ∧ (k ≤ n) ∧ (SameTo k es es2)) ?_ ?_
    · have F : Has 26 [(0, .slice A n c), (1, .slice A2 n2 c2), (10, .bool false), (5, .int .i64 (0))] a := F.pick ⟨rfl, rfl, rfl, rfl, trivial⟩
      exact ⟨((n : Int) - 0).toNat, 0, rfl, F, O, by first | assumption | omega, by first | assumption | omega, by exact sameTo_zero⟩
    · rintro mm a w ⟨k, rfl, F, O, hi0a, hi0b, hi0c⟩
      refine c_seq fun K6 hK6 => c_seq fun K7 hK7 => c_region (sp F (p_move rfl) rfl rfl fun a F => sp F (p_move rfl) rfl rfl fun a F => sp F (p_len_l rfl Tryd.underlying28) rfl rfl fun a F => sp F (p_lss rfl rfl) rfl rfl fun a F => c_nil (hK7 _ _ (?_)))
      try clear hK7 K7
      by_cases c14 : k < (n : Int)
      · have F := F.setB (d := 14) rfl (decide_eq_true c14)
        refine c_ift F rfl (wp_skip (hK6 _ _ (?_)))
        try clear hK6 K6
        refine c_seq fun K8 hK8 => wp_block (c_seq fun K9 hK9 => ?_)
        obtain ⟨b19, o19, hp19, hb19, hc19⟩ := Arr.out hA (by omega)
        have hA19 := hA; rw [hp19] at hA19 F
        obtain ⟨e19, he19⟩ := get_some (l := es) (i := k) (by omega) (by first | omega | (simp; omega))
        obtain ⟨b23, o23, hp23, hb23, hc23⟩ := Arr.out hA2 (by omega)
        have hA23 := hA2; rw [hp23] at hA23 F
        obtain ⟨e23, he23⟩ := get_some (l := es2) (i := k) (by omega) (by first | omega | (simp; omega))
        refine c_draw Tryd.mixed (SC [(b19, o19 + (k : Int).toNat * 1, .string (bs (e19))), (b23, o23 + (k : Int).toNat * 1, .string (bs (e23)))]) [] _ (fun a w h => h) ?_
        have O := O.drawn (w.drawn + 1)
        generalize { w with drawn := w.drawn + 1 } = w at O ⊢
        have hS : SC [(b19, o19 + (k : Int).toNat * 1, .string (bs (e19))), (b23, o23 + (k : Int).toNat * 1, .string (bs (e23)))] w := (SC.cons (((O.old hb19 (by simp)).trans (hc19 _ _ he19 0 _ rfl))) (SC.cons (((O.old hb23 (by simp)).trans (hc23 _ _ he23 0 _ rfl))) SC.nil))
        refine d_take 0 rfl (by kernel_rfl) F (p_move rfl) rfl rfl hS fun a F => d_take 1 rfl (by kernel_rfl) F (p_move rfl) rfl rfl hS fun a F => d_take 2 rfl (by kernel_rfl) F (p_iaddr rfl rfl Tryd.underlying28 Tryd.sz_9 (by omega) (by omega)) rfl rfl hS fun a F => d_take 3 rfl (by kernel_rfl) F (p_load rfl Tryd.agg_9 (fun _ h => (SC.get h 0 rfl))) rfl rfl hS fun a F => d_take 4 rfl (by kernel_rfl) F (p_move rfl) rfl rfl hS fun a F => d_take 5 rfl (by kernel_rfl) F (p_move rfl) rfl rfl hS fun a F => d_take 6 rfl (by kernel_rfl) F (p_iaddr rfl rfl Tryd.underlying28 Tryd.sz_9 (by omega) (by omega)) rfl rfl hS fun a F => d_take 7 rfl (by kernel_rfl) F (p_load rfl Tryd.agg_9 (fun _ h => (SC.get h 1 rfl))) rfl rfl hS fun a F => d_take 8 rfl (by kernel_rfl) F (p_sne rfl rfl) rfl rfl hS fun a F => d_done (by kernel_rfl) (hK9 _ _ (?_))
        try clear hK9 K9
        by_cases c25 : e19 = e23
        · have F := F.setB (d := 25) rfl (decide_eq_false (fun h => h c25))
          refine c_iff F rfl (wp_skip (hK8 _ _ (?_)))
          try clear hK8 K8
          refine c_region (sp F (p_move rfl) rfl rfl fun a F => sp F (p_add rfl rfl (by omega) (by omega)) rfl rfl fun a F => sp F (p_assign rfl) rfl rfl fun a F => c_nil (?_))
          try rw [← hp23] at F
          try rw [← hp23] at O
          try rw [← hp19] at F
          try rw [← hp19] at O
          have F : Has 26 [(0, .slice A n c), (1, .slice A2 n2 c2), (10, .bool false), (5, .int .i64 (k + 1))] a := F.pick ⟨rfl, rfl, rfl, rfl, trivial⟩
          exact ⟨((n : Int) - (k + 1)).toNat, by omega, (k + 1), rfl, F, O, by first | assumption | omega, by first | assumption | omega, by exact sameTo_step hi0c hi0a he19 he23 c25⟩
        · have F := F.setB (d := 25) rfl (decide_eq_true c25)
          refine c_ift F rfl (c_seq fun K10 hK10 => c_region (sp F (p_assign rfl) rfl rfl fun a F => c_nil (hK10 _ _ (?_))))
          try clear hK10 K10
          refine wp_ret (r_block (r_then (r_then (r_block (r_then (ret1 F rfl rfl (?_)))))))
          exact ⟨congrArg Ending.returned (show Value.bool false = .bool (decide (es = es2)) from by exact vbf (fun h => by subst h; first | omega | (rw [he19] at he23; injection he23 with h9; exact c25 h9))), O⟩
      · have F := F.setB (d := 14) rfl (decide_eq_false c14)
        refine c_iff F rfl (wp_exit (e_then (e_then (e_here (hK4 _ _ (?_))))))
        try clear hK4 K4
        refine c_seq fun K8 hK8 => c_region (sp F (p_assign rfl) rfl rfl fun a F => c_nil (hK8 _ _ (?_)))
        try clear hK8 K8
        refine wp_ret (ret1 F rfl rfl (?_))
        exact ⟨congrArg Ending.returned (show Value.bool true = .bool (decide (es = es2)) from by exact vbt (same_ext hi0c (by omega) (by omega))), O⟩
  · have F := F.setB (d := 10) rfl (decide_eq_true c10)
    refine c_ift F rfl (c_seq fun K4 hK4 => c_region (sp F (p_assign rfl) rfl rfl fun a F => c_nil (hK4 _ _ (?_))))
    try clear hK4 K4
    refine wp_ret (r_then (ret1 F rfl rfl (?_)))
    exact ⟨congrArg Ending.returned (show Value.bool false = .bool (decide (es = es2)) from by exact vbf (fun h => by subst h; first | omega | (rw [he19] at he23; injection he23 with h9; exact c25 h9))), O⟩

set_option maxRecDepth 100000 in
/-- laws.sameTexts -/
theorem sameTexts_ok (A : Option Addr) (n : Nat) (c : Nat) (es : List (List UInt8)) (A2 : Option Addr) (n2 : Nat) (c2 : Nat) (es2 : List (List UInt8)) (w0 : World) (hA : Arr w0 encStr 1 A es) (hn : (n : Int) = es.length) (hb : (n : Int) ≤ 1048600) (hA2 : Arr w0 encStr 1 A2 es2) (hn2 : (n2 : Int) = es2.length) (hb2 : (n2 : Int) ≤ 1048600) :
    Calls Tryd.prog 26 #[.slice A n c, .slice A2 n2 c2] w0 fun e w => e = .returned (.bool (decide (es = es2))) ∧ Own w0 [] [] w := by
  have O := Own.start w0
  refine enterO (n := 26) Tryd.func26 rfl rfl rfl O fun a w F O => ?_
  refine c_seq fun K1 hK1 => c_region (sp F (p_assign rfl) rfl rfl fun a F => c_nil (hK1 _ _ (?_)))
  try clear hK1 K1
  refine c_seq fun K2 hK2 => c_seq fun K3 hK3 => c_region (sp F (p_move rfl) rfl rfl fun a F => sp F (p_len_l rfl Tryd.underlying28) rfl rfl fun a F => sp F (p_move rfl) rfl rfl fun a F => sp F (p_len_l rfl Tryd.underlying28) rfl rfl fun a F => sp F (p_neq rfl rfl) rfl rfl fun a F => c_nil (hK3 _ _ (?_)))
  try clear hK3 K3
  by_cases c10 : (n : Int) = (n2 : Int)
  · have F := F.setB (d := 10) rfl (decide_eq_false (fun h => h c10))
    refine c_iff F rfl (wp_skip (hK2 _ _ (?_)))
    try clear hK2 K2
    refine c_seq fun K4 hK4 => c_seq fun K5 hK5 => c_region (sp F (p_assign rfl) rfl rfl fun a F => c_nil (hK5 _ _ (?_)))
    try clear hK5 K5
    refine wp_block (?_)
    refine c_loop (fun mm a w => ∃ (k : Int), mm = ((n : Int) - k).toNat ∧ Has 26 [(0, .slice A n c), (1, .slice A2 n2 c2), (10, .bool false), (5, .int .i64 (k))] a ∧ Own w0 [] [] w ∧ (0 ≤ k) ∧ (k ≤ n) ∧ (SameTo k es es2)) ?_ ?_
    · have F : Has 26 [(0, .slice A n c), (1, .slice A2 n2 c2), (10, .bool false), (5, .int .i64 (0))] a := F.pick ⟨rfl, rfl, rfl, rfl, trivial⟩
      exact ⟨((n : Int) - 0).toNat, 0, rfl, F, O, by first | assumption | omega, by first | assumption | omega, by exact sameTo_zero⟩
    · rintro mm a w ⟨k, rfl, F, O, hi0a, hi0b, hi0c⟩
      refine c_seq fun K6 hK6 => c_seq fun K7 hK7 => c_region (sp F (p_move rfl) rfl rfl fun a F => sp F (p_move rfl) rfl rfl fun a F => sp F (p_len_l rfl Tryd.underlying28) rfl rfl fun a F => sp F (p_lss rfl rfl) rfl rfl fun a F => c_nil (hK7 _ _ (?_)))
      try clear hK7 K7
      by_cases c14 : k < (n : Int)
      · have F := F.setB (d := 14) rfl (decide_eq_true c14)
        refine c_ift F rfl (wp_skip (hK6 _ _ (?_)))
        try clear hK6 K6
        refine c_seq fun K8 hK8 => wp_block (c_seq fun K9 hK9 => ?_)
        obtain ⟨b19, o19, hp19, hb19, hc19⟩ := Arr.out hA (by omega)
        have hA19 := hA; rw [hp19] at hA19 F
        obtain ⟨e19, he19⟩ := get_some (l := es) (i := k) (by omega) (by first | omega | (simp; omega))
        obtain ⟨b23, o23, hp23, hb23, hc23⟩ := Arr.out hA2 (by omega)
        have hA23 := hA2; rw [hp23] at hA23 F
        obtain ⟨e23, he23⟩ := get_some (l := es2) (i := k) (by omega) (by first | omega | (simp; omega))
        refine c_draw Tryd.mixed (SC [(b19, o19 + (k : Int).toNat * 1, .string (bs (e19))), (b23, o23 + (k : Int).toNat * 1, .string (bs (e23)))]) [] _ (fun a w h => h) ?_
        have O := O.drawn (w.drawn + 1)
        generalize { w with drawn := w.drawn + 1 } = w at O ⊢
        have hS : SC [(b19, o19 + (k : Int).toNat * 1, .string (bs (e19))), (b23, o23 + (k : Int).toNat * 1, .string (bs (e23)))] w := (SC.cons (((O.old hb19 (by simp)).trans (hc19 _ _ he19 0 _ rfl))) (SC.cons (((O.old hb23 (by simp)).trans (hc23 _ _ he23 0 _ rfl))) SC.nil))
        refine d_take 0 rfl (by kernel_rfl) F (p_move rfl) rfl rfl hS fun a F => d_take 1 rfl (by kernel_rfl) F (p_move rfl) rfl rfl hS fun a F => d_take 2 rfl (by kernel_rfl) F (p_iaddr rfl rfl Tryd.underlying28 Tryd.sz_9 (by omega) (by omega)) rfl rfl hS fun a F => d_take 3 rfl (by kernel_rfl) F (p_load rfl Tryd.agg_9 (fun _ h => (SC.get h 0 rfl))) rfl rfl hS fun a F => d_take 4 rfl (by kernel_rfl) F (p_move rfl) rfl rfl hS fun a F => d_take 5 rfl (by kernel_rfl) F (p_move rfl) rfl rfl hS fun a F => d_take 6 rfl (by kernel_rfl) F (p_iaddr rfl rfl Tryd.underlying28 Tryd.sz_9 (by omega) (by omega)) rfl rfl hS fun a F => d_take 7 rfl (by kernel_rfl) F (p_load rfl Tryd.agg_9 (fun _ h => (SC.get h 1 rfl))) rfl rfl hS fun a F => d_take 8 rfl (by kernel_rfl) F (p_sne rfl rfl) rfl rfl hS fun a F => d_done (by kernel_rfl) (hK9 _ _ (?_))
        try clear hK9 K9
        by_cases c25 : e19 = e23
        · have F := F.setB (d := 25) rfl (decide_eq_false (fun h => h c25))
          refine c_iff F rfl (wp_skip (hK8 _ _ (?_)))
          try clear hK8 K8
          refine c_region (sp F (p_move rfl) rfl rfl fun a F => sp F (p_add rfl rfl (by omega) (by omega)) rfl rfl fun a F => sp F (p_assign rfl) rfl rfl fun a F => c_nil (?_))
          try rw [← hp23] at F
          try rw [← hp23] at O
          try rw [← hp19] at F
          try rw [← hp19] at O
          have F : Has 26 [(0, .slice A n c), (1, .slice A2 n2 c2), (10, .bool false), (5, .int .i64 (k + 1))] a := F.pick ⟨rfl, rfl, rfl, rfl, trivial⟩
          exact ⟨((n : Int) - (k + 1)).toNat, by omega, (k + 1), rfl, F, O, by first | assumption | omega, by first | assumption | omega, by exact sameTo_step hi0c hi0a he19 he23 c25⟩
        · have F := F.setB (d := 25) rfl (decide_eq_true c25)
          refine c_ift F rfl (c_seq fun K10 hK10 => c_region (sp F (p_assign rfl) rfl rfl fun a F => c_nil (hK10 _ _ (?_))))
          try clear hK10 K10
          refine wp_ret (r_block (r_then (r_then (r_block (r_then (ret1 F rfl rfl (?_)))))))
          exact ⟨congrArg Ending.returned (show Value.bool false = .bool (decide (es = es2)) from by exact vbf (fun h => by subst h; first | omega | (rw [he19] at he23; injection he23 with h9; exact c25 h9))), O⟩
      · have F := F.setB (d := 14) rfl (decide_eq_false c14)
        refine c_iff F rfl (wp_exit (e_then (e_then (e_here (hK4 _ _ (?_))))))
        try clear hK4 K4
        refine c_seq fun K8 hK8 => c_region (sp F (p_assign rfl) rfl rfl fun a F => c_nil (hK8 _ _ (?_)))
        try clear hK8 K8
        refine wp_ret (ret1 F rfl rfl (?_))
        exact ⟨congrArg Ending.returned (show Value.bool true = .bool (decide (es = es2)) from by exact vbt (same_ext hi0c (by omega) (by omega))), O⟩
  · have F := F.setB (d := 10) rfl (decide_eq_true c10)
    refine c_ift F rfl (c_seq fun K4 hK4 => c_region (sp F (p_assign rfl) rfl rfl fun a F => c_nil (hK4 _ _ (?_))))
    try clear hK4 K4
    refine wp_ret (r_then (ret1 F rfl rfl (?_)))
    exact ⟨congrArg Ending.returned (show Value.bool false = .bool (decide (es = es2)) from by exact vbf (fun h => by subst h; first | omega | (rw [he19] at he23; injection he23 with h9; exact c25 h9))), O⟩

set_option maxRecDepth 100000 in
/-- laws.markStringS -/
theorem markStringS_nil (k : Int) (w0 : World) (h0 : 0 ≤ k) (h1 : k ≤ 100000000) :
    Calls Tryd.prog 31 #[.slice none 0 0, .int .i64 (k)] w0 fun e w => e = .returned (.int .i64 (k)) ∧ Own w0 [] [] w := by
  have O := Own.start w0
  refine enterO (n := 20) Tryd.func31 rfl rfl rfl O fun a w F O => ?_
  refine c_seq fun K1 hK1 => c_region (sp F (p_assign rfl) rfl rfl fun a F => c_nil (hK1 _ _ (?_)))
  try clear hK1 K1
  refine c_seq fun K2 hK2 => c_seq fun K3 hK3 => c_region (sp F (p_assign rfl) rfl rfl fun a F => c_nil (hK3 _ _ (?_)))
  try clear hK3 K3
  refine wp_block (?_)
  refine c_loop (fun mm a w => mm = 0 ∧ Has 20 [(0, .slice none 0 0), (4, .int .i64 (0)), (5, .int .i64 (0)), (1, .int .i64 (k))] a ∧ Own w0 [] [] w) ?_ ?_
  · have F : Has 20 [(0, .slice none 0 0), (4, .int .i64 (0)), (5, .int .i64 (0)), (1, .int .i64 (k))] a := F.pick ⟨rfl, rfl, rfl, rfl, trivial⟩
    exact ⟨0, rfl, F, O⟩
  · rintro mm a w ⟨rfl, F, O⟩
    refine c_seq fun K4 hK4 => c_seq fun K5 hK5 => c_region (sp F (p_move rfl) rfl rfl fun a F => sp F (p_move rfl) rfl rfl fun a F => sp F (p_len_l rfl Tryd.underlying28) rfl rfl fun a F => sp F (p_lss rfl rfl) rfl rfl fun a F => ?_)
    have c9 : ¬ (0 < (0 : Int)) := by omega
    have F := F.setB (d := 9) rfl (decide_eq_false c9)
    refine c_nil (hK5 _ _ (?_))
    try clear hK5 K5
    refine c_iff F rfl (wp_exit (e_then (e_then (e_here (hK2 _ _ (?_))))))
    try clear hK2 K2
    refine c_seq fun K6 hK6 => c_region (sp F (p_move rfl) rfl rfl fun a F => sp F (p_assign rfl) rfl rfl fun a F => c_nil (hK6 _ _ (?_)))
    try clear hK6 K6
    refine wp_ret (ret1 F rfl rfl (?_))
    exact ⟨rfl, O⟩

set_option maxRecDepth 100000 in
/-- laws.markStringS -/
theorem markStringS_some (b : Nat) (n : Nat) (c : Nat) (es : List (List UInt8)) (k : Int) (w0 : World) (hn : (n : Int) = es.length) (hb : (n : Int) ≤ 1048600) (h0 : 0 ≤ k) (h1 : k ≤ 10000000) (O : Own w0 [b] [.row 9 1 (.slice (some ⟨b, 0, none⟩) n c) n (es.flatMap encStr)] w0) :
    Calls Tryd.prog 31 #[.slice (some ⟨b, 0, none⟩) n c, .int .i64 (k)] w0 fun e w => ∃ (es1 : List (List UInt8)), e = .returned (.int .i64 (k + (n : Int))) ∧ ((n : Int) = es1.length) ∧ (MarksS es1 k) ∧ Own w0 [b] [.row 9 1 (.slice (some ⟨b, 0, none⟩) n c) n (es1.flatMap encStr)] w := by
  refine enterO (n := 20) Tryd.func31 rfl rfl rfl O fun a w F O => ?_
  refine c_seq fun K1 hK1 => c_region (sp F (p_assign rfl) rfl rfl fun a F => c_nil (hK1 _ _ (?_)))
  try clear hK1 K1
  refine c_seq fun K2 hK2 => c_seq fun K3 hK3 => c_region (sp F (p_assign rfl) rfl rfl fun a F => c_nil (hK3 _ _ (?_)))
  try clear hK3 K3
  refine wp_block (?_)
  refine c_loop (fun mm a w => ∃ (i : Int), ∃ (es1 : List (List UInt8)), mm = ((n : Int) - i).toNat ∧ Has 20 [(0, .slice (some ⟨b, 0, none⟩) n c), (4, .int .i64 (0)), (5, .int .i64 (i)), (1, .int .i64 (k + i))] a ∧ Own w0 [b] [.row 9 1 (.slice (some ⟨b, 0, none⟩) n c) n (es1.flatMap encStr)] w ∧ (0 ≤ i) ∧ (i ≤ n) ∧ ((es1.length : Int) = n) ∧ (MarksSTo es1 k i)) ?_ ?_
  · have F := F.setV (d := 1) rfl (show Value.int .i64 (k) = .int .i64 (k + 0) from by first | rfl | exact vint (by omega) | exact vint (by simp; done) | exact vsl (by omega) | (simp; done))
    have F : Has 20 [(0, .slice (some ⟨b, 0, none⟩) n c), (4, .int .i64 (0)), (5, .int .i64 (0)), (1, .int .i64 (k + 0))] a := F.pick ⟨rfl, rfl, rfl, rfl, trivial⟩
    exact ⟨((n : Int) - 0).toNat, 0, es, rfl, F, O, by first | assumption | omega, by first | assumption | omega, by first | assumption | omega, by exact marksSTo_zero⟩
  · rintro mm a w ⟨i, es1, rfl, F, O, hi0a, hi0b, hi0c, hi0d⟩
    refine c_seq fun K4 hK4 => c_seq fun K5 hK5 => c_region (sp F (p_move rfl) rfl rfl fun a F => sp F (p_move rfl) rfl rfl fun a F => sp F (p_len_l rfl Tryd.underlying28) rfl rfl fun a F => sp F (p_lss rfl rfl) rfl rfl fun a F => c_nil (hK5 _ _ (?_)))
    try clear hK5 K5
    by_cases c9 : i < (n : Int)
    · have F := F.setB (d := 9) rfl (decide_eq_true c9)
      refine c_ift F rfl (wp_skip (hK4 _ _ (?_)))
      try clear hK4 K4
      refine c_seq fun K6 hK6 => wp_block (c_seq fun K7 hK7 => c_region (sp F (p_move rfl) rfl rfl fun a F => sp F (p_move rfl) rfl rfl fun a F => sp F (p_move rfl) rfl rfl fun a F => so F rfl (o_call (vs := #[.int .i64 (k + i)]) F Tryd.en_46 rfl rfl ((markText_ok (k + i) w (by omega) (by omega)).mono ?_))))
      rintro e w ⟨rfl, K⟩
      refine ⟨_, rfl, fun a F => ?_⟩
      have O : Own w0 [b] [.row 9 1 (.slice (some ⟨b, 0, none⟩) n c) n (es1.flatMap encStr)] w := O.call0 K
      clear K
      have O : Own w0 [b] [.row 9 1 (.slice (some ⟨b, 0, none⟩) n c) n (es1.flatMap encStr)] w := O
      obtain ⟨e16, he16⟩ := get_some (l := es1) (i := i) (by omega) (by first | omega | (simp; omega))
      refine sp F (p_iaddr rfl rfl Tryd.underlying28 Tryd.sz_9 (by omega) (by omega)) rfl rfl fun a F => so F rfl (o_storeRow F O rfl rfl Tryd.sz_9 rfl rfl 0 rfl (by rw [flat_len encStr_len]; first | omega | (simp; omega)) fun w O => ?_)
      have hst : (es1.flatMap encStr).set (0 + (i : Int).toNat * 1) (.string (bs (mtext (k + i)))) = (es1.set (i : Int).toNat (mtext (k + i))).flatMap encStr := flat_set encStr_len he16 (j := 0) rfl (by decide)
      have O := O.setR 0 rfl (congrArg (Res.row 9 1 (.slice (some ⟨b, 0, none⟩) n c) n) hst)
      have O : Own w0 [b] [.row 9 1 (.slice (some ⟨b, 0, none⟩) n c) n ((es1.set (i : Int).toNat (mtext (k + i))).flatMap encStr)] w := O
      refine c_nil (hK7 _ _ (?_))
      try clear hK7 K7
      refine c_region (sp F (p_move rfl) rfl rfl fun a F => sp F (p_add rfl rfl (by omega) (by omega)) rfl rfl fun a F => sp F (p_assign rfl) rfl rfl fun a F => c_nil (hK6 _ _ (?_)))
      try clear hK6 K6
      refine c_region (sp F (p_move rfl) rfl rfl fun a F => sp F (p_add rfl rfl (by omega) (by omega)) rfl rfl fun a F => sp F (p_assign rfl) rfl rfl fun a F => c_nil (?_))
      have F := F.setV (d := 1) rfl (show Value.int .i64 ((k + i) + 1) = .int .i64 (k + (i + 1)) from by first | rfl | exact vint (by omega) | exact vint (by simp; done) | exact vsl (by omega) | (simp; done))
      have F : Has 20 [(0, .slice (some ⟨b, 0, none⟩) n c), (4, .int .i64 (0)), (5, .int .i64 (i + 1)), (1, .int .i64 (k + (i + 1)))] a := F.pick ⟨rfl, rfl, rfl, rfl, trivial⟩
      exact ⟨((n : Int) - (i + 1)).toNat, by omega, (i + 1), (es1.set (i : Int).toNat (mtext (k + i))), rfl, F, O, by first | assumption | omega, by first | assumption | omega, by simp; omega, by exact marksSTo_set hi0d hi0a (by omega)⟩
    · have F := F.setB (d := 9) rfl (decide_eq_false c9)
      refine c_iff F rfl (wp_exit (e_then (e_then (e_here (hK2 _ _ (?_))))))
      try clear hK2 K2
      refine c_seq fun K6 hK6 => c_region (sp F (p_move rfl) rfl rfl fun a F => sp F (p_assign rfl) rfl rfl fun a F => c_nil (hK6 _ _ (?_)))
      try clear hK6 K6
      refine wp_ret (ret1 F rfl rfl (?_))
      exact ⟨es1, congrArg Ending.returned (show Value.int .i64 (k + i) = .int .i64 (k + (n : Int)) from by first | exact vint (by omega) | exact vint (by simp; done)), by first | assumption | omega, by exact marksS_of hi0d (by omega), O⟩


theorem markStringS (P : Option Addr) (n c : Nat) (es : List (List UInt8)) (k : Int) (w0 : World) (hn : (n : Int) = es.length) (hb : (n : Int) ≤ 1048600) (h0 : 0 ≤ k) (h1 : k ≤ 10000000) (O : Own w0 (Value.slice P n c).ownBlock.toList [.row 9 1 (.slice P n c) n (es.flatMap encStr)] w0) :
    Calls Tryd.prog 31 #[.slice P n c, .int .i64 k] w0 fun e w => ∃ (es1 : List (List UInt8)), e = .returned (.int .i64 (k + (n : Int))) ∧ ((n : Int) = es1.length) ∧ (MarksS es1 k) ∧ Own w0 (Value.slice P n c).ownBlock.toList [.row 9 1 (.slice P n c) n (es1.flatMap encStr)] w := by
  have hr : w0.ownsRow 0 9 1 (.slice P n c) n (es.flatMap encStr) := O.has (i := 0) rfl
  rcases slice_row hr with ⟨rfl, rfl, rfl⟩ | ⟨b, rfl⟩
  · refine (markStringS_nil k w0 h0 (by omega)).mono fun e w h => ?_
    refine ⟨[], h.1.trans (by simp), rfl, fun i e he => by simp at he, ?_⟩
    have O2 := h.2.addNil 9 1
    exact O2
  · exact markStringS_some b n c es k w0 hn hb h0 h1 O

set_option maxRecDepth 100000 in
/-- laws.heldStringS -/
theorem heldStringS_ok (A : Option Addr) (n : Nat) (c : Nat) (es : List (List UInt8)) (k : Int) (w0 : World) (hA : Arr w0 encStr 1 A es) (hn : (n : Int) = es.length) (hb : (n : Int) ≤ 1048600) (hm : MarksS es k) (h0 : 0 ≤ k) (h1 : k ≤ 10000000) :
    Calls Tryd.prog 32 #[.slice A n c, .int .i64 (k)] w0 fun e w => e = .returned (.int .i64 (k + (n : Int))) ∧ Own w0 [] [] w := by
  have O := Own.start w0
  refine enterO (n := 22) Tryd.func32 rfl rfl rfl O fun a w F O => ?_
  refine c_seq fun K1 hK1 => c_region (sp F (p_assign rfl) rfl rfl fun a F => c_nil (hK1 _ _ (?_)))
  try clear hK1 K1
  refine c_seq fun K2 hK2 => c_seq fun K3 hK3 => c_region (sp F (p_assign rfl) rfl rfl fun a F => c_nil (hK3 _ _ (?_)))
  try clear hK3 K3
  refine wp_block (?_)
  refine c_loop (fun mm a w => ∃ (i : Int), mm = ((n : Int) - i).toNat ∧ Has 22 [(0, .slice A n c), (5, .int .i64 (i)), (1, .int .i64 (k + i))] a ∧ Own w0 [] [] w ∧ (0 ≤ i) ∧ (i ≤ n)) ?_ ?_
  · have F := F.setV (d := 1) rfl (show Value.int .i64 (k) = .int .i64 (k + 0) from by first | rfl | exact vint (by omega) | exact vint (by simp; done) | exact vsl (by omega) | (simp; done))
    have F : Has 22 [(0, .slice A n c), (5, .int .i64 (0)), (1, .int .i64 (k + 0))] a := F.pick ⟨rfl, rfl, rfl, trivial⟩
    exact ⟨((n : Int) - 0).toNat, 0, rfl, F, O, by first | assumption | omega, by first | assumption | omega⟩
  · rintro mm a w ⟨i, rfl, F, O, hi0a, hi0b⟩
    refine c_seq fun K4 hK4 => c_seq fun K5 hK5 => c_region (sp F (p_move rfl) rfl rfl fun a F => sp F (p_move rfl) rfl rfl fun a F => sp F (p_len_l rfl Tryd.underlying28) rfl rfl fun a F => sp F (p_lss rfl rfl) rfl rfl fun a F => c_nil (hK5 _ _ (?_)))
    try clear hK5 K5
    by_cases c9 : i < (n : Int)
    · have F := F.setB (d := 9) rfl (decide_eq_true c9)
      refine c_ift F rfl (wp_skip (hK4 _ _ (?_)))
      try clear hK4 K4
      refine c_seq fun K6 hK6 => wp_block (c_seq fun K7 hK7 => c_seq fun K8 hK8 => ?_)
      obtain ⟨b14, o14, hp14, hb14, hc14⟩ := Arr.out hA (by omega)
      have hA14 := hA; rw [hp14] at hA14 F
      obtain ⟨e14, he14⟩ := get_some (l := es) (i := i) (by omega) (by first | omega | (simp; omega))
      refine c_draw Tryd.mixed (SC [(b14, o14 + (i : Int).toNat * 1, .string (bs (e14)))]) [] _ (fun a w h => h) ?_
      have O := O.drawn (w.drawn + 1)
      generalize { w with drawn := w.drawn + 1 } = w at O ⊢
      have hS : SC [(b14, o14 + (i : Int).toNat * 1, .string (bs (e14)))] w := (SC.cons (((O.old hb14 (by simp)).trans (hc14 _ _ he14 0 _ rfl))) SC.nil)
      refine d_take 0 rfl (by kernel_rfl) F (p_move rfl) rfl rfl hS fun a F => d_take 1 rfl (by kernel_rfl) F (p_move rfl) rfl rfl hS fun a F => d_take 2 rfl (by kernel_rfl) F (p_iaddr rfl rfl Tryd.underlying28 Tryd.sz_9 (by omega) (by omega)) rfl rfl hS fun a F => d_take 3 rfl (by kernel_rfl) F (p_load rfl Tryd.agg_9 (fun _ h => (SC.get h 0 rfl))) rfl rfl hS fun a F => d_take 4 rfl (by kernel_rfl) F (p_move rfl) rfl rfl hS fun a F => d_one 5 (by kernel_rfl) (d_op rfl F rfl (o_call (vs := #[.int .i64 (k + i)]) F Tryd.en_46 rfl rfl ((markText_ok (k + i) w (by omega) (by omega)).mono ?_)))
      rintro e w ⟨rfl, K⟩
      refine ⟨_, rfl, fun a F => ?_⟩
      have O : Own w0 [] [] w := O.call0 K
      clear K
      have O : Own w0 [] [] w := O
      refine ⟨fun _ => (SC.cons (((O.old hb14 (by simp)).trans (hc14 _ _ he14 0 _ rfl))) SC.nil), ?_⟩
      have hS : SC [(b14, o14 + (i : Int).toNat * 1, .string (bs (e14)))] w := (SC.cons (((O.old hb14 (by simp)).trans (hc14 _ _ he14 0 _ rfl))) SC.nil)
      refine d_take 6 rfl (by kernel_rfl) F (p_sne rfl rfl) rfl rfl hS fun a F => ?_
      have c18 : e14 = (mtext (k + i)) := by rw [hm _ _ he14, Int.toNat_of_nonneg hi0a]
      have F := F.setB (d := 18) rfl (decide_eq_false (fun h => h c18))
      refine d_done (by kernel_rfl) (hK8 _ _ (?_))
      try clear hK8 K8
      refine c_iff F rfl (wp_skip (hK7 _ _ (?_)))
      try clear hK7 K7
      refine c_region (sp F (p_move rfl) rfl rfl fun a F => sp F (p_add rfl rfl (by omega) (by omega)) rfl rfl fun a F => sp F (p_assign rfl) rfl rfl fun a F => c_nil (hK6 _ _ (?_)))
      try clear hK6 K6
      refine c_region (sp F (p_move rfl) rfl rfl fun a F => sp F (p_add rfl rfl (by omega) (by omega)) rfl rfl fun a F => sp F (p_assign rfl) rfl rfl fun a F => c_nil (?_))
      try rw [← hp14] at F
      try rw [← hp14] at O
      have F := F.setV (d := 1) rfl (show Value.int .i64 ((k + i) + 1) = .int .i64 (k + (i + 1)) from by first | rfl | exact vint (by omega) | exact vint (by simp; done) | exact vsl (by omega) | (simp; done))
      have F : Has 22 [(0, .slice A n c), (5, .int .i64 (i + 1)), (1, .int .i64 (k + (i + 1)))] a := F.pick ⟨rfl, rfl, rfl, trivial⟩
      exact ⟨((n : Int) - (i + 1)).toNat, by omega, (i + 1), rfl, F, O, by first | assumption | omega, by first | assumption | omega⟩
    · have F := F.setB (d := 9) rfl (decide_eq_false c9)
      refine c_iff F rfl (wp_exit (e_then (e_then (e_here (hK2 _ _ (?_))))))
      try clear hK2 K2
      refine c_seq fun K6 hK6 => c_region (sp F (p_move rfl) rfl rfl fun a F => sp F (p_assign rfl) rfl rfl fun a F => c_nil (hK6 _ _ (?_)))
      try clear hK6 K6
      refine wp_ret (ret1 F rfl rfl (?_))
      exact ⟨congrArg Ending.returned (show Value.int .i64 (k + i) = .int .i64 (k + (n : Int)) from by first | exact vint (by omega) | exact vint (by simp; done)), O⟩

end Go.Proofs.YtjmnnogpinggmaaDoor
