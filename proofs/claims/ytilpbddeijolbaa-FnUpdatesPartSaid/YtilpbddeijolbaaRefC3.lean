/- Contracts of functions on differences of refs. No conditions but those on lengths. -/
import Derived.Test.YtilpbddeijolbaaRefC2
namespace Go.Proofs.Ytilpbddeijolbaa
open Go.ChangeShapes Go.WideShapes Go.ChangeAt Go.RowKit
set_option linter.unusedVariables false
set_option linter.unusedSimpArgs false

set_option maxRecDepth 100000 in
/-- spec.RefsDiffer -/
theorem sRefsDiffer_ok (A : Option Addr) (n : Nat) (c : Nat) (es : List (Int)) (A2 : Option Addr) (n2 : Nat) (c2 : Nat) (es2 : List (Int)) (w0 : World) (hA : Arr w0 encInt 1 A es) (hn : (n : Int) = es.length) (hb : (n : Int) ≤ 1048600) (hA2 : Arr w0 encInt 1 A2 es2) (hn2 : (n2 : Int) = es2.length) (hb2 : (n2 : Int) ≤ 1048600) :
    Calls Try.prog 42 #[.slice A n c, .slice A2 n2 c2] w0 fun e w => ∃ (P : Option Addr), ∃ (N : Nat), ∃ (C : Nat), e = .returned (.slice P N C) ∧ ((N : Int) = (RD es es2).length) ∧ ((N : Int) ≤ 1048600) ∧ Own w0 [] [.row 51 3 (.slice P N C) N ((RD es es2).flatMap encUp)] w := by
  have O := Own.start w0
  refine enterO (n := 43) Try.func42 rfl rfl rfl O fun a w F O => ?_
  refine c_seq fun K1 hK1 => c_region (sp F (p_assign rfl) rfl rfl fun a F => c_nil (hK1 _ _ (?_)))
  try clear hK1 K1
  refine c_seq fun K2 hK2 => c_region (so F rfl (o_bslice (cs := []) F O rfl Try.underlying32 Try.sz_51 Try.zero_51 rfl rfl rfl fun b7 w O a F => ?_))
  have O : Own w0 [] [.cells b7 [] 51] w := O
  refine sp F (p_assign rfl) rfl rfl fun a F => c_nil (hK2 _ _ (?_))
  try clear hK2 K2
  refine c_seq fun K3 hK3 => c_seq fun K4 hK4 => c_region (sp F (p_assign rfl) rfl rfl fun a F => c_nil (hK4 _ _ (?_)))
  try clear hK4 K4
  refine wp_block (?_)
  refine c_loop (fun mm a w => ∃ (k : Int), ∃ (P : Option Addr), ∃ (N : Nat), ∃ (C : Nat), ∃ (L1 : List (Int × Int × Int)), mm = ((4 : Int) - k).toNat ∧ Has 43 [(0, .slice A n c), (1, .slice A2 n2 c2), (4, .slice none 0 0), (6, .int .i64 (k)), (5, .slice P N C)] a ∧ Own w0 [] [.row 51 3 (.slice P N C) N (L1.flatMap encUp)] w ∧ (0 ≤ k) ∧ (k ≤ 4) ∧ ((N : Int) = L1.length) ∧ ((N : Int) ≤ k) ∧ (L1 = diffs es es2 k) ∧ (0 < k → RVal es ∧ RVal es2)) ?_ ?_
  · have F : Has 43 [(0, .slice A n c), (1, .slice A2 n2 c2), (4, .slice none 0 0), (6, .int .i64 (0)), (5, .slice (some ⟨b7, 0, none⟩) 0 0)] a := F.pick ⟨rfl, rfl, rfl, rfl, rfl, trivial⟩
    have O := O.asRow 0 (q := 0) (sz := 3) rfl rfl (by unfold maxLen; omega)
    have O : Own w0 [] [.row 51 3 (.slice (some ⟨b7, 0, none⟩) 0 0) 0 ([])] w := O
    have O := O.setR 0 rfl (show Res.row 51 3 (.slice (some ⟨b7, 0, none⟩) 0 0) 0 ([]) = .row 51 3 (.slice (some ⟨b7, 0, none⟩) 0 0) 0 (([]).flatMap encUp) from by rfl)
    have O : Own w0 [] [.row 51 3 (.slice (some ⟨b7, 0, none⟩) 0 0) 0 (([]).flatMap encUp)] w := O
    exact ⟨((4 : Int) - 0).toNat, 0, (some ⟨b7, 0, none⟩), 0, 0, ([]), rfl, F, O, by first | assumption | omega, by first | assumption | omega, by rfl, by first | assumption | omega, by rfl, by omega⟩
  · rintro mm a w ⟨k, P, N, C, L1, rfl, F, O, hi0a, hi0b, hi0c, hi0d, hi0e, hi0f⟩
    refine c_seq fun K5 hK5 => c_seq fun K6 hK6 => c_region (sp F (p_move rfl) rfl rfl fun a F => sp F (p_lss rfl rfl) rfl rfl fun a F => sp F (p_move rfl) rfl rfl fun a F => ?_)
    by_cases c10 : k < 4
    · have F := F.setB (d := 9) rfl (decide_eq_true c10)
      have F := F.setB (d := 10) rfl (decide_eq_true c10)
      refine sp F (p_move rfl) rfl rfl fun a F => so F rfl (o_call (vs := #[.slice A n c]) F Try.en_21 rfl rfl ((sRefsValid_ok A n c es w (hA.keep O) (by first | omega | (simp; done) | (simp; omega) | (simp at *; omega)) (by omega)).mono ?_))
      rintro e w ⟨rfl, K⟩
      refine ⟨_, rfl, fun a F => ?_⟩
      have O : Own w0 [] [.row 51 3 (.slice P N C) N (L1.flatMap encUp)] w := O.call0 K
      clear K
      have O : Own w0 [] [.row 51 3 (.slice P N C) N (L1.flatMap encUp)] w := O
      refine sp F (p_pick (t := true) rfl rfl) rfl rfl fun a F => sp F (p_move rfl) rfl rfl fun a F => ?_
      by_cases c14 : es.length = 4 ∧ okIn (-1) (990) es = true
      · have F := F.setB (d := 12) rfl (decide_eq_true c14)
        have F := F.setB (d := 13) rfl (decide_eq_true c14)
        have F := F.setB (d := 14) rfl (decide_eq_true c14)
        refine sp F (p_move rfl) rfl rfl fun a F => so F rfl (o_call (vs := #[.slice A2 n2 c2]) F Try.en_21 rfl rfl ((sRefsValid_ok A2 n2 c2 es2 w (hA2.keep O) (by first | omega | (simp; done) | (simp; omega) | (simp at *; omega)) (by omega)).mono ?_))
        rintro e w ⟨rfl, K⟩
        refine ⟨_, rfl, fun a F => ?_⟩
        have O : Own w0 [] [.row 51 3 (.slice P N C) N (L1.flatMap encUp)] w := O.call0 K
        clear K
        have O : Own w0 [] [.row 51 3 (.slice P N C) N (L1.flatMap encUp)] w := O
        refine sp F (p_pick (t := true) rfl rfl) rfl rfl fun a F => c_nil (hK6 _ _ (?_))
        try clear hK6 K6
        by_cases c17 : es2.length = 4 ∧ okIn (-1) (990) es2 = true
        · have F := F.setB (d := 16) rfl (decide_eq_true c17)
          have F := F.setB (d := 17) rfl (decide_eq_true c17)
          refine c_ift F rfl (wp_skip (hK5 _ _ (?_)))
          try clear hK5 K5
          refine c_seq fun K7 hK7 => wp_block (c_seq fun K8 hK8 => ?_)
          obtain ⟨b22, o22, hp22, hb22, hc22⟩ := Arr.out hA (by omega)
          have hA22 := hA; rw [hp22] at hA22 F
          obtain ⟨e22, he22⟩ := get_some (l := es) (i := k) (by omega) (by first | omega | (simp; omega))
          obtain ⟨b26, o26, hp26, hb26, hc26⟩ := Arr.out hA2 (by omega)
          have hA26 := hA2; rw [hp26] at hA26 F
          obtain ⟨e26, he26⟩ := get_some (l := es2) (i := k) (by omega) (by first | omega | (simp; omega))
          refine c_draw Try.mixed (SC [(b22, o22 + (k : Int).toNat * 1, .int .i64 (e22)), (b26, o26 + (k : Int).toNat * 1, .int .i64 (e26))]) [] _ (fun a w h => h) ?_
          have O := O.drawn (w.drawn + 1)
          generalize { w with drawn := w.drawn + 1 } = w at O ⊢
          have hS : SC [(b22, o22 + (k : Int).toNat * 1, .int .i64 (e22)), (b26, o26 + (k : Int).toNat * 1, .int .i64 (e26))] w := (SC.cons (((O.old hb22 (by simp)).trans (hc22 _ _ he22 0 _ rfl))) (SC.cons (((O.old hb26 (by simp)).trans (hc26 _ _ he26 0 _ rfl))) SC.nil))
          refine d_take 0 rfl (by kernel_rfl) F (p_move rfl) rfl rfl hS fun a F => d_take 1 rfl (by kernel_rfl) F (p_move rfl) rfl rfl hS fun a F => d_take 2 rfl (by kernel_rfl) F (p_iaddr rfl rfl Try.underlying22 Try.sz_3 (by omega) (by omega)) rfl rfl hS fun a F => d_take 3 rfl (by kernel_rfl) F (p_load rfl Try.agg_3 (fun _ h => (SC.get h 0 rfl))) rfl rfl hS fun a F => d_take 4 rfl (by kernel_rfl) F (p_move rfl) rfl rfl hS fun a F => d_take 5 rfl (by kernel_rfl) F (p_move rfl) rfl rfl hS fun a F => d_take 6 rfl (by kernel_rfl) F (p_iaddr rfl rfl Try.underlying22 Try.sz_3 (by omega) (by omega)) rfl rfl hS fun a F => d_take 7 rfl (by kernel_rfl) F (p_load rfl Try.agg_3 (fun _ h => (SC.get h 1 rfl))) rfl rfl hS fun a F => d_take 8 rfl (by kernel_rfl) F (p_neq rfl rfl) rfl rfl hS fun a F => d_done (by kernel_rfl) (hK8 _ _ (?_))
          try clear hK8 K8
          by_cases c28 : e22 = e26
          · have F := F.setB (d := 28) rfl (decide_eq_false (fun h => h c28))
            refine c_iff F rfl (wp_skip (hK7 _ _ (?_)))
            try clear hK7 K7
            refine c_region (sp F (p_move rfl) rfl rfl fun a F => sp F (p_add rfl rfl (by omega) (by omega)) rfl rfl fun a F => sp F (p_assign rfl) rfl rfl fun a F => c_nil (?_))
            try rw [← hp26] at F
            try rw [← hp26] at O
            try rw [← hp22] at F
            try rw [← hp22] at O
            have F : Has 43 [(0, .slice A n c), (1, .slice A2 n2 c2), (4, .slice none 0 0), (6, .int .i64 (k + 1)), (5, .slice P N C)] a := F.pick ⟨rfl, rfl, rfl, rfl, rfl, trivial⟩
            exact ⟨((4 : Int) - (k + 1)).toNat, by omega, (k + 1), P, N, C, L1, rfl, F, O, by first | assumption | omega, by first | assumption | omega, by first | omega | (simp; omega), by first | assumption | omega, by first | (rw [diffs_ne hi0a he22 he26 c28, ← hi0e]; done) | (rw [diffs_eq hi0a he22 he26 c28, ← hi0e]; done), by exact fun _ => ⟨c14, c17⟩⟩
          · have F := F.setB (d := 28) rfl (decide_eq_true c28)
            refine c_ift F rfl (?_)
            refine c_draw Try.mixed (SC [(b22, o22 + (k : Int).toNat * 1, .int .i64 (e22)), (b26, o26 + (k : Int).toNat * 1, .int .i64 (e26))]) [] _ (fun a w h => h) ?_
            have O := O.drawn (w.drawn + 1)
            generalize { w with drawn := w.drawn + 1 } = w at O ⊢
            have hS : SC [(b22, o22 + (k : Int).toNat * 1, .int .i64 (e22)), (b26, o26 + (k : Int).toNat * 1, .int .i64 (e26))] w := (SC.cons (((O.old hb22 (by simp)).trans (hc22 _ _ he22 0 _ rfl))) (SC.cons (((O.old hb26 (by simp)).trans (hc26 _ _ he26 0 _ rfl))) SC.nil))
            refine d_take 0 rfl (by kernel_rfl) F (p_move rfl) rfl rfl hS fun a F => d_take 1 rfl (by kernel_rfl) F (p_move rfl) rfl rfl hS fun a F => d_take 2 rfl (by kernel_rfl) F (p_move rfl) rfl rfl hS fun a F => d_take 3 rfl (by kernel_rfl) F (p_move rfl) rfl rfl hS fun a F => d_take 4 rfl (by kernel_rfl) F (p_iaddr rfl rfl Try.underlying22 Try.sz_3 (by omega) (by omega)) rfl rfl hS fun a F => d_take 5 rfl (by kernel_rfl) F (p_load rfl Try.agg_3 (fun _ h => (SC.get h 0 rfl))) rfl rfl hS fun a F => d_take 6 rfl (by kernel_rfl) F (p_move rfl) rfl rfl hS fun a F => d_take 7 rfl (by kernel_rfl) F (p_move rfl) rfl rfl hS fun a F => d_take 8 rfl (by kernel_rfl) F (p_iaddr rfl rfl Try.underlying22 Try.sz_3 (by omega) (by omega)) rfl rfl hS fun a F => d_take 9 rfl (by kernel_rfl) F (p_load rfl Try.agg_3 (fun _ h => (SC.get h 1 rfl))) rfl rfl hS fun a F => d_take 10 rfl (by kernel_rfl) F (p_build (cs := [.int .i64 (k), .int .i64 (e22), .int .i64 (e26)]) rfl Try.places_51 rfl) rfl rfl hS fun a F => d_one 11 (by kernel_rfl) (d_op rfl F rfl (o_bslice (cs := [.int .i64 (k), .int .i64 (e22), .int .i64 (e26)]) F O rfl Try.underlying32 Try.sz_51 Try.zero_51 rfl rfl rfl fun b40 w O a F => ?_))
            have O : Own w0 [] [.cells b40 [.int .i64 (k), .int .i64 (e22), .int .i64 (e26)] 51, .row 51 3 (.slice P N C) N (L1.flatMap encUp)] w := O
            refine ⟨fun _ => (SC.cons (((O.old hb22 (by simp)).trans (hc22 _ _ he22 0 _ rfl))) (SC.cons (((O.old hb26 (by simp)).trans (hc26 _ _ he26 0 _ rfl))) SC.nil)), ?_⟩
            have hS : SC [(b22, o22 + (k : Int).toNat * 1, .int .i64 (e22)), (b26, o26 + (k : Int).toNat * 1, .int .i64 (e26))] w := (SC.cons (((O.old hb22 (by simp)).trans (hc22 _ _ he22 0 _ rfl))) (SC.cons (((O.old hb26 (by simp)).trans (hc26 _ _ he26 0 _ rfl))) SC.nil))
            refine d_one 12 (by kernel_rfl) (d_op rfl F rfl (o_append F O rfl rfl Try.underlying32 Try.elem_51 (by decide) 1 0 rfl rfl rfl rfl (by unfold maxLen; omega) (by omega) rfl fun p41 k41 w O a F => ?_))
            have O : Own w0 [] [.cells b40 [.int .i64 (k), .int .i64 (e22), .int .i64 (e26)] 51, .row 51 3 (.slice p41 (N + 1) k41) (N + 1) ((L1.flatMap encUp) ++ [.int .i64 (k), .int .i64 (e22), .int .i64 (e26)])] w := O
            have O := O.setR 1 rfl (show Res.row 51 3 (.slice p41 (N + 1) k41) (N + 1) ((L1.flatMap encUp) ++ [.int .i64 (k), .int .i64 (e22), .int .i64 (e26)]) = .row 51 3 (.slice p41 (N + 1) k41) (N + 1) ((L1 ++ [(k, e22, e26)]).flatMap encUp) from by simp [encUp])
            have O : Own w0 [] [.cells b40 [.int .i64 (k), .int .i64 (e22), .int .i64 (e26)] 51, .row 51 3 (.slice p41 (N + 1) k41) (N + 1) ((L1 ++ [(k, e22, e26)]).flatMap encUp)] w := O
            refine ⟨fun _ => (SC.cons (((O.old hb22 (by simp)).trans (hc22 _ _ he22 0 _ rfl))) (SC.cons (((O.old hb26 (by simp)).trans (hc26 _ _ he26 0 _ rfl))) SC.nil)), ?_⟩
            have hS : SC [(b22, o22 + (k : Int).toNat * 1, .int .i64 (e22)), (b26, o26 + (k : Int).toNat * 1, .int .i64 (e26))] w := (SC.cons (((O.old hb22 (by simp)).trans (hc22 _ _ he22 0 _ rfl))) (SC.cons (((O.old hb26 (by simp)).trans (hc26 _ _ he26 0 _ rfl))) SC.nil))
            refine d_take 13 rfl (by kernel_rfl) F (p_assign rfl) rfl rfl hS fun a F => d_done (by kernel_rfl) (hK7 _ _ (?_))
            try clear hK7 K7
            refine c_region (sp F (p_move rfl) rfl rfl fun a F => sp F (p_add rfl rfl (by omega) (by omega)) rfl rfl fun a F => sp F (p_assign rfl) rfl rfl fun a F => c_nil (?_))
            try rw [← hp26] at F
            try rw [← hp26] at O
            try rw [← hp22] at F
            try rw [← hp22] at O
            have F : Has 43 [(0, .slice A n c), (1, .slice A2 n2 c2), (4, .slice none 0 0), (6, .int .i64 (k + 1)), (5, .slice p41 (N + 1) k41)] a := F.pick ⟨rfl, rfl, rfl, rfl, rfl, trivial⟩
            have O : Own w0 [] [.row 51 3 (.slice p41 (N + 1) k41) (N + 1) ((L1 ++ [(k, e22, e26)]).flatMap encUp)] w := ((O.pull 1 rfl).take 1)
            exact ⟨((4 : Int) - (k + 1)).toNat, by omega, (k + 1), p41, (N + 1), k41, (L1 ++ [(k, e22, e26)]), rfl, F, O, by first | assumption | omega, by first | assumption | omega, by first | omega | (simp; omega), by first | assumption | omega, by first | (rw [diffs_ne hi0a he22 he26 c28, ← hi0e]; done) | (rw [diffs_eq hi0a he22 he26 c28, ← hi0e]; done), by exact fun _ => ⟨c14, c17⟩⟩
        · have F := F.setB (d := 16) rfl (decide_eq_false c17)
          have F := F.setB (d := 17) rfl (decide_eq_false c17)
          refine c_iff F rfl (wp_exit (e_then (e_then (e_here (hK3 _ _ (?_))))))
          try clear hK3 K3
          refine c_seq fun K7 hK7 => ?_
          obtain rfl : L1 = RD es es2 := by exact RD_exit hi0f hi0e (fun hV => by first | omega | exact absurd hV.1 c14 | exact absurd hV.2 c17) (by omega) hi0a
          refine c_region (sp F (p_move rfl) rfl rfl fun a F => sp F (p_assign rfl) rfl rfl fun a F => c_nil (hK7 _ _ (?_)))
          try clear hK7 K7
          refine wp_ret (ret1 F rfl rfl (?_))
          exact ⟨P, N, C, rfl, by first | assumption | omega, by first | assumption | omega, O⟩
      · have F := F.setB (d := 12) rfl (decide_eq_false c14)
        have F := F.setB (d := 13) rfl (decide_eq_false c14)
        have F := F.setB (d := 14) rfl (decide_eq_false c14)
        refine ss F rfl rfl fun a F => ss F rfl rfl fun a F => sp F (p_pick (t := false) rfl rfl) rfl rfl fun a F => c_nil (hK6 _ _ (?_))
        try clear hK6 K6
        refine c_iff F rfl (wp_exit (e_then (e_then (e_here (hK3 _ _ (?_))))))
        try clear hK3 K3
        refine c_seq fun K7 hK7 => ?_
        obtain rfl : L1 = RD es es2 := by exact RD_exit hi0f hi0e (fun hV => by first | omega | exact absurd hV.1 c14 | exact absurd hV.2 c17) (by omega) hi0a
        refine c_region (sp F (p_move rfl) rfl rfl fun a F => sp F (p_assign rfl) rfl rfl fun a F => c_nil (hK7 _ _ (?_)))
        try clear hK7 K7
        refine wp_ret (ret1 F rfl rfl (?_))
        exact ⟨P, N, C, rfl, by first | assumption | omega, by first | assumption | omega, O⟩
    · have F := F.setB (d := 9) rfl (decide_eq_false c10)
      have F := F.setB (d := 10) rfl (decide_eq_false c10)
      refine ss F rfl rfl fun a F => ss F rfl rfl fun a F => sp F (p_pick (t := false) rfl rfl) rfl rfl fun a F => sp F (p_move rfl) rfl rfl fun a F => ss F rfl rfl fun a F => ss F rfl rfl fun a F => sp F (p_pick (t := false) rfl rfl) rfl rfl fun a F => c_nil (hK6 _ _ (?_))
      try clear hK6 K6
      refine c_iff F rfl (wp_exit (e_then (e_then (e_here (hK3 _ _ (?_))))))
      try clear hK3 K3
      refine c_seq fun K7 hK7 => ?_
      obtain rfl : L1 = RD es es2 := by exact RD_exit hi0f hi0e (fun hV => by first | omega | exact absurd hV.1 c14 | exact absurd hV.2 c17) (by omega) hi0a
      refine c_region (sp F (p_move rfl) rfl rfl fun a F => sp F (p_assign rfl) rfl rfl fun a F => c_nil (hK7 _ _ (?_)))
      try clear hK7 K7
      refine wp_ret (ret1 F rfl rfl (?_))
      exact ⟨P, N, C, rfl, by first | assumption | omega, by first | assumption | omega, O⟩

set_option maxRecDepth 100000 in
/-- impl.RefsDiffer -/
theorem iRefsDiffer_ok (A : Option Addr) (n : Nat) (c : Nat) (es : List (Int)) (A2 : Option Addr) (n2 : Nat) (c2 : Nat) (es2 : List (Int)) (w0 : World) (hA : Arr w0 encInt 1 A es) (hn : (n : Int) = es.length) (hb : (n : Int) ≤ 1048600) (hA2 : Arr w0 encInt 1 A2 es2) (hn2 : (n2 : Int) = es2.length) (hb2 : (n2 : Int) ≤ 1048600) :
    Calls Try.prog 41 #[.slice A n c, .slice A2 n2 c2] w0 fun e w => ∃ (P : Option Addr), ∃ (N : Nat), ∃ (C : Nat), e = .returned (.slice P N C) ∧ ((N : Int) = (RD es es2).length) ∧ ((N : Int) ≤ 1048600) ∧ Own w0 [] [.row 51 3 (.slice P N C) N ((RD es es2).flatMap encUp)] w := by
  have O := Own.start w0
  refine enterO (n := 41) Try.func41 rfl rfl rfl O fun a w F O => ?_
  refine c_seq fun K1 hK1 => c_region (sp F (p_assign rfl) rfl rfl fun a F => c_nil (hK1 _ _ (?_)))
  try clear hK1 K1
  refine c_seq fun K2 hK2 => c_seq fun K3 hK3 => c_region (sp F (p_move rfl) rfl rfl fun a F => so F rfl (o_call (vs := #[.slice A n c]) F Try.en_22 rfl rfl ((iRefsValid_ok A n c es w (hA.keep O) (by first | omega | (simp; done) | (simp; omega) | (simp at *; omega)) (by omega)).mono ?_)))
  rintro e w ⟨rfl, K⟩
  refine ⟨_, rfl, fun a F => ?_⟩
  have O : Own w0 [] [] w := O.call0 K
  clear K
  have O : Own w0 [] [] w := O
  by_cases c9 : es.length = 4 ∧ okIn (-1) (990) es = true
  · have F := F.setB (d := 9) rfl (decide_eq_true c9)
    refine sp F (p_not rfl) rfl rfl fun a F => sp F (p_move rfl) rfl rfl fun a F => sp F (p_move rfl) rfl rfl fun a F => so F rfl (o_call (vs := #[.slice A2 n2 c2]) F Try.en_22 rfl rfl ((iRefsValid_ok A2 n2 c2 es2 w (hA2.keep O) (by first | omega | (simp; done) | (simp; omega) | (simp at *; omega)) (by omega)).mono ?_))
    rintro e w ⟨rfl, K⟩
    refine ⟨_, rfl, fun a F => ?_⟩
    have O : Own w0 [] [] w := O.call0 K
    clear K
    have O : Own w0 [] [] w := O
    by_cases c13 : es2.length = 4 ∧ okIn (-1) (990) es2 = true
    · have F := F.setB (d := 13) rfl (decide_eq_true c13)
      refine sp F (p_not rfl) rfl rfl fun a F => sp F (p_pick (t := false) rfl rfl) rfl rfl fun a F => c_nil (hK3 _ _ (?_))
      try clear hK3 K3
      refine c_iff F rfl (wp_skip (hK2 _ _ (?_)))
      try clear hK2 K2
      refine c_seq fun K4 hK4 => c_region (sp F (p_assign rfl) rfl rfl fun a F => c_nil (hK4 _ _ (?_)))
      try clear hK4 K4
      refine c_seq fun K5 hK5 => c_seq fun K6 hK6 => c_region (sp F (p_move rfl) rfl rfl fun a F => sp F (p_len_l rfl Try.underlying22) rfl rfl fun a F => sp F (p_move rfl) rfl rfl fun a F => c_nil (hK6 _ _ (?_)))
      try clear hK6 K6
      refine wp_block (?_)
      refine c_loop (fun mm a w => ∃ (k : Int), ∃ (P : Option Addr), ∃ (N : Nat), ∃ (C : Nat), ∃ (L1 : List (Int × Int × Int)), mm = ((4 : Int) - k).toNat ∧ Has 41 [(0, .slice A n c), (1, .slice A2 n2 c2), (4, .slice none 0 0), (15, .bool false), (16, .slice A n c), (17, .int .i64 ((n : Int))), (18, .int .i64 (k)), (5, .slice P N C)] a ∧ Own w0 [] [.row 51 3 (.slice P N C) N (L1.flatMap encUp)] w ∧ (0 ≤ k) ∧ (k ≤ 4) ∧ ((N : Int) = L1.length) ∧ ((N : Int) ≤ k) ∧ (L1 = diffs es es2 k)) ?_ ?_
      · have F : Has 41 [(0, .slice A n c), (1, .slice A2 n2 c2), (4, .slice none 0 0), (15, .bool false), (16, .slice A n c), (17, .int .i64 ((n : Int))), (18, .int .i64 (0)), (5, .slice none 0 0)] a := F.pick ⟨rfl, rfl, rfl, rfl, rfl, rfl, rfl, rfl, trivial⟩
        have O := O.addNil 51 3
        have O : Own w0 [] [.row 51 3 (.slice none 0 0) 0 ([])] w := O
        have O := O.setR 0 rfl (show Res.row 51 3 (.slice none 0 0) 0 ([]) = .row 51 3 (.slice none 0 0) 0 (([]).flatMap encUp) from by rfl)
        have O : Own w0 [] [.row 51 3 (.slice none 0 0) 0 (([]).flatMap encUp)] w := O
        exact ⟨((4 : Int) - 0).toNat, 0, none, 0, 0, ([]), rfl, F, O, by first | assumption | omega, by first | assumption | omega, by rfl, by first | assumption | omega, by rfl⟩
      · rintro mm a w ⟨k, P, N, C, L1, rfl, F, O, hi0a, hi0b, hi0c, hi0d, hi0e⟩
        refine c_seq fun K7 hK7 => c_region (sp F (p_lss rfl rfl) rfl rfl fun a F => c_nil (hK7 _ _ (?_)))
        try clear hK7 K7
        refine c_seq fun K8 hK8 => ?_
        by_cases c19 : k < (n : Int)
        · have F := F.setB (d := 19) rfl (decide_eq_true c19)
          refine c_ift F rfl (wp_skip (hK8 _ _ (?_)))
          try clear hK8 K8
          refine c_seq fun K9 hK9 => wp_block (c_seq fun K10 hK10 => c_region (sp F (p_move rfl) rfl rfl fun a F => ?_))
          obtain ⟨b21, o21, hp21, hb21, hc21⟩ := Arr.out hA (by omega)
          have hA21 := hA; rw [hp21] at hA21 F
          obtain ⟨e21, he21⟩ := get_some (l := es) (i := k) (by omega) (by first | omega | (simp; omega))
          refine sp F (p_iaddr rfl rfl Try.underlying22 Try.sz_3 (by omega) (by omega)) rfl rfl fun a F => sp F (p_load rfl Try.agg_3 (fun _ h => (ld1 (((O.old hb21 (by simp)).trans (hc21 _ _ he21 0 _ rfl))) h))) rfl rfl fun a F => sp F (p_assign rfl) rfl rfl fun a F => sp F (p_assign rfl) rfl rfl fun a F => c_nil (hK10 _ _ (?_))
          try clear hK10 K10
          refine c_seq fun K11 hK11 => c_region (sp F (p_move rfl) rfl rfl fun a F => sp F (p_move rfl) rfl rfl fun a F => sp F (p_move rfl) rfl rfl fun a F => ?_)
          obtain ⟨b26, o26, hp26, hb26, hc26⟩ := Arr.out hA2 (by omega)
          have hA26 := hA2; rw [hp26] at hA26 F
          obtain ⟨e26, he26⟩ := get_some (l := es2) (i := k) (by omega) (by first | omega | (simp; omega))
          refine sp F (p_iaddr rfl rfl Try.underlying22 Try.sz_3 (by omega) (by omega)) rfl rfl fun a F => sp F (p_load rfl Try.agg_3 (fun _ h => (ld1 (((O.old hb26 (by simp)).trans (hc26 _ _ he26 0 _ rfl))) h))) rfl rfl fun a F => sp F (p_neq rfl rfl) rfl rfl fun a F => c_nil (hK11 _ _ (?_))
          try clear hK11 K11
          by_cases c28 : e21 = e26
          · have F := F.setB (d := 28) rfl (decide_eq_false (fun h => h c28))
            refine c_iff F rfl (wp_skip (hK9 _ _ (?_)))
            try clear hK9 K9
            refine c_region (sp F (p_add rfl rfl (by omega) (by omega)) rfl rfl fun a F => sp F (p_move rfl) rfl rfl fun a F => c_nil (?_))
            try rw [← hp26] at F
            try rw [← hp26] at O
            try rw [← hp21] at F
            try rw [← hp21] at O
            have F : Has 41 [(0, .slice A n c), (1, .slice A2 n2 c2), (4, .slice none 0 0), (15, .bool false), (16, .slice A n c), (17, .int .i64 ((n : Int))), (18, .int .i64 (k + 1)), (5, .slice P N C)] a := F.pick ⟨rfl, rfl, rfl, rfl, rfl, rfl, rfl, rfl, trivial⟩
            exact ⟨((4 : Int) - (k + 1)).toNat, by omega, (k + 1), P, N, C, L1, rfl, F, O, by first | assumption | omega, by first | assumption | omega, by first | omega | (simp; omega), by first | assumption | omega, by first | (rw [diffs_ne hi0a he21 he26 c28, ← hi0e]; done) | (rw [diffs_eq hi0a he21 he26 c28, ← hi0e]; done)⟩
          · have F := F.setB (d := 28) rfl (decide_eq_true c28)
            refine c_ift F rfl (c_region (sp F (p_move rfl) rfl rfl fun a F => sp F (p_move rfl) rfl rfl fun a F => sp F (p_move rfl) rfl rfl fun a F => sp F (p_move rfl) rfl rfl fun a F => sp F (p_move rfl) rfl rfl fun a F => sp F (p_iaddr rfl rfl Try.underlying22 Try.sz_3 (by omega) (by omega)) rfl rfl fun a F => sp F (p_load rfl Try.agg_3 (fun _ h => (ld1 (((O.old hb26 (by simp)).trans (hc26 _ _ he26 0 _ rfl))) h))) rfl rfl fun a F => sp F (p_build (cs := [.int .i64 (k), .int .i64 (e21), .int .i64 (e26)]) rfl Try.places_51 rfl) rfl rfl fun a F => so F rfl (o_bslice (cs := [.int .i64 (k), .int .i64 (e21), .int .i64 (e26)]) F O rfl Try.underlying32 Try.sz_51 Try.zero_51 rfl rfl rfl fun b37 w O a F => ?_)))
            have O : Own w0 [] [.cells b37 [.int .i64 (k), .int .i64 (e21), .int .i64 (e26)] 51, .row 51 3 (.slice P N C) N (L1.flatMap encUp)] w := O
            refine so F rfl (o_append F O rfl rfl Try.underlying32 Try.elem_51 (by decide) 1 0 rfl rfl rfl rfl (by unfold maxLen; omega) (by omega) rfl fun p38 k38 w O a F => ?_)
            have O : Own w0 [] [.cells b37 [.int .i64 (k), .int .i64 (e21), .int .i64 (e26)] 51, .row 51 3 (.slice p38 (N + 1) k38) (N + 1) ((L1.flatMap encUp) ++ [.int .i64 (k), .int .i64 (e21), .int .i64 (e26)])] w := O
            have O := O.setR 1 rfl (show Res.row 51 3 (.slice p38 (N + 1) k38) (N + 1) ((L1.flatMap encUp) ++ [.int .i64 (k), .int .i64 (e21), .int .i64 (e26)]) = .row 51 3 (.slice p38 (N + 1) k38) (N + 1) ((L1 ++ [(k, e21, e26)]).flatMap encUp) from by simp [encUp])
            have O : Own w0 [] [.cells b37 [.int .i64 (k), .int .i64 (e21), .int .i64 (e26)] 51, .row 51 3 (.slice p38 (N + 1) k38) (N + 1) ((L1 ++ [(k, e21, e26)]).flatMap encUp)] w := O
            refine sp F (p_assign rfl) rfl rfl fun a F => c_nil (hK9 _ _ (?_))
            try clear hK9 K9
            refine c_region (sp F (p_add rfl rfl (by omega) (by omega)) rfl rfl fun a F => sp F (p_move rfl) rfl rfl fun a F => c_nil (?_))
            try rw [← hp26] at F
            try rw [← hp26] at O
            try rw [← hp21] at F
            try rw [← hp21] at O
            have F : Has 41 [(0, .slice A n c), (1, .slice A2 n2 c2), (4, .slice none 0 0), (15, .bool false), (16, .slice A n c), (17, .int .i64 ((n : Int))), (18, .int .i64 (k + 1)), (5, .slice p38 (N + 1) k38)] a := F.pick ⟨rfl, rfl, rfl, rfl, rfl, rfl, rfl, rfl, trivial⟩
            have O : Own w0 [] [.row 51 3 (.slice p38 (N + 1) k38) (N + 1) ((L1 ++ [(k, e21, e26)]).flatMap encUp)] w := ((O.pull 1 rfl).take 1)
            exact ⟨((4 : Int) - (k + 1)).toNat, by omega, (k + 1), p38, (N + 1), k38, (L1 ++ [(k, e21, e26)]), rfl, F, O, by first | assumption | omega, by first | assumption | omega, by first | omega | (simp; omega), by first | assumption | omega, by first | (rw [diffs_ne hi0a he21 he26 c28, ← hi0e]; done) | (rw [diffs_eq hi0a he21 he26 c28, ← hi0e]; done)⟩
        · have F := F.setB (d := 19) rfl (decide_eq_false c19)
          refine c_iff F rfl (wp_exit (e_then (e_then (e_here (hK5 _ _ (?_))))))
          try clear hK5 K5
          refine c_seq fun K9 hK9 => ?_
          obtain rfl : L1 = RD es es2 := by rw [RD_ok ⟨c9, c13⟩, hi0e]; congr 1; omega
          refine c_region (sp F (p_move rfl) rfl rfl fun a F => sp F (p_assign rfl) rfl rfl fun a F => c_nil (hK9 _ _ (?_)))
          try clear hK9 K9
          refine wp_ret (ret1 F rfl rfl (?_))
          exact ⟨P, N, C, rfl, by first | assumption | omega, by first | assumption | omega, O⟩
    · have F := F.setB (d := 13) rfl (decide_eq_false c13)
      refine sp F (p_not rfl) rfl rfl fun a F => sp F (p_pick (t := false) rfl rfl) rfl rfl fun a F => c_nil (hK3 _ _ (?_))
      try clear hK3 K3
      refine c_ift F rfl (c_seq fun K4 hK4 => c_region (sp F (p_assign rfl) rfl rfl fun a F => c_nil (hK4 _ _ (?_))))
      try clear hK4 K4
      refine wp_ret (r_then (ret1 F rfl rfl (?_)))
      have O := O.addNil 51 3
      have O : Own w0 [] [.row 51 3 (.slice none 0 0) 0 ([])] w := O
      have O := O.setR 0 rfl (show Res.row 51 3 (.slice none 0 0) 0 ([]) = .row 51 3 (.slice none 0 0) 0 ((RD es es2).flatMap encUp) from by rw [RD_bad (by first | exact fun h => c9 h.1 | exact fun h => c13 h.2)]; rfl)
      have O : Own w0 [] [.row 51 3 (.slice none 0 0) 0 ((RD es es2).flatMap encUp)] w := O
      exact ⟨none, 0, 0, rfl, by rw [RD_bad (by first | exact fun h => c9 h.1 | exact fun h => c13 h.2)]; rfl, by first | assumption | omega, O⟩
  · have F := F.setB (d := 9) rfl (decide_eq_false c9)
    refine sp F (p_not rfl) rfl rfl fun a F => sp F (p_move rfl) rfl rfl fun a F => ss F rfl rfl fun a F => ss F rfl rfl fun a F => ss F rfl rfl fun a F => sp F (p_pick (t := true) rfl rfl) rfl rfl fun a F => c_nil (hK3 _ _ (?_))
    try clear hK3 K3
    refine c_ift F rfl (c_seq fun K4 hK4 => c_region (sp F (p_assign rfl) rfl rfl fun a F => c_nil (hK4 _ _ (?_))))
    try clear hK4 K4
    refine wp_ret (r_then (ret1 F rfl rfl (?_)))
    have O := O.addNil 51 3
    have O : Own w0 [] [.row 51 3 (.slice none 0 0) 0 ([])] w := O
    have O := O.setR 0 rfl (show Res.row 51 3 (.slice none 0 0) 0 ([]) = .row 51 3 (.slice none 0 0) 0 ((RD es es2).flatMap encUp) from by rw [RD_bad (by first | exact fun h => c9 h.1 | exact fun h => c13 h.2)]; rfl)
    have O : Own w0 [] [.row 51 3 (.slice none 0 0) 0 ((RD es es2).flatMap encUp)] w := O
    exact ⟨none, 0, 0, rfl, by rw [RD_bad (by first | exact fun h => c9 h.1 | exact fun h => c13 h.2)]; rfl, by first | assumption | omega, O⟩

set_option maxRecDepth 100000 in
/-- laws.sameUpdates -/
theorem sameUpdates_ok (A : Option Addr) (n : Nat) (c : Nat) (es : List (Int × Int × Int)) (A2 : Option Addr) (n2 : Nat) (c2 : Nat) (es2 : List (Int × Int × Int)) (w0 : World) (hA : Arr w0 encUp 3 A es) (hn : (n : Int) = es.length) (hb : (n : Int) ≤ 1048600) (hA2 : Arr w0 encUp 3 A2 es2) (hn2 : (n2 : Int) = es2.length) (hb2 : (n2 : Int) ≤ 1048600) :
    Calls Try.prog 43 #[.slice A n c, .slice A2 n2 c2] w0 fun e w => e = .returned (.bool (decide (es = es2))) ∧ Own w0 [] [] w := by
  have O := Own.start w0
  refine enterO (n := 26) Try.func43 rfl rfl rfl O fun a w F O => ?_
  refine c_seq fun K1 hK1 => c_region (sp F (p_assign rfl) rfl rfl fun a F => c_nil (hK1 _ _ (?_)))
  try clear hK1 K1
  refine c_seq fun K2 hK2 => c_seq fun K3 hK3 => c_region (sp F (p_move rfl) rfl rfl fun a F => sp F (p_len_l rfl Try.underlying32) rfl rfl fun a F => sp F (p_move rfl) rfl rfl fun a F => sp F (p_len_l rfl Try.underlying32) rfl rfl fun a F => sp F (p_neq rfl rfl) rfl rfl fun a F => c_nil (hK3 _ _ (?_)))
  try clear hK3 K3
  by_cases c10 : (n : Int) = (n2 : Int)
  · have F := F.setB (d := 10) rfl (decide_eq_false (fun h => h c10))
    refine c_iff F rfl (wp_skip (hK2 _ _ (?_)))
    try clear hK2 K2
    refine c_seq fun K4 hK4 => c_seq fun K5 hK5 => c_region (sp F (p_assign rfl) rfl rfl fun a F => c_nil (hK5 _ _ (?_)))
    try clear hK5 K5
    refine wp_block (?_)
    refine c_loop (fun mm a w => ∃ (k : Int), mm = ((n : Int) - k).toNat ∧ Has 26 [(0, .slice A n c), (1, .slice A2 n2 c2), (10, .bool false), (5, .int .i64 (k))] a ∧ Own w0 [] [] w ∧ (0 ≤ k) ∧ (k ≤ n) ∧ (SameTo k es es2)) ?_ ?_
    · have F : Has 26 [(0, .slice A n c), (1, .slice A2 n2 c2), (10, .bool false), (5, .int .i64 (0))] a := F.pick ⟨rfl, rfl, rfl, rfl, trivial⟩
      exact ⟨((n : Int) - 0).toNat, 0, rfl, F, O, by first | assumption | omega, by first | assumption | omega, by exact sameTo_zero⟩
    · rintro mm a w ⟨k, rfl, F, O, hi0a, hi0b, hi0c⟩
      refine c_seq fun K6 hK6 => c_seq fun K7 hK7 => c_region (sp F (p_move rfl) rfl rfl fun a F => sp F (p_move rfl) rfl rfl fun a F => sp F (p_len_l rfl Try.underlying32) rfl rfl fun a F => sp F (p_lss rfl rfl) rfl rfl fun a F => c_nil (hK7 _ _ (?_)))
      try clear hK7 K7
      by_cases c14 : k < (n : Int)
      · have F := F.setB (d := 14) rfl (decide_eq_true c14)
        refine c_ift F rfl (wp_skip (hK6 _ _ (?_)))
        try clear hK6 K6
        refine c_seq fun K8 hK8 => wp_block (c_seq fun K9 hK9 => ?_)
        obtain ⟨b19, o19, hp19, hb19, hc19⟩ := Arr.out hA (by omega)
        have hA19 := hA; rw [hp19] at hA19 F
        obtain ⟨e19, he19⟩ := get_some (l := es) (i := k) (by omega) (by first | omega | (simp; omega))
        obtain ⟨b23, o23, hp23, hb23, hc23⟩ := Arr.out hA2 (by omega)
        have hA23 := hA2; rw [hp23] at hA23 F
        obtain ⟨e23, he23⟩ := get_some (l := es2) (i := k) (by omega) (by first | omega | (simp; omega))
        refine c_draw Try.mixed (SC [(b19, o19 + (k : Int).toNat * 3, .int .i64 (e19.1)), (b19, o19 + (k : Int).toNat * 3 + 1, .int .i64 (e19.2.1)), (b19, o19 + (k : Int).toNat * 3 + 2, .int .i64 (e19.2.2)), (b23, o23 + (k : Int).toNat * 3, .int .i64 (e23.1)), (b23, o23 + (k : Int).toNat * 3 + 1, .int .i64 (e23.2.1)), (b23, o23 + (k : Int).toNat * 3 + 2, .int .i64 (e23.2.2))]) [] _ (fun a w h => h) ?_
        have O := O.drawn (w.drawn + 1)
        generalize { w with drawn := w.drawn + 1 } = w at O ⊢
        have hS : SC [(b19, o19 + (k : Int).toNat * 3, .int .i64 (e19.1)), (b19, o19 + (k : Int).toNat * 3 + 1, .int .i64 (e19.2.1)), (b19, o19 + (k : Int).toNat * 3 + 2, .int .i64 (e19.2.2)), (b23, o23 + (k : Int).toNat * 3, .int .i64 (e23.1)), (b23, o23 + (k : Int).toNat * 3 + 1, .int .i64 (e23.2.1)), (b23, o23 + (k : Int).toNat * 3 + 2, .int .i64 (e23.2.2))] w := (SC.cons (((O.old hb19 (by simp)).trans (hc19 _ _ he19 0 _ rfl))) (SC.cons (((O.old hb19 (by simp)).trans (hc19 _ _ he19 1 _ rfl))) (SC.cons (((O.old hb19 (by simp)).trans (hc19 _ _ he19 2 _ rfl))) (SC.cons (((O.old hb23 (by simp)).trans (hc23 _ _ he23 0 _ rfl))) (SC.cons (((O.old hb23 (by simp)).trans (hc23 _ _ he23 1 _ rfl))) (SC.cons (((O.old hb23 (by simp)).trans (hc23 _ _ he23 2 _ rfl))) SC.nil))))))
        refine d_take 0 rfl (by kernel_rfl) F (p_move rfl) rfl rfl hS fun a F => d_take 1 rfl (by kernel_rfl) F (p_move rfl) rfl rfl hS fun a F => d_take 2 rfl (by kernel_rfl) F (p_iaddr rfl rfl Try.underlying32 Try.sz_51 (by omega) (by omega)) rfl rfl hS fun a F => d_take 3 rfl (by kernel_rfl) F (p_loadC (cs := [.int .i64 (e19.1), .int .i64 (e19.2.1), .int .i64 (e19.2.2)]) rfl Try.agg_51 Try.sz_51 (fun _ h => (CA.cons (SC.get h 0 rfl) (CA.cons (SC.get h 1 rfl) (CA.cons (SC.get h 2 rfl) CA.nil))))) rfl rfl hS fun a F => d_take 4 rfl (by kernel_rfl) F (p_move rfl) rfl rfl hS fun a F => d_take 5 rfl (by kernel_rfl) F (p_move rfl) rfl rfl hS fun a F => d_take 6 rfl (by kernel_rfl) F (p_iaddr rfl rfl Try.underlying32 Try.sz_51 (by omega) (by omega)) rfl rfl hS fun a F => d_take 7 rfl (by kernel_rfl) F (p_loadC (cs := [.int .i64 (e23.1), .int .i64 (e23.2.1), .int .i64 (e23.2.2)]) rfl Try.agg_51 Try.sz_51 (fun _ h => (CA.cons (SC.get h 3 rfl) (CA.cons (SC.get h 4 rfl) (CA.cons (SC.get h 5 rfl) CA.nil))))) rfl rfl hS fun a F => d_take 8 rfl (by kernel_rfl) F (p_neints3 rfl rfl Try.ints_51) rfl rfl hS fun a F => d_done (by kernel_rfl) (hK9 _ _ (?_))
        try clear hK9 K9
        by_cases c25 : ¬ (e19.1 = e23.1 ∧ e19.2.1 = e23.2.1 ∧ e19.2.2 = e23.2.2)
        · have F := F.setB (d := 25) rfl (decide_eq_true c25)
          refine c_ift F rfl (c_seq fun K10 hK10 => c_region (sp F (p_assign rfl) rfl rfl fun a F => c_nil (hK10 _ _ (?_))))
          try clear hK10 K10
          refine wp_ret (r_block (r_then (r_then (r_block (r_then (ret1 F rfl rfl (?_)))))))
          exact ⟨congrArg Ending.returned (show Value.bool false = .bool (decide (es = es2)) from by exact vbf (fun h => by subst h; first | omega | (rw [he19] at he23; injection he23 with h9; subst h9; omega))), O⟩
        · have F := F.setB (d := 25) rfl (decide_eq_false c25)
          refine c_iff F rfl (wp_skip (hK8 _ _ (?_)))
          try clear hK8 K8
          refine c_region (sp F (p_move rfl) rfl rfl fun a F => sp F (p_add rfl rfl (by omega) (by omega)) rfl rfl fun a F => sp F (p_assign rfl) rfl rfl fun a F => c_nil (?_))
          try rw [← hp23] at F
          try rw [← hp23] at O
          try rw [← hp19] at F
          try rw [← hp19] at O
          have F : Has 26 [(0, .slice A n c), (1, .slice A2 n2 c2), (10, .bool false), (5, .int .i64 (k + 1))] a := F.pick ⟨rfl, rfl, rfl, rfl, trivial⟩
          exact ⟨((n : Int) - (k + 1)).toNat, by omega, (k + 1), rfl, F, O, by first | assumption | omega, by first | assumption | omega, by exact sameTo_step hi0c hi0a he19 he23 (Prod.ext (by omega) (Prod.ext (by omega) (by omega)))⟩
      · have F := F.setB (d := 14) rfl (decide_eq_false c14)
        refine c_iff F rfl (wp_exit (e_then (e_then (e_here (hK4 _ _ (?_))))))
        try clear hK4 K4
        refine c_seq fun K8 hK8 => c_region (sp F (p_assign rfl) rfl rfl fun a F => c_nil (hK8 _ _ (?_)))
        try clear hK8 K8
        refine wp_ret (ret1 F rfl rfl (?_))
        exact ⟨congrArg Ending.returned (show Value.bool true = .bool (decide (es = es2)) from by exact vbt (same_ext hi0c (by omega) (by omega))), O⟩
  · have F := F.setB (d := 10) rfl (decide_eq_true c10)
    refine c_ift F rfl (c_seq fun K4 hK4 => c_region (sp F (p_assign rfl) rfl rfl fun a F => c_nil (hK4 _ _ (?_))))
    try clear hK4 K4
    refine wp_ret (r_then (ret1 F rfl rfl (?_)))
    exact ⟨congrArg Ending.returned (show Value.bool false = .bool (decide (es = es2)) from by exact vbf (fun h => by subst h; first | omega | (rw [he19] at he23; injection he23 with h9; subst h9; omega))), O⟩

set_option maxRecDepth 100000 in
/-- laws.inverse -/
theorem inverse_ok (A : Option Addr) (n : Nat) (c : Nat) (es : List (Int × Int × Int)) (w0 : World) (hA : Arr w0 encUp 3 A es) (hn : (n : Int) = es.length) (hb : (n : Int) ≤ 1048600) :
    Calls Try.prog 44 #[.slice A n c] w0 fun e w => ∃ (P : Option Addr), ∃ (N : Nat), ∃ (C : Nat), e = .returned (.slice P N C) ∧ ((N : Int) = (invU es).length) ∧ ((N : Int) ≤ 1048600) ∧ Own w0 [] [.row 51 3 (.slice P N C) N ((invU es).flatMap encUp)] w := by
  have O := Own.start w0
  refine enterO (n := 32) Try.func44 rfl rfl rfl O fun a w F O => ?_
  refine c_seq fun K1 hK1 => c_region (sp F (p_assign rfl) rfl rfl fun a F => c_nil (hK1 _ _ (?_)))
  try clear hK1 K1
  refine c_seq fun K2 hK2 => c_region (so F rfl (o_bslice (cs := []) F O rfl Try.underlying32 Try.sz_51 Try.zero_51 rfl rfl rfl fun b5 w O a F => ?_))
  have O : Own w0 [] [.cells b5 [] 51] w := O
  refine sp F (p_assign rfl) rfl rfl fun a F => c_nil (hK2 _ _ (?_))
  try clear hK2 K2
  refine c_seq fun K3 hK3 => c_seq fun K4 hK4 => c_region (sp F (p_assign rfl) rfl rfl fun a F => c_nil (hK4 _ _ (?_)))
  try clear hK4 K4
  refine wp_block (?_)
  refine c_loop (fun mm a w => ∃ (k : Int), ∃ (P : Option Addr), ∃ (N : Nat), ∃ (C : Nat), ∃ (L1 : List (Int × Int × Int)), mm = ((n : Int) - k).toNat ∧ Has 32 [(0, .slice A n c), (2, .slice none 0 0), (4, .int .i64 (k)), (3, .slice P N C)] a ∧ Own w0 [] [.row 51 3 (.slice P N C) N (L1.flatMap encUp)] w ∧ (0 ≤ k) ∧ (k ≤ n) ∧ ((N : Int) = L1.length) ∧ ((N : Int) ≤ k) ∧ (L1 = invU (es.take (k : Int).toNat))) ?_ ?_
  · have F : Has 32 [(0, .slice A n c), (2, .slice none 0 0), (4, .int .i64 (0)), (3, .slice (some ⟨b5, 0, none⟩) 0 0)] a := F.pick ⟨rfl, rfl, rfl, rfl, trivial⟩
    have O := O.asRow 0 (q := 0) (sz := 3) rfl rfl (by unfold maxLen; omega)
    have O : Own w0 [] [.row 51 3 (.slice (some ⟨b5, 0, none⟩) 0 0) 0 ([])] w := O
    have O := O.setR 0 rfl (show Res.row 51 3 (.slice (some ⟨b5, 0, none⟩) 0 0) 0 ([]) = .row 51 3 (.slice (some ⟨b5, 0, none⟩) 0 0) 0 (([]).flatMap encUp) from by rfl)
    have O : Own w0 [] [.row 51 3 (.slice (some ⟨b5, 0, none⟩) 0 0) 0 (([]).flatMap encUp)] w := O
    exact ⟨((n : Int) - 0).toNat, 0, (some ⟨b5, 0, none⟩), 0, 0, ([]), rfl, F, O, by first | assumption | omega, by first | assumption | omega, by rfl, by first | assumption | omega, by rfl⟩
  · rintro mm a w ⟨k, P, N, C, L1, rfl, F, O, hi0a, hi0b, hi0c, hi0d, hi0e⟩
    refine c_seq fun K5 hK5 => c_seq fun K6 hK6 => c_region (sp F (p_move rfl) rfl rfl fun a F => sp F (p_move rfl) rfl rfl fun a F => sp F (p_len_l rfl Try.underlying32) rfl rfl fun a F => sp F (p_lss rfl rfl) rfl rfl fun a F => c_nil (hK6 _ _ (?_)))
    try clear hK6 K6
    by_cases c9 : k < (n : Int)
    · have F := F.setB (d := 9) rfl (decide_eq_true c9)
      refine c_ift F rfl (wp_skip (hK5 _ _ (?_)))
      try clear hK5 K5
      refine c_seq fun K7 hK7 => wp_block (?_)
      obtain ⟨b15, o15, hp15, hb15, hc15⟩ := Arr.out hA (by omega)
      have hA15 := hA; rw [hp15] at hA15 F
      obtain ⟨e15, he15⟩ := get_some (l := es) (i := k) (by omega) (by first | omega | (simp; omega))
      refine c_draw Try.mixed (SC [(b15, o15 + (k : Int).toNat * 3, .int .i64 (e15.1)), (b15, o15 + (k : Int).toNat * 3 + 2, .int .i64 (e15.2.2)), (b15, o15 + (k : Int).toNat * 3 + 1, .int .i64 (e15.2.1))]) [] _ (fun a w h => h) ?_
      have O := O.drawn (w.drawn + 1)
      generalize { w with drawn := w.drawn + 1 } = w at O ⊢
      have hS : SC [(b15, o15 + (k : Int).toNat * 3, .int .i64 (e15.1)), (b15, o15 + (k : Int).toNat * 3 + 2, .int .i64 (e15.2.2)), (b15, o15 + (k : Int).toNat * 3 + 1, .int .i64 (e15.2.1))] w := (SC.cons (((O.old hb15 (by simp)).trans (hc15 _ _ he15 0 _ rfl))) (SC.cons (((O.old hb15 (by simp)).trans (hc15 _ _ he15 2 _ rfl))) (SC.cons (((O.old hb15 (by simp)).trans (hc15 _ _ he15 1 _ rfl))) SC.nil)))
      refine d_take 0 rfl (by kernel_rfl) F (p_move rfl) rfl rfl hS fun a F => d_take 1 rfl (by kernel_rfl) F (p_move rfl) rfl rfl hS fun a F => d_take 2 rfl (by kernel_rfl) F (p_move rfl) rfl rfl hS fun a F => d_take 3 rfl (by kernel_rfl) F (p_iaddr rfl rfl Try.underlying32 Try.sz_51 (by omega) (by omega)) rfl rfl hS fun a F => d_take 4 rfl (by kernel_rfl) F (p_faddr rfl Try.foff_51_0) rfl rfl hS fun a F => d_take 5 rfl (by kernel_rfl) F (p_load rfl Try.agg_3 (fun _ h => (SC.get h 0 rfl))) rfl rfl hS fun a F => d_take 6 rfl (by kernel_rfl) F (p_move rfl) rfl rfl hS fun a F => d_take 7 rfl (by kernel_rfl) F (p_move rfl) rfl rfl hS fun a F => d_take 8 rfl (by kernel_rfl) F (p_iaddr rfl rfl Try.underlying32 Try.sz_51 (by omega) (by omega)) rfl rfl hS fun a F => d_take 9 rfl (by kernel_rfl) F (p_faddr rfl Try.foff_51_2) rfl rfl hS fun a F => d_take 10 rfl (by kernel_rfl) F (p_load rfl Try.agg_3 (fun _ h => (SC.get h 1 rfl))) rfl rfl hS fun a F => d_take 11 rfl (by kernel_rfl) F (p_move rfl) rfl rfl hS fun a F => d_take 12 rfl (by kernel_rfl) F (p_move rfl) rfl rfl hS fun a F => ?_
      refine d_take 13 rfl (by kernel_rfl) F (p_iaddr rfl rfl Try.underlying32 Try.sz_51 (by omega) (by omega)) rfl rfl hS fun a F => d_take 14 rfl (by kernel_rfl) F (p_faddr rfl Try.foff_51_1) rfl rfl hS fun a F => d_take 15 rfl (by kernel_rfl) F (p_load rfl Try.agg_3 (fun _ h => (SC.get h 2 rfl))) rfl rfl hS fun a F => d_take 16 rfl (by kernel_rfl) F (p_build (cs := [.int .i64 (e15.1), .int .i64 (e15.2.2), .int .i64 (e15.2.1)]) rfl Try.places_51 rfl) rfl rfl hS fun a F => d_one 17 (by kernel_rfl) (d_op rfl F rfl (o_bslice (cs := [.int .i64 (e15.1), .int .i64 (e15.2.2), .int .i64 (e15.2.1)]) F O rfl Try.underlying32 Try.sz_51 Try.zero_51 rfl rfl rfl fun b29 w O a F => ?_))
      have O : Own w0 [] [.cells b29 [.int .i64 (e15.1), .int .i64 (e15.2.2), .int .i64 (e15.2.1)] 51, .row 51 3 (.slice P N C) N (L1.flatMap encUp)] w := O
      refine ⟨fun _ => (SC.cons (((O.old hb15 (by simp)).trans (hc15 _ _ he15 0 _ rfl))) (SC.cons (((O.old hb15 (by simp)).trans (hc15 _ _ he15 2 _ rfl))) (SC.cons (((O.old hb15 (by simp)).trans (hc15 _ _ he15 1 _ rfl))) SC.nil))), ?_⟩
      have hS : SC [(b15, o15 + (k : Int).toNat * 3, .int .i64 (e15.1)), (b15, o15 + (k : Int).toNat * 3 + 2, .int .i64 (e15.2.2)), (b15, o15 + (k : Int).toNat * 3 + 1, .int .i64 (e15.2.1))] w := (SC.cons (((O.old hb15 (by simp)).trans (hc15 _ _ he15 0 _ rfl))) (SC.cons (((O.old hb15 (by simp)).trans (hc15 _ _ he15 2 _ rfl))) (SC.cons (((O.old hb15 (by simp)).trans (hc15 _ _ he15 1 _ rfl))) SC.nil)))
      refine d_one 18 (by kernel_rfl) (d_op rfl F rfl (o_append F O rfl rfl Try.underlying32 Try.elem_51 (by decide) 1 0 rfl rfl rfl rfl (by unfold maxLen; omega) (by omega) rfl fun p30 k30 w O a F => ?_))
      have O : Own w0 [] [.cells b29 [.int .i64 (e15.1), .int .i64 (e15.2.2), .int .i64 (e15.2.1)] 51, .row 51 3 (.slice p30 (N + 1) k30) (N + 1) ((L1.flatMap encUp) ++ [.int .i64 (e15.1), .int .i64 (e15.2.2), .int .i64 (e15.2.1)])] w := O
      have O := O.setR 1 rfl (show Res.row 51 3 (.slice p30 (N + 1) k30) (N + 1) ((L1.flatMap encUp) ++ [.int .i64 (e15.1), .int .i64 (e15.2.2), .int .i64 (e15.2.1)]) = .row 51 3 (.slice p30 (N + 1) k30) (N + 1) ((L1 ++ [(e15.1, e15.2.2, e15.2.1)]).flatMap encUp) from by simp [encUp])
      have O : Own w0 [] [.cells b29 [.int .i64 (e15.1), .int .i64 (e15.2.2), .int .i64 (e15.2.1)] 51, .row 51 3 (.slice p30 (N + 1) k30) (N + 1) ((L1 ++ [(e15.1, e15.2.2, e15.2.1)]).flatMap encUp)] w := O
      refine ⟨fun _ => (SC.cons (((O.old hb15 (by simp)).trans (hc15 _ _ he15 0 _ rfl))) (SC.cons (((O.old hb15 (by simp)).trans (hc15 _ _ he15 2 _ rfl))) (SC.cons (((O.old hb15 (by simp)).trans (hc15 _ _ he15 1 _ rfl))) SC.nil))), ?_⟩
      have hS : SC [(b15, o15 + (k : Int).toNat * 3, .int .i64 (e15.1)), (b15, o15 + (k : Int).toNat * 3 + 2, .int .i64 (e15.2.2)), (b15, o15 + (k : Int).toNat * 3 + 1, .int .i64 (e15.2.1))] w := (SC.cons (((O.old hb15 (by simp)).trans (hc15 _ _ he15 0 _ rfl))) (SC.cons (((O.old hb15 (by simp)).trans (hc15 _ _ he15 2 _ rfl))) (SC.cons (((O.old hb15 (by simp)).trans (hc15 _ _ he15 1 _ rfl))) SC.nil)))
      refine d_take 19 rfl (by kernel_rfl) F (p_assign rfl) rfl rfl hS fun a F => d_done (by kernel_rfl) (hK7 _ _ (?_))
      try clear hK7 K7
      refine c_region (sp F (p_move rfl) rfl rfl fun a F => sp F (p_add rfl rfl (by omega) (by omega)) rfl rfl fun a F => sp F (p_assign rfl) rfl rfl fun a F => c_nil (?_))
      try rw [← hp15] at F
      try rw [← hp15] at O
      have F : Has 32 [(0, .slice A n c), (2, .slice none 0 0), (4, .int .i64 (k + 1)), (3, .slice p30 (N + 1) k30)] a := F.pick ⟨rfl, rfl, rfl, rfl, trivial⟩
      have O : Own w0 [] [.row 51 3 (.slice p30 (N + 1) k30) (N + 1) ((L1 ++ [(e15.1, e15.2.2, e15.2.1)]).flatMap encUp)] w := ((O.pull 1 rfl).take 1)
      exact ⟨((n : Int) - (k + 1)).toNat, by omega, (k + 1), p30, (N + 1), k30, (L1 ++ [(e15.1, e15.2.2, e15.2.1)]), rfl, F, O, by first | assumption | omega, by first | assumption | omega, by first | omega | (simp; omega), by first | assumption | omega, by rw [take_step hi0a he15, hi0e]; unfold invU; rw [List.map_append]; rfl⟩
    · have F := F.setB (d := 9) rfl (decide_eq_false c9)
      refine c_iff F rfl (wp_exit (e_then (e_then (e_here (hK3 _ _ (?_))))))
      try clear hK3 K3
      refine c_seq fun K7 hK7 => ?_
      obtain rfl : L1 = invU es := by rw [hi0e, take_all (by omega)]
      refine c_region (sp F (p_move rfl) rfl rfl fun a F => sp F (p_assign rfl) rfl rfl fun a F => c_nil (hK7 _ _ (?_)))
      try clear hK7 K7
      refine wp_ret (ret1 F rfl rfl (?_))
      exact ⟨P, N, C, rfl, by first | assumption | omega, by first | assumption | omega, O⟩

set_option maxRecDepth 100000 in
/-- laws.sameInts -/
theorem sameInts_ok (A : Option Addr) (n : Nat) (c : Nat) (es : List (Int)) (A2 : Option Addr) (n2 : Nat) (c2 : Nat) (es2 : List (Int)) (w0 : World) (hA : Arr w0 encInt 1 A es) (hn : (n : Int) = es.length) (hb : (n : Int) ≤ 1048600) (hA2 : Arr w0 encInt 1 A2 es2) (hn2 : (n2 : Int) = es2.length) (hb2 : (n2 : Int) ≤ 1048600) :
    Calls Try.prog 39 #[.slice A n c, .slice A2 n2 c2] w0 fun e w => e = .returned (.bool (decide (es = es2))) ∧ Own w0 [] [] w := by
  have O := Own.start w0
  refine enterO (n := 26) Try.func39 rfl rfl rfl O fun a w F O => ?_
  refine c_seq fun K1 hK1 => c_region (sp F (p_assign rfl) rfl rfl fun a F => c_nil (hK1 _ _ (?_)))
  try clear hK1 K1
  refine c_seq fun K2 hK2 => c_seq fun K3 hK3 => c_region (sp F (p_move rfl) rfl rfl fun a F => sp F (p_len_l rfl Try.underlying22) rfl rfl fun a F => sp F (p_move rfl) rfl rfl fun a F => sp F (p_len_l rfl Try.underlying22) rfl rfl fun a F => sp F (p_neq rfl rfl) rfl rfl fun a F => c_nil (hK3 _ _ (?_)))
  try clear hK3 K3
  by_cases c10 : (n : Int) = (n2 : Int)
  · have F := F.setB (d := 10) rfl (decide_eq_false (fun h => h c10))
    refine c_iff F rfl (wp_skip (hK2 _ _ (?_)))
    try clear hK2 K2
    refine c_seq fun K4 hK4 => c_seq fun K5 hK5 => c_region (sp F (p_assign rfl) rfl rfl fun a F => c_nil (hK5 _ _ (?_)))
    try clear hK5 K5
    refine wp_block (?_)
    refine c_loop (fun mm a w => ∃ (k : Int), mm = ((n : Int) - k).toNat ∧ Has 26 [(0, .slice A n c), (1, .slice A2 n2 c2), (10, .bool false), (5, .int .i64 (k))] a ∧ Own w0 [] [] w ∧ (0 ≤ k) ∧ (k ≤ n) ∧ (SameTo k es es2)) ?_ ?_
    · have F : Has 26 [(0, .slice A n c), (1, .slice A2 n2 c2), (10, .bool false), (5, .int .i64 (0))] a := F.pick ⟨rfl, rfl, rfl, rfl, trivial⟩
      exact ⟨((n : Int) - 0).toNat, 0, rfl, F, O, by first | assumption | omega, by first | assumption | omega, by exact sameTo_zero⟩
    · rintro mm a w ⟨k, rfl, F, O, hi0a, hi0b, hi0c⟩
      refine c_seq fun K6 hK6 => c_seq fun K7 hK7 => c_region (sp F (p_move rfl) rfl rfl fun a F => sp F (p_move rfl) rfl rfl fun a F => sp F (p_len_l rfl Try.underlying22) rfl rfl fun a F => sp F (p_lss rfl rfl) rfl rfl fun a F => c_nil (hK7 _ _ (?_)))
      try clear hK7 K7
      by_cases c14 : k < (n : Int)
      · have F := F.setB (d := 14) rfl (decide_eq_true c14)
        refine c_ift F rfl (wp_skip (hK6 _ _ (?_)))
        try clear hK6 K6
        refine c_seq fun K8 hK8 => wp_block (c_seq fun K9 hK9 => ?_)
        obtain ⟨b19, o19, hp19, hb19, hc19⟩ := Arr.out hA (by omega)
        have hA19 := hA; rw [hp19] at hA19 F
        obtain ⟨e19, he19⟩ := get_some (l := es) (i := k) (by omega) (by first | omega | (simp; omega))
        obtain ⟨b23, o23, hp23, hb23, hc23⟩ := Arr.out hA2 (by omega)
        have hA23 := hA2; rw [hp23] at hA23 F
        obtain ⟨e23, he23⟩ := get_some (l := es2) (i := k) (by omega) (by first | omega | (simp; omega))
        refine c_draw Try.mixed (SC [(b19, o19 + (k : Int).toNat * 1, .int .i64 (e19)), (b23, o23 + (k : Int).toNat * 1, .int .i64 (e23))]) [] _ (fun a w h => h) ?_
        have O := O.drawn (w.drawn + 1)
        generalize { w with drawn := w.drawn + 1 } = w at O ⊢
        have hS : SC [(b19, o19 + (k : Int).toNat * 1, .int .i64 (e19)), (b23, o23 + (k : Int).toNat * 1, .int .i64 (e23))] w := (SC.cons (((O.old hb19 (by simp)).trans (hc19 _ _ he19 0 _ rfl))) (SC.cons (((O.old hb23 (by simp)).trans (hc23 _ _ he23 0 _ rfl))) SC.nil))
        refine d_take 0 rfl (by kernel_rfl) F (p_move rfl) rfl rfl hS fun a F => d_take 1 rfl (by kernel_rfl) F (p_move rfl) rfl rfl hS fun a F => d_take 2 rfl (by kernel_rfl) F (p_iaddr rfl rfl Try.underlying22 Try.sz_3 (by omega) (by omega)) rfl rfl hS fun a F => d_take 3 rfl (by kernel_rfl) F (p_load rfl Try.agg_3 (fun _ h => (SC.get h 0 rfl))) rfl rfl hS fun a F => d_take 4 rfl (by kernel_rfl) F (p_move rfl) rfl rfl hS fun a F => d_take 5 rfl (by kernel_rfl) F (p_move rfl) rfl rfl hS fun a F => d_take 6 rfl (by kernel_rfl) F (p_iaddr rfl rfl Try.underlying22 Try.sz_3 (by omega) (by omega)) rfl rfl hS fun a F => d_take 7 rfl (by kernel_rfl) F (p_load rfl Try.agg_3 (fun _ h => (SC.get h 1 rfl))) rfl rfl hS fun a F => d_take 8 rfl (by kernel_rfl) F (p_neq rfl rfl) rfl rfl hS fun a F => d_done (by kernel_rfl) (hK9 _ _ (?_))
        try clear hK9 K9
        by_cases c25 : e19 = e23
        · have F := F.setB (d := 25) rfl (decide_eq_false (fun h => h c25))
          refine c_iff F rfl (wp_skip (hK8 _ _ (?_)))
          try clear hK8 K8
          refine c_region (sp F (p_move rfl) rfl rfl fun a F => sp F (p_add rfl rfl (by omega) (by omega)) rfl rfl fun a F => sp F (p_assign rfl) rfl rfl fun a F => c_nil (?_))
          try rw [← hp23] at F
          try rw [← hp23] at O
          try rw [← hp19] at F
          try rw [← hp19] at O
          have F : Has 26 [(0, .slice A n c), (1, .slice A2 n2 c2), (10, .bool false), (5, .int .i64 (k + 1))] a := F.pick ⟨rfl, rfl, rfl, rfl, trivial⟩
          exact ⟨((n : Int) - (k + 1)).toNat, by omega, (k + 1), rfl, F, O, by first | assumption | omega, by first | assumption | omega, by exact sameTo_step hi0c hi0a he19 he23 (by omega)⟩
        · have F := F.setB (d := 25) rfl (decide_eq_true c25)
          refine c_ift F rfl (c_seq fun K10 hK10 => c_region (sp F (p_assign rfl) rfl rfl fun a F => c_nil (hK10 _ _ (?_))))
          try clear hK10 K10
          refine wp_ret (r_block (r_then (r_then (r_block (r_then (ret1 F rfl rfl (?_)))))))
          exact ⟨congrArg Ending.returned (show Value.bool false = .bool (decide (es = es2)) from by exact vbf (fun h => by subst h; first | omega | (rw [he19] at he23; injection he23; omega))), O⟩
      · have F := F.setB (d := 14) rfl (decide_eq_false c14)
        refine c_iff F rfl (wp_exit (e_then (e_then (e_here (hK4 _ _ (?_))))))
        try clear hK4 K4
        refine c_seq fun K8 hK8 => c_region (sp F (p_assign rfl) rfl rfl fun a F => c_nil (hK8 _ _ (?_)))
        try clear hK8 K8
        refine wp_ret (ret1 F rfl rfl (?_))
        exact ⟨congrArg Ending.returned (show Value.bool true = .bool (decide (es = es2)) from by exact vbt (same_ext hi0c (by omega) (by omega))), O⟩
  · have F := F.setB (d := 10) rfl (decide_eq_true c10)
    refine c_ift F rfl (c_seq fun K4 hK4 => c_region (sp F (p_assign rfl) rfl rfl fun a F => c_nil (hK4 _ _ (?_))))
    try clear hK4 K4
    refine wp_ret (r_then (ret1 F rfl rfl (?_)))
    exact ⟨congrArg Ending.returned (show Value.bool false = .bool (decide (es = es2)) from by exact vbf (fun h => by subst h; first | omega | (rw [he19] at he23; injection he23; omega))), O⟩

end Go.Proofs.Ytilpbddeijolbaa
