/- Clashing names begin alike: the law FnClashNot returns true: the row, and its card. No conditions. -/
import Derived.Test.YtjmnnogpinggmaaDoorNamL
import Derived.Test.YtjmnnogpinggmaaDoorDoorN
import Derived.Test.YtjmnnogpinggmaaDoorCards
import Derived.Test.YtjmnnogpinggmaaDoorTie
import Derived.SevenTiedAt
namespace Go.Proofs.YtjmnnogpinggmaaDoor
open Go.ChangeShapes Go.WideShapes Go.ChangeAt Go.RowKit
set_option linter.unusedVariables false
set_option linter.unusedSimpArgs false

set_option maxRecDepth 100000 in
/-- laws.FnClashNot -/
theorem clashNot_ok (A : Option Addr) (cn : Nat) (cc : Nat) (m0 : Int) (w0 : World) (hC : CodeIn w0 A cn cc) (hl_0 : 0 < w0.heap.size) (hm_0_0 : w0.cell? ⟨0, 0, none⟩ = some (.int .i64 (m0))) :
    Calls Tryd.prog 16 #[.slice A cn cc] w0 fun e w => e = .returned (.bool true) ∧ Own w0 [] [] w := by
  have O := Own.start w0
  have hcc : (cn : Int) ≤ cc := by have := hC.1; omega
  have hcm : (cc : Int) ≤ 9223372036854775807 := by have := hC.2.1; unfold maxLen at this; omega
  refine enterO (n := 54) Tryd.func16 rfl rfl rfl O fun a w F O => ?_
  refine c_seq fun K1 hK1 => c_region (sp F (p_assign rfl) rfl rfl fun a F => c_nil (hK1 _ _ (?_)))
  try clear hK1 K1
  refine c_seq fun K2 hK2 => c_seq fun K3 hK3 => c_region (sp F (p_move rfl) rfl rfl fun a F => sp F (p_len_l rfl Tryd.underlying22) rfl rfl fun a F => sp F (p_gtr rfl rfl) rfl rfl fun a F => c_nil (hK3 _ _ (?_)))
  try clear hK3 K3
  by_cases c11 : 1048576 < (cn : Int)
  · have F := F.setB (d := 11) rfl (decide_eq_true c11)
    refine c_ift F rfl (c_seq fun K4 hK4 => c_region (sp F (p_assign rfl) rfl rfl fun a F => c_nil (hK4 _ _ (?_))))
    try clear hK4 K4
    refine wp_ret (r_then (ret1 F rfl rfl (?_)))
    exact ⟨rfl, O⟩
  · have F := F.setB (d := 11) rfl (decide_eq_false c11)
    refine c_iff F rfl (wp_skip (hK2 _ _ (?_)))
    try clear hK2 K2
    refine c_seq fun K4 hK4 => c_region (sp F (p_move rfl) rfl rfl fun a F => so F rfl (o_call (vs := #[.slice A cn cc]) F Tryd.en_23 rfl rfl ((dNameClashes_ok A cn cc w (hC.keep O)).mono ?_)))
    rintro e w ⟨L14, M14, rfl, h14a, h14b, K⟩
    refine ⟨_, rfl, fun a F => ?_⟩
    have O : Own w0 [] [] w := O.call0 K
    clear K
    have O : Own w0 [] [] w := O
    refine sp F (p_move rfl) rfl rfl fun a F => sp F (p_extract rfl rfl) rfl rfl fun a F => sp F (p_extract rfl rfl) rfl rfl fun a F => sp F (p_assign rfl) rfl rfl fun a F => sp F (p_assign rfl) rfl rfl fun a F => c_nil (hK4 _ _ (?_))
    try clear hK4 K4
    refine c_seq fun K5 hK5 => c_region (sp F (p_move rfl) rfl rfl fun a F => sp F (p_move rfl) rfl rfl fun a F => so F rfl (o_call (vs := #[.string (bs (L14)), .string (bs (M14))]) F Tryd.en_24 rfl rfl ((iNameClashes_ok L14 M14 m0 w (by first | omega | assumption | (rw [List.length_append]; simp only [List.length_cons, List.length_nil]; omega) | (simp; done) | (simp; omega) | (exact hE _ (List.mem_of_getElem? (by assumption))) | (have := cut_small _ (List.mem_of_getElem? (by assumption)); omega)) (by first | omega | assumption | (rw [List.length_append]; simp only [List.length_cons, List.length_nil]; omega) | (simp; done) | (simp; omega) | (exact hE _ (List.mem_of_getElem? (by assumption))) | (have := cut_small _ (List.mem_of_getElem? (by assumption)); omega)) (Nat.lt_of_lt_of_le hl_0 O.size) (((O.old hl_0 (by simp)).trans hm_0_0))).mono ?_)))
    rintro e w ⟨rfl, K⟩
    refine ⟨_, rfl, fun a F => ?_⟩
    have O : Own w0 [] [] w := O.call0 K
    clear K
    have O : Own w0 [] [] w := O
    refine sp F (p_assign rfl) rfl rfl fun a F => c_nil (hK5 _ _ (?_))
    try clear hK5 K5
    refine c_seq fun K6 hK6 => c_region (sp F (p_move rfl) rfl rfl fun a F => sp F (p_move rfl) rfl rfl fun a F => so F rfl (o_call (vs := #[.string (bs (L14)), .string (bs (M14))]) F Tryd.en_25 rfl rfl ((sNameClashes_ok L14 M14 w (by first | omega | assumption | (rw [List.length_append]; simp only [List.length_cons, List.length_nil]; omega) | (simp; done) | (simp; omega) | (exact hE _ (List.mem_of_getElem? (by assumption))) | (have := cut_small _ (List.mem_of_getElem? (by assumption)); omega)) (by first | omega | assumption | (rw [List.length_append]; simp only [List.length_cons, List.length_nil]; omega) | (simp; done) | (simp; omega) | (exact hE _ (List.mem_of_getElem? (by assumption))) | (have := cut_small _ (List.mem_of_getElem? (by assumption)); omega))).mono ?_)))
    rintro e w ⟨rfl, K⟩
    refine ⟨_, rfl, fun a F => ?_⟩
    have O : Own w0 [] [] w := O.call0 K
    clear K
    have O : Own w0 [] [] w := O
    refine sp F (p_assign rfl) rfl rfl fun a F => c_nil (hK6 _ _ (?_))
    try clear hK6 K6
    refine c_seq fun K7 hK7 => c_seq fun K8 hK8 => c_region (sp F (p_move rfl) rfl rfl fun a F => sp F (p_move rfl) rfl rfl fun a F => sp F (p_bneL rfl rfl Tryd.underlying4 false (by simp)) rfl rfl fun a F => c_nil (hK8 _ _ (?_)))
    try clear hK8 K8
    refine c_iff F rfl (wp_skip (hK7 _ _ (?_)))
    try clear hK7 K7
    refine c_seq fun K9 hK9 => c_region (sp F (p_move rfl) rfl rfl fun a F => so F rfl (o_call (vs := #[.string (bs (L14))]) F Tryd.en_22 rfl rfl ((iNameParts_ok L14 m0 w (by first | omega | assumption | (rw [List.length_append]; simp only [List.length_cons, List.length_nil]; omega) | (simp; done) | (simp; omega) | (exact hE _ (List.mem_of_getElem? (by assumption))) | (have := cut_small _ (List.mem_of_getElem? (by assumption)); omega)) (Nat.lt_of_lt_of_le hl_0 O.size) (((O.old hl_0 (by simp)).trans hm_0_0))).mono ?_)))
    rintro e w ⟨P30, N30, C30, rfl, h30a, h30b, K⟩
    refine ⟨_, rfl, fun a F => ?_⟩
    have O : Own w0 [] [.row 9 1 (.slice P30 N30 C30) N30 ((partsL L14).flatMap encStr)] w := O.call0 K
    clear K
    have O : Own w0 [] [.row 9 1 (.slice P30 N30 C30) N30 ((partsL L14).flatMap encStr)] w := O
    refine sp F (p_assign rfl) rfl rfl fun a F => c_nil (hK9 _ _ (?_))
    try clear hK9 K9
    refine c_seq fun K10 hK10 => c_region (sp F (p_move rfl) rfl rfl fun a F => so F rfl (o_call (vs := #[.string (bs (M14))]) F Tryd.en_22 rfl rfl ((iNameParts_ok M14 m0 w (by first | omega | assumption | (rw [List.length_append]; simp only [List.length_cons, List.length_nil]; omega) | (simp; done) | (simp; omega) | (exact hE _ (List.mem_of_getElem? (by assumption))) | (have := cut_small _ (List.mem_of_getElem? (by assumption)); omega)) (Nat.lt_of_lt_of_le hl_0 O.size) (((O.old hl_0 (by simp)).trans hm_0_0))).mono ?_)))
    rintro e w ⟨P32, N32, C32, rfl, h32a, h32b, K⟩
    refine ⟨_, rfl, fun a F => ?_⟩
    have O : Own w0 [] [.row 9 1 (.slice P32 N32 C32) N32 ((partsL M14).flatMap encStr), .row 9 1 (.slice P30 N30 C30) N30 ((partsL L14).flatMap encStr)] w := O.call0 K
    clear K
    have O : Own w0 [] [.row 9 1 (.slice P32 N32 C32) N32 ((partsL M14).flatMap encStr), .row 9 1 (.slice P30 N30 C30) N30 ((partsL L14).flatMap encStr)] w := O
    refine sp F (p_assign rfl) rfl rfl fun a F => c_nil (hK10 _ _ (?_))
    try clear hK10 K10
    refine c_seq fun K11 hK11 => ?_
    by_cases cc1 : (N30 : Int) = 0
    · refine c_draw Tryd.mixed (SC []) [] _ (fun a w h => h) ?_
      have O := O.drawn (w.drawn + 1)
      generalize { w with drawn := w.drawn + 1 } = w at O ⊢
      have hS : SC [] w := SC.nil
      refine d_take 0 rfl (by kernel_rfl) F (p_move rfl) rfl rfl hS fun a F => d_take 1 rfl (by kernel_rfl) F (p_len_l rfl Tryd.underlying28) rfl rfl hS fun a F => d_take 2 rfl (by kernel_rfl) F (p_eql rfl rfl) rfl rfl hS fun a F => ?_
      have F := F.setB (d := 35) rfl (decide_eq_true cc1)
      refine d_take 3 rfl (by kernel_rfl) F (p_move rfl) rfl rfl hS fun a F => d_skip 4 rfl (by kernel_rfl) F rfl rfl hS fun a F => d_skip 5 rfl (by kernel_rfl) F rfl rfl hS fun a F => d_skip 6 rfl (by kernel_rfl) F rfl rfl hS fun a F => d_take 7 rfl (by kernel_rfl) F (p_pick (t := true) rfl rfl) rfl rfl hS fun a F => d_take 8 rfl (by kernel_rfl) F (p_move rfl) rfl rfl hS fun a F => d_skip 9 rfl (by kernel_rfl) F rfl rfl hS fun a F => d_skip 10 rfl (by kernel_rfl) F rfl rfl hS fun a F => d_skip 11 rfl (by kernel_rfl) F rfl rfl hS fun a F => d_skip 12 rfl (by kernel_rfl) F rfl rfl hS fun a F => d_skip 13 rfl (by kernel_rfl) F rfl rfl hS fun a F => d_skip 14 rfl (by kernel_rfl) F rfl rfl hS fun a F => d_skip 15 rfl (by kernel_rfl) F rfl rfl hS fun a F => ?_
      refine d_take 16 rfl (by kernel_rfl) F (p_pick (t := true) rfl rfl) rfl rfl hS fun a F => d_take 17 rfl (by kernel_rfl) F (p_move rfl) rfl rfl hS fun a F => d_skip 18 rfl (by kernel_rfl) F rfl rfl hS fun a F => d_skip 19 rfl (by kernel_rfl) F rfl rfl hS fun a F => d_take 20 rfl (by kernel_rfl) F (p_pick (t := true) rfl rfl) rfl rfl hS fun a F => d_take 21 rfl (by kernel_rfl) F (p_assign rfl) rfl rfl hS fun a F => d_done (by kernel_rfl) (hK11 _ _ (?_))
      try clear hK11 K11
      refine wp_ret (ret1 F rfl rfl (?_))
      have O : Own w0 [] [] w := (O.take 0)
      exact ⟨rfl, O⟩
    · by_cases cc2 : (N32 : Int) = 0
      · refine c_draw Tryd.mixed (SC []) [] _ (fun a w h => h) ?_
        have O := O.drawn (w.drawn + 1)
        generalize { w with drawn := w.drawn + 1 } = w at O ⊢
        have hS : SC [] w := SC.nil
        refine d_take 0 rfl (by kernel_rfl) F (p_move rfl) rfl rfl hS fun a F => d_take 1 rfl (by kernel_rfl) F (p_len_l rfl Tryd.underlying28) rfl rfl hS fun a F => d_take 2 rfl (by kernel_rfl) F (p_eql rfl rfl) rfl rfl hS fun a F => ?_
        have F := F.setB (d := 35) rfl (decide_eq_false cc1)
        refine d_take 3 rfl (by kernel_rfl) F (p_move rfl) rfl rfl hS fun a F => d_take 4 rfl (by kernel_rfl) F (p_move rfl) rfl rfl hS fun a F => d_take 5 rfl (by kernel_rfl) F (p_len_l rfl Tryd.underlying28) rfl rfl hS fun a F => d_take 6 rfl (by kernel_rfl) F (p_eql rfl rfl) rfl rfl hS fun a F => ?_
        have F := F.setB (d := 39) rfl (decide_eq_true cc2)
        refine d_take 7 rfl (by kernel_rfl) F (p_pick (t := false) rfl rfl) rfl rfl hS fun a F => d_take 8 rfl (by kernel_rfl) F (p_move rfl) rfl rfl hS fun a F => d_skip 9 rfl (by kernel_rfl) F rfl rfl hS fun a F => d_skip 10 rfl (by kernel_rfl) F rfl rfl hS fun a F => d_skip 11 rfl (by kernel_rfl) F rfl rfl hS fun a F => d_skip 12 rfl (by kernel_rfl) F rfl rfl hS fun a F => d_skip 13 rfl (by kernel_rfl) F rfl rfl hS fun a F => d_skip 14 rfl (by kernel_rfl) F rfl rfl hS fun a F => d_skip 15 rfl (by kernel_rfl) F rfl rfl hS fun a F => d_take 16 rfl (by kernel_rfl) F (p_pick (t := true) rfl rfl) rfl rfl hS fun a F => d_take 17 rfl (by kernel_rfl) F (p_move rfl) rfl rfl hS fun a F => d_skip 18 rfl (by kernel_rfl) F rfl rfl hS fun a F => d_skip 19 rfl (by kernel_rfl) F rfl rfl hS fun a F => ?_
        refine d_take 20 rfl (by kernel_rfl) F (p_pick (t := true) rfl rfl) rfl rfl hS fun a F => d_take 21 rfl (by kernel_rfl) F (p_assign rfl) rfl rfl hS fun a F => d_done (by kernel_rfl) (hK11 _ _ (?_))
        try clear hK11 K11
        refine wp_ret (ret1 F rfl rfl (?_))
        have O : Own w0 [] [] w := (O.take 0)
        exact ⟨rfl, O⟩
      · obtain ⟨b43, hp43⟩ := O.rowSome 1 rfl (by omega)
        rw [hp43] at O
        try rw [hp43] at F
        obtain ⟨e43, he43⟩ := get_some (l := partsL L14) (i := 0) (by omega) (by first | omega | (simp; omega))
        obtain ⟨b46, hp46⟩ := O.rowSome 0 rfl (by omega)
        rw [hp46] at O
        try rw [hp46] at F
        obtain ⟨e46, he46⟩ := get_some (l := partsL M14) (i := 0) (by omega) (by first | omega | (simp; omega))
        by_cases cc3 : e43 = e46
        · refine c_draw Tryd.mixed (SC [(b43, 0 + (0 : Int).toNat * 1, .string (bs (e43))), (b46, 0 + (0 : Int).toNat * 1, .string (bs (e46)))]) [] _ (fun a w h => h) ?_
          have O := O.drawn (w.drawn + 1)
          generalize { w with drawn := w.drawn + 1 } = w at O ⊢
          have hS : SC [(b43, 0 + (0 : Int).toNat * 1, .string (bs (e43))), (b46, 0 + (0 : Int).toNat * 1, .string (bs (e46)))] w := (SC.cons ((O.loadRow 1 rfl (flat_get0 encStr_len he43 rfl))) (SC.cons ((O.loadRow 0 rfl (flat_get0 encStr_len he46 rfl))) SC.nil))
          refine d_take 0 rfl (by kernel_rfl) F (p_move rfl) rfl rfl hS fun a F => d_take 1 rfl (by kernel_rfl) F (p_len_l rfl Tryd.underlying28) rfl rfl hS fun a F => d_take 2 rfl (by kernel_rfl) F (p_eql rfl rfl) rfl rfl hS fun a F => ?_
          have F := F.setB (d := 35) rfl (decide_eq_false cc1)
          refine d_take 3 rfl (by kernel_rfl) F (p_move rfl) rfl rfl hS fun a F => d_take 4 rfl (by kernel_rfl) F (p_move rfl) rfl rfl hS fun a F => d_take 5 rfl (by kernel_rfl) F (p_len_l rfl Tryd.underlying28) rfl rfl hS fun a F => d_take 6 rfl (by kernel_rfl) F (p_eql rfl rfl) rfl rfl hS fun a F => ?_
          have F := F.setB (d := 39) rfl (decide_eq_false cc2)
          refine d_take 7 rfl (by kernel_rfl) F (p_pick (t := false) rfl rfl) rfl rfl hS fun a F => d_take 8 rfl (by kernel_rfl) F (p_move rfl) rfl rfl hS fun a F => d_take 9 rfl (by kernel_rfl) F (p_move rfl) rfl rfl hS fun a F => d_take 10 rfl (by kernel_rfl) F (p_iaddr rfl rfl Tryd.underlying28 Tryd.sz_9 (by omega) (by omega)) rfl rfl hS fun a F => d_take 11 rfl (by kernel_rfl) F (p_load rfl Tryd.agg_9 (fun _ h => (SC.get h 0 rfl))) rfl rfl hS fun a F => d_take 12 rfl (by kernel_rfl) F (p_move rfl) rfl rfl hS fun a F => d_take 13 rfl (by kernel_rfl) F (p_iaddr rfl rfl Tryd.underlying28 Tryd.sz_9 (by omega) (by omega)) rfl rfl hS fun a F => d_take 14 rfl (by kernel_rfl) F (p_load rfl Tryd.agg_9 (fun _ h => (SC.get h 1 rfl))) rfl rfl hS fun a F => d_take 15 rfl (by kernel_rfl) F (p_seq rfl rfl) rfl rfl hS fun a F => ?_
          have F := F.setB (d := 48) rfl (decide_eq_true cc3)
          refine d_take 16 rfl (by kernel_rfl) F (p_pick (t := false) rfl rfl) rfl rfl hS fun a F => d_take 17 rfl (by kernel_rfl) F (p_move rfl) rfl rfl hS fun a F => d_skip 18 rfl (by kernel_rfl) F rfl rfl hS fun a F => d_skip 19 rfl (by kernel_rfl) F rfl rfl hS fun a F => d_take 20 rfl (by kernel_rfl) F (p_pick (t := true) rfl rfl) rfl rfl hS fun a F => d_take 21 rfl (by kernel_rfl) F (p_assign rfl) rfl rfl hS fun a F => d_done (by kernel_rfl) (hK11 _ _ (?_))
          try clear hK11 K11
          refine wp_ret (ret1 F rfl rfl (?_))
          have O : Own w0 [] [] w := (O.take 0)
          exact ⟨rfl, O⟩
        · by_cases cc4 : clashB L14 M14 = true
          · exact absurd (clash_head cc4 he43 he46) cc3
          · refine c_draw Tryd.mixed (SC [(b43, 0 + (0 : Int).toNat * 1, .string (bs (e43))), (b46, 0 + (0 : Int).toNat * 1, .string (bs (e46)))]) [] _ (fun a w h => h) ?_
            have O := O.drawn (w.drawn + 1)
            generalize { w with drawn := w.drawn + 1 } = w at O ⊢
            have hS : SC [(b43, 0 + (0 : Int).toNat * 1, .string (bs (e43))), (b46, 0 + (0 : Int).toNat * 1, .string (bs (e46)))] w := (SC.cons ((O.loadRow 1 rfl (flat_get0 encStr_len he43 rfl))) (SC.cons ((O.loadRow 0 rfl (flat_get0 encStr_len he46 rfl))) SC.nil))
            refine d_take 0 rfl (by kernel_rfl) F (p_move rfl) rfl rfl hS fun a F => d_take 1 rfl (by kernel_rfl) F (p_len_l rfl Tryd.underlying28) rfl rfl hS fun a F => d_take 2 rfl (by kernel_rfl) F (p_eql rfl rfl) rfl rfl hS fun a F => ?_
            have F := F.setB (d := 35) rfl (decide_eq_false cc1)
            refine d_take 3 rfl (by kernel_rfl) F (p_move rfl) rfl rfl hS fun a F => d_take 4 rfl (by kernel_rfl) F (p_move rfl) rfl rfl hS fun a F => d_take 5 rfl (by kernel_rfl) F (p_len_l rfl Tryd.underlying28) rfl rfl hS fun a F => d_take 6 rfl (by kernel_rfl) F (p_eql rfl rfl) rfl rfl hS fun a F => ?_
            have F := F.setB (d := 39) rfl (decide_eq_false cc2)
            refine d_take 7 rfl (by kernel_rfl) F (p_pick (t := false) rfl rfl) rfl rfl hS fun a F => d_take 8 rfl (by kernel_rfl) F (p_move rfl) rfl rfl hS fun a F => d_take 9 rfl (by kernel_rfl) F (p_move rfl) rfl rfl hS fun a F => d_take 10 rfl (by kernel_rfl) F (p_iaddr rfl rfl Tryd.underlying28 Tryd.sz_9 (by omega) (by omega)) rfl rfl hS fun a F => d_take 11 rfl (by kernel_rfl) F (p_load rfl Tryd.agg_9 (fun _ h => (SC.get h 0 rfl))) rfl rfl hS fun a F => d_take 12 rfl (by kernel_rfl) F (p_move rfl) rfl rfl hS fun a F => d_take 13 rfl (by kernel_rfl) F (p_iaddr rfl rfl Tryd.underlying28 Tryd.sz_9 (by omega) (by omega)) rfl rfl hS fun a F => d_take 14 rfl (by kernel_rfl) F (p_load rfl Tryd.agg_9 (fun _ h => (SC.get h 1 rfl))) rfl rfl hS fun a F => d_take 15 rfl (by kernel_rfl) F (p_seq rfl rfl) rfl rfl hS fun a F => ?_
            have F := F.setB (d := 48) rfl (decide_eq_false cc3)
            refine d_take 16 rfl (by kernel_rfl) F (p_pick (t := false) rfl rfl) rfl rfl hS fun a F => d_take 17 rfl (by kernel_rfl) F (p_move rfl) rfl rfl hS fun a F => d_take 18 rfl (by kernel_rfl) F (p_move rfl) rfl rfl hS fun a F => ?_
            have F := F.setB (d := 19) rfl (decide_eq_false cc4)
            have F := F.setB (d := 5) rfl (decide_eq_false cc4)
            have F := F.setB (d := 22) rfl (decide_eq_false cc4)
            have F := F.setB (d := 6) rfl (decide_eq_false cc4)
            have F := F.setB (d := 23) rfl (decide_eq_false cc4)
            have F := F.setB (d := 24) rfl (decide_eq_false cc4)
            have F := F.setB (d := 51) rfl (decide_eq_false cc4)
            refine d_take 19 rfl (by kernel_rfl) F (p_not rfl) rfl rfl hS fun a F => d_take 20 rfl (by kernel_rfl) F (p_pick (t := false) rfl rfl) rfl rfl hS fun a F => d_take 21 rfl (by kernel_rfl) F (p_assign rfl) rfl rfl hS fun a F => d_done (by kernel_rfl) (hK11 _ _ (?_))
            try clear hK11 K11
            refine wp_ret (ret1 F rfl rfl (?_))
            have O : Own w0 [] [] w := (O.take 0)
            exact ⟨rfl, O⟩

set_option maxRecDepth 100000 in
theorem clashNot_lifted (os : Os) (started : os.Started) (H : Type) (enc : TypeId × Value → H) :
    ReturnsInHanded {} Tryd.checked os 16 .any (fun w args => (Rows.fnClashNotSpec.pre enc Tryd.prog Tryd.f16 [] false w args ∧ laidMet Tryd.prog laidList w) ∧ sizedMet enc Tryd.prog Tryd.f16 (OpenSpec.ofChange Rows.fnClashNotSpec) false w args)
      (Rows.fnClashNotSpec.post enc Tryd.prog Tryd.f16 false true false false) := by
  refine lifted_laid started (by kernel_rfl) Tryd.func16 rfl ?_ (by kernel_rfl) (by kernel_rfl)
    (ChangeSpec.witness_at (enc := enc) (C := Tryd.checked) (os := os) (X := fun w _ => laidMet Tryd.prog laidList w) false (laidWorld os) #[.slice none 0 0] 8 rfl (laid_vars os _) (laid_rest os _) (by kernel_rfl) (by kernel_rfl) (by kernel_rfl) (laidWorld_met os _)) ?_
  · intro ds hds
    match ds, hds with
    | [_], _ => rfl
  intro W base args ds p m0 hval0 hA0 hm hl
  have hval : ∀ (j : Nat) t v, Tryd.f16.params[j]? = some t → args[j]? = some v → Value.okWide Tryd.prog W .any base t v := hval0
  have hA : DataW.TrodAll enc Tryd.prog W 0 (fun _ => true) true Tryd.f16.params.toList args.toList ds p := hA0
  clear hA0 hval0
  show Calls Tryd.prog 16 args W _
  rw [Tryd.params16] at hA hval
  obtain ⟨v0, d0, hargs, rfl, h0⟩ := trodAll_one hA
  obtain rfl : args = #[v0] := by cases args; simp_all
  obtain ⟨a, n, c, rfl, hC⟩ := open_codeIn (hval 0 22 v0 rfl rfl) h0
  exact (clashNot_ok a n c m0 W hC hl hm).mono fun e w' h => ⟨h.1, h.2.below⟩

theorem clashNot_pkg : ¬ Check.packageOf Tryd.f16.name = "main" := by
  intro h
  have h2 := congrArg String.toList h
  simp only [Check.packageOf, Tryd.f16] at h2
  simp at h2
theorem clashNot_closed : lawFacts Tryd.prog 16 Tryd.f16 Rows.fnClashNotSpec Rows.fnClashNotRow = true := by kernel_rfl
theorem clashNot_facts : joinedFacts Tryd.pinned.checked.prog 16 Tryd.f16 Rows.fnClashNotSpec Rows.fnClashNotRow = true := facts_of (P := Tryd.prog) Tryd.facts clashNot_closed
theorem clashNot_wrap : Func.isWrapper Tryd.pinned.checked.prog Tryd.f16 Rows.fnClashNotRow.wrapper Rows.fnClashNotRow.mainSum := by
  have e1 : Rows.fnClashNotRow.wrapper = false := rfl
  have e2 : Rows.fnClashNotRow.mainSum = "" := rfl
  rw [e1, e2]
  exact wrapper_of Tryd.pinned.checked.prog Tryd.f16 clashNot_pkg

/-- The row's statement. -/
theorem clashNot_row : Rows.FnClashNotSaid :=
  OpenClaim.holds_of_wide 16 Tryd.f16 rfl rfl rfl rfl rfl rfl rfl ⟨rfl, rfl, rfl, rfl, rfl⟩ rfl rfl rfl rfl rfl (by kernel_rfl) Tryd.func16 clashNot_facts
    (of_decide_eq_true (by kernel_rfl)) clashNot_wrap
    (fun os started H enc _ => clashNot_lifted os started H enc)

/-- The card. -/
theorem clashNot_card : Rows.FnClashNotCardSaid :=
  Claim7.holds_tied_plain_at .later [] [.data, .pinned] true (true, "5d7b27699adf6aa4303d3de668a7c3150c04e5a87965bab53939a9c73c259877") false
    clashNot_row (fun _ h => by cases h) (by kernel_rfl) (fun _ h => by cases h) fnClashNot_row_tie rfl ⟨rfl, rfl⟩ (by kernel_rfl) rfl
    (fun f fn hf hfn => by
      obtain rfl : f = 16 := Option.some.inj ((show Tryd.prog.funcNamed "loop.example/atomicpush/laws.FnClashNot" = some 16 by kernel_rfl).symm.trans hf) |>.symm
      obtain rfl : fn = Tryd.f16 := (Option.some.inj (Tryd.func16.symm.trans hfn)).symm
      exact ⟨by kernel_rfl, fun j t ht => by
        rw [Tryd.params16] at ht
        rcases j with _ | _ | _ | j <;> simp at ht <;> subst ht <;> kernel_rfl⟩)
    (by kernel_rfl)
#print axioms clashNot_card
end Go.Proofs.YtjmnnogpinggmaaDoor
