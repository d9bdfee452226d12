/- A star matches one part: the law FnMatchOne returns true: the row, and its card. No conditions. -/
import Derived.Test.YtjmnnogpinggmaaDoorNamL
import Derived.Test.YtjmnnogpinggmaaDoorDoorN
import Derived.Test.YtjmnnogpinggmaaDoorCards
import Derived.Test.YtjmnnogpinggmaaDoorTie
import Derived.SevenTiedAt
namespace Go.Proofs.YtjmnnogpinggmaaDoor
open Go.ChangeShapes Go.WideShapes Go.ChangeAt Go.RowKit
set_option linter.unusedVariables false
set_option linter.unusedSimpArgs false

set_option maxRecDepth 100000 in
/-- laws.FnMatchOne -/
theorem matchOne_ok (A : Option Addr) (cn : Nat) (cc : Nat) (m0 : Int) (w0 : World) (hC : CodeIn w0 A cn cc) (hl_0 : 0 < w0.heap.size) (hm_0_0 : w0.cell? ⟨0, 0, none⟩ = some (.int .i64 (m0))) :
    Calls Tryd.prog 17 #[.slice A cn cc] w0 fun e w => e = .returned (.bool true) ∧ Own w0 [] [] w := by
  have O := Own.start w0
  have hcc : (cn : Int) ≤ cc := by have := hC.1; omega
  have hcm : (cc : Int) ≤ 9223372036854775807 := by have := hC.2.1; unfold maxLen at this; omega
  refine enterO (n := 65) Tryd.func17 rfl rfl rfl O fun a w F O => ?_
  refine c_seq fun K1 hK1 => c_region (sp F (p_assign rfl) rfl rfl fun a F => c_nil (hK1 _ _ (?_)))
  try clear hK1 K1
  refine c_seq fun K2 hK2 => c_seq fun K3 hK3 => c_region (sp F (p_move rfl) rfl rfl fun a F => sp F (p_len_l rfl Tryd.underlying22) rfl rfl fun a F => sp F (p_gtr rfl rfl) rfl rfl fun a F => c_nil (hK3 _ _ (?_)))
  try clear hK3 K3
  by_cases c8 : 1048576 < (cn : Int)
  · have F := F.setB (d := 8) rfl (decide_eq_true c8)
    refine c_ift F rfl (c_seq fun K4 hK4 => c_region (sp F (p_assign rfl) rfl rfl fun a F => c_nil (hK4 _ _ (?_))))
    try clear hK4 K4
    refine wp_ret (r_then (ret1 F rfl rfl (?_)))
    exact ⟨rfl, O⟩
  · have F := F.setB (d := 8) rfl (decide_eq_false c8)
    refine c_iff F rfl (wp_skip (hK2 _ _ (?_)))
    try clear hK2 K2
    refine c_seq fun K4 hK4 => c_region (sp F (p_move rfl) rfl rfl fun a F => so F rfl (o_call (vs := #[.slice A cn cc]) F Tryd.en_33 rfl rfl ((dNameParts_ok A cn cc w (hC.keep O)).mono ?_)))
    rintro e w ⟨L10, rfl, h10a, K⟩
    refine ⟨_, rfl, fun a F => ?_⟩
    have O : Own w0 [] [] w := O.call0 K
    clear K
    have O : Own w0 [] [] w := O
    refine sp F (p_assign rfl) rfl rfl fun a F => c_nil (hK4 _ _ (?_))
    try clear hK4 K4
    refine c_seq fun K5 hK5 => c_region (sp F (p_move rfl) rfl rfl fun a F => so F rfl (o_call (vs := #[.string (bs (L10))]) F Tryd.en_22 rfl rfl ((iNameParts_ok L10 m0 w (by first | omega | (rw [List.length_append]; simp only [List.length_cons, List.length_nil]; omega) | assumption | (simp; done) | (simp; omega) | (exact hE _ (List.mem_of_getElem? (by assumption))) | (have := cut_small _ (List.mem_of_getElem? (by assumption)); omega)) (Nat.lt_of_lt_of_le hl_0 O.size) (((O.old hl_0 (by simp)).trans hm_0_0))).mono ?_)))
    rintro e w ⟨P12, N12, C12, rfl, h12a, h12b, K⟩
    refine ⟨_, rfl, fun a F => ?_⟩
    have O : Own w0 [] [.row 9 1 (.slice P12 N12 C12) N12 ((partsL L10).flatMap encStr)] w := O.call0 K
    clear K
    have O : Own w0 [] [.row 9 1 (.slice P12 N12 C12) N12 ((partsL L10).flatMap encStr)] w := O
    refine sp F (p_assign rfl) rfl rfl fun a F => c_nil (hK5 _ _ (?_))
    try clear hK5 K5
    refine c_seq fun K6 hK6 => c_region (sp F (p_move rfl) rfl rfl fun a F => so F rfl (o_call (vs := #[.string (bs (L10))]) F Tryd.en_29 rfl rfl ((sNameParts_ok L10 w (by first | omega | (rw [List.length_append]; simp only [List.length_cons, List.length_nil]; omega) | assumption | (simp; done) | (simp; omega) | (exact hE _ (List.mem_of_getElem? (by assumption))) | (have := cut_small _ (List.mem_of_getElem? (by assumption)); omega))).mono ?_)))
    rintro e w ⟨P14, N14, C14, rfl, h14a, h14b, K⟩
    refine ⟨_, rfl, fun a F => ?_⟩
    have O : Own w0 [] [.row 9 1 (.slice P14 N14 C14) N14 ((partsL L10).flatMap encStr), .row 9 1 (.slice P12 N12 C12) N12 ((partsL L10).flatMap encStr)] w := O.call0 K
    clear K
    have O : Own w0 [] [.row 9 1 (.slice P14 N14 C14) N14 ((partsL L10).flatMap encStr), .row 9 1 (.slice P12 N12 C12) N12 ((partsL L10).flatMap encStr)] w := O
    refine sp F (p_assign rfl) rfl rfl fun a F => c_nil (hK6 _ _ (?_))
    try clear hK6 K6
    refine c_seq fun K7 hK7 => c_seq fun K8 hK8 => c_region (sp F (p_move rfl) rfl rfl fun a F => sp F (p_move rfl) rfl rfl fun a F => so F rfl (o_call (vs := #[.slice P12 N12 C12, .slice P14 N14 C14]) F Tryd.en_26 rfl rfl ((sameTexts_ok P12 N12 C12 (partsL L10) P14 N14 C14 (partsL L10) w (O.arr 1 (es := partsL L10) rfl encStr_len (by decide)) (by first | omega | (simp; done) | (simp; omega) | (simp at *; omega)) (by omega) (O.arr 0 (es := partsL L10) rfl encStr_len (by decide)) (by first | omega | (simp; done) | (simp; omega) | (simp at *; omega)) (by omega)).mono ?_)))
    rintro e w ⟨rfl, K⟩
    refine ⟨_, rfl, fun a F => ?_⟩
    have O : Own w0 [] [.row 9 1 (.slice P14 N14 C14) N14 ((partsL L10).flatMap encStr), .row 9 1 (.slice P12 N12 C12) N12 ((partsL L10).flatMap encStr)] w := O.call0 K
    clear K
    have c17 : (partsL L10) = (partsL L10) := by rfl
    have F := F.setB (d := 17) rfl (decide_eq_true c17)
    have O : Own w0 [] [.row 9 1 (.slice P14 N14 C14) N14 ((partsL L10).flatMap encStr), .row 9 1 (.slice P12 N12 C12) N12 ((partsL L10).flatMap encStr)] w := O
    refine sp F (p_not rfl) rfl rfl fun a F => sp F (p_move rfl) rfl rfl fun a F => sp F (p_move rfl) rfl rfl fun a F => sp F (p_len_l rfl Tryd.underlying28) rfl rfl fun a F => sp F (p_neq rfl rfl) rfl rfl fun a F => sp F (p_pick (t := false) rfl rfl) rfl rfl fun a F => c_nil (hK8 _ _ (?_))
    try clear hK8 K8
    by_cases c23 : (N12 : Int) = 2
    · have F := F.setB (d := 22) rfl (decide_eq_false (fun h => h c23))
      have F := F.setB (d := 23) rfl (decide_eq_false (fun h => h c23))
      refine c_iff F rfl (wp_skip (hK7 _ _ (?_)))
      try clear hK7 K7
      refine c_seq fun K9 hK9 => ?_
      obtain ⟨qa, hqa⟩ := get_some (l := partsL L10) (i := 0) (by omega) (by omega)
      obtain ⟨qb, hqb⟩ := get_some (l := partsL L10) (i := 1) (by omega) (by omega)
      obtain ⟨hv, hc2, hva, hvb⟩ := two_parts h12a (by omega) hqa hqb
      refine c_region (sp F (p_move rfl) rfl rfl fun a F => ?_)
      obtain ⟨b28, hp28⟩ := O.rowSome 1 rfl (by omega)
      rw [hp28] at O
      try rw [hp28] at F
      obtain ⟨e28, he28⟩ := get_some (l := partsL L10) (i := 1) (by omega) (by first | omega | (simp; omega))
      have hl28 : (e28.length : Int) ≤ 12 := by first | assumption | (have h5 := hqb; rw [he28] at h5; injection h5 with h5; subst h5; exact (validB_iff.1 hvb).1)
      refine sp F (p_iaddr rfl rfl Tryd.underlying28 Tryd.sz_9 (by omega) (by omega)) rfl rfl fun a F => sp F (p_load rfl Tryd.agg_9 (fun _ h => (ld1 ((O.loadRow 1 rfl (flat_get0 encStr_len he28 rfl))) h))) rfl rfl fun a F => sp F (p_len_b rfl Tryd.underlying9) rfl rfl fun a F => sp F (p_add rfl rfl (by omega) (by omega)) rfl rfl fun a F => sp F (p_gtr rfl rfl) rfl rfl fun a F => sp F (p_move rfl) rfl rfl fun a F => ?_
      by_cases c33 : 12 < ((e28.length : Int) + 2)
      · have F := F.setB (d := 32) rfl (decide_eq_true c33)
        have F := F.setB (d := 33) rfl (decide_eq_true c33)
        refine ss F rfl rfl fun a F => ss F rfl rfl fun a F => ss F rfl rfl fun a F => ss F rfl rfl fun a F => ss F rfl rfl fun a F => ss F rfl rfl fun a F => sp F (p_pick (t := true) rfl rfl) rfl rfl fun a F => sp F (p_move rfl) rfl rfl fun a F => sp F (p_move rfl) rfl rfl fun a F => ?_
        obtain ⟨e43, he43⟩ := get_some (l := partsL L10) (i := 0) (by omega) (by first | omega | (simp; omega))
        have hl43 : (e43.length : Int) ≤ 12 := by first | assumption | (have h5 := hqa; rw [he43] at h5; injection h5 with h5; subst h5; exact (validB_iff.1 hva).1)
        refine sp F (p_iaddr rfl rfl Tryd.underlying28 Tryd.sz_9 (by omega) (by omega)) rfl rfl fun a F => sp F (p_load rfl Tryd.agg_9 (fun _ h => (ld1 ((O.loadRow 1 rfl (flat_get0 encStr_len he43 rfl))) h))) rfl rfl fun a F => sp F (p_len_b rfl Tryd.underlying9) rfl rfl fun a F => sp F (p_add rfl rfl (by omega) (by omega)) rfl rfl fun a F => sp F (p_gtr rfl rfl) rfl rfl fun a F => sp F (p_move rfl) rfl rfl fun a F => ?_
        by_cases c48 : 12 < ((e43.length : Int) + 2)
        · have F := F.setB (d := 47) rfl (decide_eq_true c48)
          have F := F.setB (d := 48) rfl (decide_eq_true c48)
          refine ss F rfl rfl fun a F => ss F rfl rfl fun a F => ss F rfl rfl fun a F => ss F rfl rfl fun a F => ss F rfl rfl fun a F => ss F rfl rfl fun a F => sp F (p_pick (t := true) rfl rfl) rfl rfl fun a F => sp F (p_pick (t := true) rfl rfl) rfl rfl fun a F => sp F (p_move rfl) rfl rfl fun a F => sp F (p_move rfl) rfl rfl fun a F => ?_
          have hl43 : (e43.length : Int) ≤ 12 := by first | assumption | (have h5 := hqa; rw [he43] at h5; injection h5 with h5; subst h5; exact (validB_iff.1 hva).1)
          refine sp F (p_iaddr rfl rfl Tryd.underlying28 Tryd.sz_9 (by omega) (by omega)) rfl rfl fun a F => sp F (p_load rfl Tryd.agg_9 (fun _ h => (ld1 ((O.loadRow 1 rfl (flat_get0 encStr_len he43 rfl))) h))) rfl rfl fun a F => sp F (p_move rfl) rfl rfl fun a F => so F rfl (o_call (vs := #[.string (bs (e43)), .string (bs (L10))]) F Tryd.en_19 rfl rfl ((iNameMatches_ok e43 L10 m0 w (by first | omega | (rw [List.length_append]; simp only [List.length_cons, List.length_nil]; omega) | assumption | (simp; done) | (simp; omega) | (exact hE _ (List.mem_of_getElem? (by assumption))) | (have := cut_small _ (List.mem_of_getElem? (by assumption)); omega)) (by first | omega | (rw [List.length_append]; simp only [List.length_cons, List.length_nil]; omega) | assumption | (simp; done) | (simp; omega) | (exact hE _ (List.mem_of_getElem? (by assumption))) | (have := cut_small _ (List.mem_of_getElem? (by assumption)); omega)) (Nat.lt_of_lt_of_le hl_0 O.size) (((O.old hl_0 (by simp)).trans hm_0_0))).mono ?_))
          rintro e w ⟨rfl, K⟩
          refine ⟨_, rfl, fun a F => ?_⟩
          have O : Own w0 [] [.row 9 1 (.slice P14 N14 C14) N14 ((partsL L10).flatMap encStr), .row 9 1 (.slice (some ⟨b28, 0, none⟩) N12 C12) N12 ((partsL L10).flatMap encStr)] w := O.call0 K
          clear K
          have c62 : ¬ (matchB e43 L10 = true) := by have h5 := hqa; rw [he43] at h5; injection h5 with h5; subst h5; exact one_no hv hc2 hva
          have F := F.setB (d := 62) rfl (decide_eq_false c62)
          have O : Own w0 [] [.row 9 1 (.slice P14 N14 C14) N14 ((partsL L10).flatMap encStr), .row 9 1 (.slice (some ⟨b28, 0, none⟩) N12 C12) N12 ((partsL L10).flatMap encStr)] w := O
          refine sp F (p_not rfl) rfl rfl fun a F => sp F (p_pick (t := true) rfl rfl) rfl rfl fun a F => sp F (p_assign rfl) rfl rfl fun a F => c_nil (hK9 _ _ (?_))
          try clear hK9 K9
          refine wp_ret (ret1 F rfl rfl (?_))
          have O : Own w0 [] [] w := (O.take 0)
          exact ⟨rfl, O⟩
        · have F := F.setB (d := 47) rfl (decide_eq_false c48)
          have F := F.setB (d := 48) rfl (decide_eq_false c48)
          refine sp F (p_move rfl) rfl rfl fun a F => ?_
          have hl43 : (e43.length : Int) ≤ 12 := by first | assumption | (have h5 := hqa; rw [he43] at h5; injection h5 with h5; subst h5; exact (validB_iff.1 hva).1)
          refine sp F (p_iaddr rfl rfl Tryd.underlying28 Tryd.sz_9 (by omega) (by omega)) rfl rfl fun a F => sp F (p_load rfl Tryd.agg_9 (fun _ h => (ld1 ((O.loadRow 1 rfl (flat_get0 encStr_len he43 rfl))) h))) rfl rfl fun a F => sp F (p_cat rfl rfl (by first | omega | (simp; done) | (simp; omega))) rfl rfl fun a F => sp F (p_move rfl) rfl rfl fun a F => so F rfl (o_call (vs := #[.string (bs (e43 ++ ([47, 42]))), .string (bs (L10))]) F Tryd.en_19 rfl rfl ((iNameMatches_ok (e43 ++ ([47, 42])) L10 m0 w (by first | omega | (rw [List.length_append]; simp only [List.length_cons, List.length_nil]; omega) | assumption | (simp; done) | (simp; omega) | (exact hE _ (List.mem_of_getElem? (by assumption))) | (have := cut_small _ (List.mem_of_getElem? (by assumption)); omega)) (by first | omega | (rw [List.length_append]; simp only [List.length_cons, List.length_nil]; omega) | assumption | (simp; done) | (simp; omega) | (exact hE _ (List.mem_of_getElem? (by assumption))) | (have := cut_small _ (List.mem_of_getElem? (by assumption)); omega)) (Nat.lt_of_lt_of_le hl_0 O.size) (((O.old hl_0 (by simp)).trans hm_0_0))).mono ?_))
          rintro e w ⟨rfl, K⟩
          refine ⟨_, rfl, fun a F => ?_⟩
          have O : Own w0 [] [.row 9 1 (.slice P14 N14 C14) N14 ((partsL L10).flatMap encStr), .row 9 1 (.slice (some ⟨b28, 0, none⟩) N12 C12) N12 ((partsL L10).flatMap encStr)] w := O.call0 K
          clear K
          have c54 : matchB (e43 ++ ([47, 42])) L10 = true := by have h5 := hqa; rw [he43] at h5; injection h5 with h5; subst h5; exact one_a hv hc2 c48
          have F := F.setB (d := 54) rfl (decide_eq_true c54)
          have O : Own w0 [] [.row 9 1 (.slice P14 N14 C14) N14 ((partsL L10).flatMap encStr), .row 9 1 (.slice (some ⟨b28, 0, none⟩) N12 C12) N12 ((partsL L10).flatMap encStr)] w := O
          refine sp F (p_pick (t := false) rfl rfl) rfl rfl fun a F => sp F (p_pick (t := true) rfl rfl) rfl rfl fun a F => sp F (p_move rfl) rfl rfl fun a F => sp F (p_move rfl) rfl rfl fun a F => ?_
          have hl43 : (e43.length : Int) ≤ 12 := by first | assumption | (have h5 := hqa; rw [he43] at h5; injection h5 with h5; subst h5; exact (validB_iff.1 hva).1)
          refine sp F (p_iaddr rfl rfl Tryd.underlying28 Tryd.sz_9 (by omega) (by omega)) rfl rfl fun a F => sp F (p_load rfl Tryd.agg_9 (fun _ h => (ld1 ((O.loadRow 1 rfl (flat_get0 encStr_len he43 rfl))) h))) rfl rfl fun a F => sp F (p_move rfl) rfl rfl fun a F => so F rfl (o_call (vs := #[.string (bs (e43)), .string (bs (L10))]) F Tryd.en_19 rfl rfl ((iNameMatches_ok e43 L10 m0 w (by first | omega | (rw [List.length_append]; simp only [List.length_cons, List.length_nil]; omega) | assumption | (simp; done) | (simp; omega) | (exact hE _ (List.mem_of_getElem? (by assumption))) | (have := cut_small _ (List.mem_of_getElem? (by assumption)); omega)) (by first | omega | (rw [List.length_append]; simp only [List.length_cons, List.length_nil]; omega) | assumption | (simp; done) | (simp; omega) | (exact hE _ (List.mem_of_getElem? (by assumption))) | (have := cut_small _ (List.mem_of_getElem? (by assumption)); omega)) (Nat.lt_of_lt_of_le hl_0 O.size) (((O.old hl_0 (by simp)).trans hm_0_0))).mono ?_))
          rintro e w ⟨rfl, K⟩
          refine ⟨_, rfl, fun a F => ?_⟩
          have O : Own w0 [] [.row 9 1 (.slice P14 N14 C14) N14 ((partsL L10).flatMap encStr), .row 9 1 (.slice (some ⟨b28, 0, none⟩) N12 C12) N12 ((partsL L10).flatMap encStr)] w := O.call0 K
          clear K
          have c62 : ¬ (matchB e43 L10 = true) := by have h5 := hqa; rw [he43] at h5; injection h5 with h5; subst h5; exact one_no hv hc2 hva
          have F := F.setB (d := 62) rfl (decide_eq_false c62)
          have O : Own w0 [] [.row 9 1 (.slice P14 N14 C14) N14 ((partsL L10).flatMap encStr), .row 9 1 (.slice (some ⟨b28, 0, none⟩) N12 C12) N12 ((partsL L10).flatMap encStr)] w := O
          refine sp F (p_not rfl) rfl rfl fun a F => sp F (p_pick (t := true) rfl rfl) rfl rfl fun a F => sp F (p_assign rfl) rfl rfl fun a F => c_nil (hK9 _ _ (?_))
          try clear hK9 K9
          refine wp_ret (ret1 F rfl rfl (?_))
          have O : Own w0 [] [] w := (O.take 0)
          exact ⟨rfl, O⟩
      · have F := F.setB (d := 32) rfl (decide_eq_false c33)
        have F := F.setB (d := 33) rfl (decide_eq_false c33)
        refine sp F (p_move rfl) rfl rfl fun a F => ?_
        have hl28 : (e28.length : Int) ≤ 12 := by first | assumption | (have h5 := hqb; rw [he28] at h5; injection h5 with h5; subst h5; exact (validB_iff.1 hvb).1)
        refine sp F (p_iaddr rfl rfl Tryd.underlying28 Tryd.sz_9 (by omega) (by omega)) rfl rfl fun a F => sp F (p_load rfl Tryd.agg_9 (fun _ h => (ld1 ((O.loadRow 1 rfl (flat_get0 encStr_len he28 rfl))) h))) rfl rfl fun a F => sp F (p_cat rfl rfl (by first | omega | (simp; done) | (simp; omega))) rfl rfl fun a F => sp F (p_move rfl) rfl rfl fun a F => so F rfl (o_call (vs := #[.string (bs (([42, 47]) ++ e28)), .string (bs (L10))]) F Tryd.en_19 rfl rfl ((iNameMatches_ok (([42, 47]) ++ e28) L10 m0 w (by first | omega | (rw [List.length_append]; simp only [List.length_cons, List.length_nil]; omega) | assumption | (simp; done) | (simp; omega) | (exact hE _ (List.mem_of_getElem? (by assumption))) | (have := cut_small _ (List.mem_of_getElem? (by assumption)); omega)) (by first | omega | (rw [List.length_append]; simp only [List.length_cons, List.length_nil]; omega) | assumption | (simp; done) | (simp; omega) | (exact hE _ (List.mem_of_getElem? (by assumption))) | (have := cut_small _ (List.mem_of_getElem? (by assumption)); omega)) (Nat.lt_of_lt_of_le hl_0 O.size) (((O.old hl_0 (by simp)).trans hm_0_0))).mono ?_))
        rintro e w ⟨rfl, K⟩
        refine ⟨_, rfl, fun a F => ?_⟩
        have O : Own w0 [] [.row 9 1 (.slice P14 N14 C14) N14 ((partsL L10).flatMap encStr), .row 9 1 (.slice (some ⟨b28, 0, none⟩) N12 C12) N12 ((partsL L10).flatMap encStr)] w := O.call0 K
        clear K
        have c39 : matchB (([42, 47]) ++ e28) L10 = true := by have h5 := hqb; rw [he28] at h5; injection h5 with h5; subst h5; exact one_b hv hc2 hvb c33
        have F := F.setB (d := 39) rfl (decide_eq_true c39)
        have O : Own w0 [] [.row 9 1 (.slice P14 N14 C14) N14 ((partsL L10).flatMap encStr), .row 9 1 (.slice (some ⟨b28, 0, none⟩) N12 C12) N12 ((partsL L10).flatMap encStr)] w := O
        refine sp F (p_pick (t := false) rfl rfl) rfl rfl fun a F => sp F (p_move rfl) rfl rfl fun a F => sp F (p_move rfl) rfl rfl fun a F => ?_
        obtain ⟨e43, he43⟩ := get_some (l := partsL L10) (i := 0) (by omega) (by first | omega | (simp; omega))
        have hl43 : (e43.length : Int) ≤ 12 := by first | assumption | (have h5 := hqa; rw [he43] at h5; injection h5 with h5; subst h5; exact (validB_iff.1 hva).1)
        refine sp F (p_iaddr rfl rfl Tryd.underlying28 Tryd.sz_9 (by omega) (by omega)) rfl rfl fun a F => sp F (p_load rfl Tryd.agg_9 (fun _ h => (ld1 ((O.loadRow 1 rfl (flat_get0 encStr_len he43 rfl))) h))) rfl rfl fun a F => sp F (p_len_b rfl Tryd.underlying9) rfl rfl fun a F => sp F (p_add rfl rfl (by omega) (by omega)) rfl rfl fun a F => sp F (p_gtr rfl rfl) rfl rfl fun a F => sp F (p_move rfl) rfl rfl fun a F => ?_
        by_cases c48 : 12 < ((e43.length : Int) + 2)
        · have F := F.setB (d := 47) rfl (decide_eq_true c48)
          have F := F.setB (d := 48) rfl (decide_eq_true c48)
          refine ss F rfl rfl fun a F => ss F rfl rfl fun a F => ss F rfl rfl fun a F => ss F rfl rfl fun a F => ss F rfl rfl fun a F => ss F rfl rfl fun a F => sp F (p_pick (t := true) rfl rfl) rfl rfl fun a F => sp F (p_pick (t := true) rfl rfl) rfl rfl fun a F => sp F (p_move rfl) rfl rfl fun a F => sp F (p_move rfl) rfl rfl fun a F => ?_
          have hl43 : (e43.length : Int) ≤ 12 := by first | assumption | (have h5 := hqa; rw [he43] at h5; injection h5 with h5; subst h5; exact (validB_iff.1 hva).1)
          refine sp F (p_iaddr rfl rfl Tryd.underlying28 Tryd.sz_9 (by omega) (by omega)) rfl rfl fun a F => sp F (p_load rfl Tryd.agg_9 (fun _ h => (ld1 ((O.loadRow 1 rfl (flat_get0 encStr_len he43 rfl))) h))) rfl rfl fun a F => sp F (p_move rfl) rfl rfl fun a F => so F rfl (o_call (vs := #[.string (bs (e43)), .string (bs (L10))]) F Tryd.en_19 rfl rfl ((iNameMatches_ok e43 L10 m0 w (by first | omega | (rw [List.length_append]; simp only [List.length_cons, List.length_nil]; omega) | assumption | (simp; done) | (simp; omega) | (exact hE _ (List.mem_of_getElem? (by assumption))) | (have := cut_small _ (List.mem_of_getElem? (by assumption)); omega)) (by first | omega | (rw [List.length_append]; simp only [List.length_cons, List.length_nil]; omega) | assumption | (simp; done) | (simp; omega) | (exact hE _ (List.mem_of_getElem? (by assumption))) | (have := cut_small _ (List.mem_of_getElem? (by assumption)); omega)) (Nat.lt_of_lt_of_le hl_0 O.size) (((O.old hl_0 (by simp)).trans hm_0_0))).mono ?_))
          rintro e w ⟨rfl, K⟩
          refine ⟨_, rfl, fun a F => ?_⟩
          have O : Own w0 [] [.row 9 1 (.slice P14 N14 C14) N14 ((partsL L10).flatMap encStr), .row 9 1 (.slice (some ⟨b28, 0, none⟩) N12 C12) N12 ((partsL L10).flatMap encStr)] w := O.call0 K
          clear K
          have c62 : ¬ (matchB e43 L10 = true) := by have h5 := hqa; rw [he43] at h5; injection h5 with h5; subst h5; exact one_no hv hc2 hva
          have F := F.setB (d := 62) rfl (decide_eq_false c62)
          have O : Own w0 [] [.row 9 1 (.slice P14 N14 C14) N14 ((partsL L10).flatMap encStr), .row 9 1 (.slice (some ⟨b28, 0, none⟩) N12 C12) N12 ((partsL L10).flatMap encStr)] w := O
          refine sp F (p_not rfl) rfl rfl fun a F => sp F (p_pick (t := true) rfl rfl) rfl rfl fun a F => sp F (p_assign rfl) rfl rfl fun a F => c_nil (hK9 _ _ (?_))
          try clear hK9 K9
          refine wp_ret (ret1 F rfl rfl (?_))
          have O : Own w0 [] [] w := (O.take 0)
          exact ⟨rfl, O⟩
        · have F := F.setB (d := 47) rfl (decide_eq_false c48)
          have F := F.setB (d := 48) rfl (decide_eq_false c48)
          refine sp F (p_move rfl) rfl rfl fun a F => ?_
          have hl43 : (e43.length : Int) ≤ 12 := by first | assumption | (have h5 := hqa; rw [he43] at h5; injection h5 with h5; subst h5; exact (validB_iff.1 hva).1)
          refine sp F (p_iaddr rfl rfl Tryd.underlying28 Tryd.sz_9 (by omega) (by omega)) rfl rfl fun a F => sp F (p_load rfl Tryd.agg_9 (fun _ h => (ld1 ((O.loadRow 1 rfl (flat_get0 encStr_len he43 rfl))) h))) rfl rfl fun a F => sp F (p_cat rfl rfl (by first | omega | (simp; done) | (simp; omega))) rfl rfl fun a F => sp F (p_move rfl) rfl rfl fun a F => so F rfl (o_call (vs := #[.string (bs (e43 ++ ([47, 42]))), .string (bs (L10))]) F Tryd.en_19 rfl rfl ((iNameMatches_ok (e43 ++ ([47, 42])) L10 m0 w (by first | omega | (rw [List.length_append]; simp only [List.length_cons, List.length_nil]; omega) | assumption | (simp; done) | (simp; omega) | (exact hE _ (List.mem_of_getElem? (by assumption))) | (have := cut_small _ (List.mem_of_getElem? (by assumption)); omega)) (by first | omega | (rw [List.length_append]; simp only [List.length_cons, List.length_nil]; omega) | assumption | (simp; done) | (simp; omega) | (exact hE _ (List.mem_of_getElem? (by assumption))) | (have := cut_small _ (List.mem_of_getElem? (by assumption)); omega)) (Nat.lt_of_lt_of_le hl_0 O.size) (((O.old hl_0 (by simp)).trans hm_0_0))).mono ?_))
          rintro e w ⟨rfl, K⟩
          refine ⟨_, rfl, fun a F => ?_⟩
          have O : Own w0 [] [.row 9 1 (.slice P14 N14 C14) N14 ((partsL L10).flatMap encStr), .row 9 1 (.slice (some ⟨b28, 0, none⟩) N12 C12) N12 ((partsL L10).flatMap encStr)] w := O.call0 K
          clear K
          have c54 : matchB (e43 ++ ([47, 42])) L10 = true := by have h5 := hqa; rw [he43] at h5; injection h5 with h5; subst h5; exact one_a hv hc2 c48
          have F := F.setB (d := 54) rfl (decide_eq_true c54)
          have O : Own w0 [] [.row 9 1 (.slice P14 N14 C14) N14 ((partsL L10).flatMap encStr), .row 9 1 (.slice (some ⟨b28, 0, none⟩) N12 C12) N12 ((partsL L10).flatMap encStr)] w := O
          refine sp F (p_pick (t := false) rfl rfl) rfl rfl fun a F => sp F (p_pick (t := true) rfl rfl) rfl rfl fun a F => sp F (p_move rfl) rfl rfl fun a F => sp F (p_move rfl) rfl rfl fun a F => ?_
          have hl43 : (e43.length : Int) ≤ 12 := by first | assumption | (have h5 := hqa; rw [he43] at h5; injection h5 with h5; subst h5; exact (validB_iff.1 hva).1)
          refine sp F (p_iaddr rfl rfl Tryd.underlying28 Tryd.sz_9 (by omega) (by omega)) rfl rfl fun a F => sp F (p_load rfl Tryd.agg_9 (fun _ h => (ld1 ((O.loadRow 1 rfl (flat_get0 encStr_len he43 rfl))) h))) rfl rfl fun a F => sp F (p_move rfl) rfl rfl fun a F => so F rfl (o_call (vs := #[.string (bs (e43)), .string (bs (L10))]) F Tryd.en_19 rfl rfl ((iNameMatches_ok e43 L10 m0 w (by first | omega | (rw [List.length_append]; simp only [List.length_cons, List.length_nil]; omega) | assumption | (simp; done) | (simp; omega) | (exact hE _ (List.mem_of_getElem? (by assumption))) | (have := cut_small _ (List.mem_of_getElem? (by assumption)); omega)) (by first | omega | (rw [List.length_append]; simp only [List.length_cons, List.length_nil]; omega) | assumption | (simp; done) | (simp; omega) | (exact hE _ (List.mem_of_getElem? (by assumption))) | (have := cut_small _ (List.mem_of_getElem? (by assumption)); omega)) (Nat.lt_of_lt_of_le hl_0 O.size) (((O.old hl_0 (by simp)).trans hm_0_0))).mono ?_))
          rintro e w ⟨rfl, K⟩
          refine ⟨_, rfl, fun a F => ?_⟩
          have O : Own w0 [] [.row 9 1 (.slice P14 N14 C14) N14 ((partsL L10).flatMap encStr), .row 9 1 (.slice (some ⟨b28, 0, none⟩) N12 C12) N12 ((partsL L10).flatMap encStr)] w := O.call0 K
          clear K
          have c62 : ¬ (matchB e43 L10 = true) := by have h5 := hqa; rw [he43] at h5; injection h5 with h5; subst h5; exact one_no hv hc2 hva
          have F := F.setB (d := 62) rfl (decide_eq_false c62)
          have O : Own w0 [] [.row 9 1 (.slice P14 N14 C14) N14 ((partsL L10).flatMap encStr), .row 9 1 (.slice (some ⟨b28, 0, none⟩) N12 C12) N12 ((partsL L10).flatMap encStr)] w := O
          refine sp F (p_not rfl) rfl rfl fun a F => sp F (p_pick (t := true) rfl rfl) rfl rfl fun a F => sp F (p_assign rfl) rfl rfl fun a F => c_nil (hK9 _ _ (?_))
          try clear hK9 K9
          refine wp_ret (ret1 F rfl rfl (?_))
          have O : Own w0 [] [] w := (O.take 0)
          exact ⟨rfl, O⟩
    · have F := F.setB (d := 22) rfl (decide_eq_true c23)
      have F := F.setB (d := 23) rfl (decide_eq_true c23)
      refine c_ift F rfl (c_seq fun K9 hK9 => c_region (sp F (p_move rfl) rfl rfl fun a F => sp F (p_move rfl) rfl rfl fun a F => so F rfl (o_call (vs := #[.slice P12 N12 C12, .slice P14 N14 C14]) F Tryd.en_26 rfl rfl ((sameTexts_ok P12 N12 C12 (partsL L10) P14 N14 C14 (partsL L10) w (O.arr 1 (es := partsL L10) rfl encStr_len (by decide)) (by first | omega | (simp; done) | (simp; omega) | (simp at *; omega)) (by omega) (O.arr 0 (es := partsL L10) rfl encStr_len (by decide)) (by first | omega | (simp; done) | (simp; omega) | (simp at *; omega)) (by omega)).mono ?_))))
      rintro e w ⟨rfl, K⟩
      refine ⟨_, rfl, fun a F => ?_⟩
      have O : Own w0 [] [.row 9 1 (.slice P14 N14 C14) N14 ((partsL L10).flatMap encStr), .row 9 1 (.slice P12 N12 C12) N12 ((partsL L10).flatMap encStr)] w := O.call0 K
      clear K
      have F := F.setB (d := 26) rfl (decide_eq_true c17)
      have O : Own w0 [] [.row 9 1 (.slice P14 N14 C14) N14 ((partsL L10).flatMap encStr), .row 9 1 (.slice P12 N12 C12) N12 ((partsL L10).flatMap encStr)] w := O
      refine sp F (p_assign rfl) rfl rfl fun a F => c_nil (hK9 _ _ (?_))
      try clear hK9 K9
      refine wp_ret (r_then (ret1 F rfl rfl (?_)))
      have O : Own w0 [] [] w := (O.take 0)
      exact ⟨rfl, O⟩

set_option maxRecDepth 100000 in
theorem matchOne_lifted (os : Os) (started : os.Started) (H : Type) (enc : TypeId × Value → H) :
    ReturnsInHanded {} Tryd.checked os 17 .any (fun w args => (Rows.fnMatchOneSpec.pre enc Tryd.prog Tryd.f17 [] false w args ∧ laidMet Tryd.prog laidList w) ∧ sizedMet enc Tryd.prog Tryd.f17 (OpenSpec.ofChange Rows.fnMatchOneSpec) false w args)
      (Rows.fnMatchOneSpec.post enc Tryd.prog Tryd.f17 false true false false) := by
  refine lifted_laid started (by kernel_rfl) Tryd.func17 rfl ?_ (by kernel_rfl) (by kernel_rfl)
    (ChangeSpec.witness_at (enc := enc) (C := Tryd.checked) (os := os) (X := fun w _ => laidMet Tryd.prog laidList w) false (laidWorld os) #[.slice none 0 0] 8 rfl (laid_vars os _) (laid_rest os _) (by kernel_rfl) (by kernel_rfl) (by kernel_rfl) (laidWorld_met os _)) ?_
  · intro ds hds
    match ds, hds with
    | [_], _ => rfl
  intro W base args ds p m0 hval0 hA0 hm hl
  have hval : ∀ (j : Nat) t v, Tryd.f17.params[j]? = some t → args[j]? = some v → Value.okWide Tryd.prog W .any base t v := hval0
  have hA : DataW.TrodAll enc Tryd.prog W 0 (fun _ => true) true Tryd.f17.params.toList args.toList ds p := hA0
  clear hA0 hval0
  show Calls Tryd.prog 17 args W _
  rw [Tryd.params17] at hA hval
  obtain ⟨v0, d0, hargs, rfl, h0⟩ := trodAll_one hA
  obtain rfl : args = #[v0] := by cases args; simp_all
  obtain ⟨a, n, c, rfl, hC⟩ := open_codeIn (hval 0 22 v0 rfl rfl) h0
  exact (matchOne_ok a n c m0 W hC hl hm).mono fun e w' h => ⟨h.1, h.2.below⟩

theorem matchOne_pkg : ¬ Check.packageOf Tryd.f17.name = "main" := by
  intro h
  have h2 := congrArg String.toList h
  simp only [Check.packageOf, Tryd.f17] at h2
  simp at h2
theorem matchOne_closed : lawFacts Tryd.prog 17 Tryd.f17 Rows.fnMatchOneSpec Rows.fnMatchOneRow = true := by kernel_rfl
theorem matchOne_facts : joinedFacts Tryd.pinned.checked.prog 17 Tryd.f17 Rows.fnMatchOneSpec Rows.fnMatchOneRow = true := facts_of (P := Tryd.prog) Tryd.facts matchOne_closed
theorem matchOne_wrap : Func.isWrapper Tryd.pinned.checked.prog Tryd.f17 Rows.fnMatchOneRow.wrapper Rows.fnMatchOneRow.mainSum := by
  have e1 : Rows.fnMatchOneRow.wrapper = false := rfl
  have e2 : Rows.fnMatchOneRow.mainSum = "" := rfl
  rw [e1, e2]
  exact wrapper_of Tryd.pinned.checked.prog Tryd.f17 matchOne_pkg

/-- The row's statement. -/
theorem matchOne_row : Rows.FnMatchOneSaid :=
  OpenClaim.holds_of_wide 17 Tryd.f17 rfl rfl rfl rfl rfl rfl rfl ⟨rfl, rfl, rfl, rfl, rfl⟩ rfl rfl rfl rfl rfl (by kernel_rfl) Tryd.func17 matchOne_facts
    (of_decide_eq_true (by kernel_rfl)) matchOne_wrap
    (fun os started H enc _ => matchOne_lifted os started H enc)

/-- The card. -/
theorem matchOne_card : Rows.FnMatchOneCardSaid :=
  Claim7.holds_tied_plain_at .later [] [.data, .pinned] true (true, "5d7b27699adf6aa4303d3de668a7c3150c04e5a87965bab53939a9c73c259877") false
    matchOne_row (fun _ h => by cases h) (by kernel_rfl) (fun _ h => by cases h) fnMatchOne_row_tie rfl ⟨rfl, rfl⟩ (by kernel_rfl) rfl
    (fun f fn hf hfn => by
      obtain rfl : f = 17 := Option.some.inj ((show Tryd.prog.funcNamed "loop.example/atomicpush/laws.FnMatchOne" = some 17 by kernel_rfl).symm.trans hf) |>.symm
      obtain rfl : fn = Tryd.f17 := (Option.some.inj (Tryd.func17.symm.trans hfn)).symm
      exact ⟨by kernel_rfl, fun j t ht => by
        rw [Tryd.params17] at ht
        rcases j with _ | _ | _ | j <;> simp at ht <;> subst ht <;> kernel_rfl⟩)
    (by kernel_rfl)
#print axioms matchOne_card
end Go.Proofs.YtjmnnogpinggmaaDoor
