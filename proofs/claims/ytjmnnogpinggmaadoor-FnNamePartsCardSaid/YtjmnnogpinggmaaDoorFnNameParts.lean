/- A name is made of its parts: the law FnNameParts returns true: the row, and its card. No conditions. -/
import Derived.Test.YtjmnnogpinggmaaDoorNamL
import Derived.Test.YtjmnnogpinggmaaDoorDoorN
import Derived.Test.YtjmnnogpinggmaaDoorCards
import Derived.Test.YtjmnnogpinggmaaDoorTie
import Derived.SevenTiedAt
namespace Go.Proofs.YtjmnnogpinggmaaDoor
open Go.ChangeShapes Go.WideShapes Go.ChangeAt Go.RowKit
set_option linter.unusedVariables false
set_option linter.unusedSimpArgs false

set_option maxRecDepth 100000 in
/-- laws.FnNameParts -/
theorem nameParts_ok (A : Option Addr) (cn : Nat) (cc : Nat) (m0 : Int) (w0 : World) (hC : CodeIn w0 A cn cc) (hl_0 : 0 < w0.heap.size) (hm_0_0 : w0.cell? ⟨0, 0, none⟩ = some (.int .i64 (m0))) :
    Calls Tryd.prog 13 #[.slice A cn cc] w0 fun e w => e = .returned (.bool true) ∧ Own w0 [] [] w := by
  have O := Own.start w0
  have hcc : (cn : Int) ≤ cc := by have := hC.1; omega
  have hcm : (cc : Int) ≤ 9223372036854775807 := by have := hC.2.1; unfold maxLen at this; omega
  refine enterO (n := 61) Tryd.func13 rfl rfl rfl O fun a w F O => ?_
  refine c_seq fun K1 hK1 => c_region (sp F (p_assign rfl) rfl rfl fun a F => c_nil (hK1 _ _ (?_)))
  try clear hK1 K1
  refine c_seq fun K2 hK2 => c_seq fun K3 hK3 => c_region (sp F (p_move rfl) rfl rfl fun a F => sp F (p_len_l rfl Tryd.underlying22) rfl rfl fun a F => sp F (p_gtr rfl rfl) rfl rfl fun a F => c_nil (hK3 _ _ (?_)))
  try clear hK3 K3
  by_cases c11 : 1048576 < (cn : Int)
  · have F := F.setB (d := 11) rfl (decide_eq_true c11)
    refine c_ift F rfl (c_seq fun K4 hK4 => c_region (sp F (p_assign rfl) rfl rfl fun a F => c_nil (hK4 _ _ (?_))))
    try clear hK4 K4
    refine wp_ret (r_then (ret1 F rfl rfl (?_)))
    exact ⟨rfl, O⟩
  · have F := F.setB (d := 11) rfl (decide_eq_false c11)
    refine c_iff F rfl (wp_skip (hK2 _ _ (?_)))
    try clear hK2 K2
    refine c_seq fun K4 hK4 => c_region (sp F (p_move rfl) rfl rfl fun a F => so F rfl (o_call (vs := #[.slice A cn cc]) F Tryd.en_33 rfl rfl ((dNameParts_ok A cn cc w (hC.keep O)).mono ?_)))
    rintro e w ⟨L13, rfl, h13a, K⟩
    refine ⟨_, rfl, fun a F => ?_⟩
    have O : Own w0 [] [] w := O.call0 K
    clear K
    have O : Own w0 [] [] w := O
    refine sp F (p_assign rfl) rfl rfl fun a F => c_nil (hK4 _ _ (?_))
    try clear hK4 K4
    refine c_seq fun K5 hK5 => c_region (sp F (p_move rfl) rfl rfl fun a F => so F rfl (o_call (vs := #[.string (bs (L13))]) F Tryd.en_22 rfl rfl ((iNameParts_ok L13 m0 w (by first | omega | (rw [List.length_append]; simp only [List.length_cons, List.length_nil]; omega) | assumption | (simp; done) | (simp; omega) | (exact hE _ (List.mem_of_getElem? (by assumption))) | (have := cut_small _ (List.mem_of_getElem? (by assumption)); omega)) (Nat.lt_of_lt_of_le hl_0 O.size) (((O.old hl_0 (by simp)).trans hm_0_0))).mono ?_)))
    rintro e w ⟨P15, N15, C15, rfl, h15a, h15b, K⟩
    refine ⟨_, rfl, fun a F => ?_⟩
    have O : Own w0 [] [.row 9 1 (.slice P15 N15 C15) N15 ((partsL L13).flatMap encStr)] w := O.call0 K
    clear K
    have O : Own w0 [] [.row 9 1 (.slice P15 N15 C15) N15 ((partsL L13).flatMap encStr)] w := O
    refine sp F (p_assign rfl) rfl rfl fun a F => c_nil (hK5 _ _ (?_))
    try clear hK5 K5
    refine c_seq fun K6 hK6 => c_region (sp F (p_move rfl) rfl rfl fun a F => so F rfl (o_call (vs := #[.string (bs (L13))]) F Tryd.en_29 rfl rfl ((sNameParts_ok L13 w (by first | omega | (rw [List.length_append]; simp only [List.length_cons, List.length_nil]; omega) | assumption | (simp; done) | (simp; omega) | (exact hE _ (List.mem_of_getElem? (by assumption))) | (have := cut_small _ (List.mem_of_getElem? (by assumption)); omega))).mono ?_)))
    rintro e w ⟨P17, N17, C17, rfl, h17a, h17b, K⟩
    refine ⟨_, rfl, fun a F => ?_⟩
    have O : Own w0 [] [.row 9 1 (.slice P17 N17 C17) N17 ((partsL L13).flatMap encStr), .row 9 1 (.slice P15 N15 C15) N15 ((partsL L13).flatMap encStr)] w := O.call0 K
    clear K
    have O : Own w0 [] [.row 9 1 (.slice P17 N17 C17) N17 ((partsL L13).flatMap encStr), .row 9 1 (.slice P15 N15 C15) N15 ((partsL L13).flatMap encStr)] w := O
    refine sp F (p_assign rfl) rfl rfl fun a F => c_nil (hK6 _ _ (?_))
    try clear hK6 K6
    refine c_seq fun K7 hK7 => c_seq fun K8 hK8 => c_region (sp F (p_move rfl) rfl rfl fun a F => sp F (p_move rfl) rfl rfl fun a F => so F rfl (o_call (vs := #[.slice P15 N15 C15, .slice P17 N17 C17]) F Tryd.en_26 rfl rfl ((sameTexts_ok P15 N15 C15 (partsL L13) P17 N17 C17 (partsL L13) w (O.arr 1 (es := partsL L13) rfl encStr_len (by decide)) (by first | omega | (simp; done) | (simp; omega) | (simp at *; omega)) (by omega) (O.arr 0 (es := partsL L13) rfl encStr_len (by decide)) (by first | omega | (simp; done) | (simp; omega) | (simp at *; omega)) (by omega)).mono ?_)))
    rintro e w ⟨rfl, K⟩
    refine ⟨_, rfl, fun a F => ?_⟩
    have O : Own w0 [] [.row 9 1 (.slice P17 N17 C17) N17 ((partsL L13).flatMap encStr), .row 9 1 (.slice P15 N15 C15) N15 ((partsL L13).flatMap encStr)] w := O.call0 K
    clear K
    have c20 : (partsL L13) = (partsL L13) := by rfl
    have F := F.setB (d := 20) rfl (decide_eq_true c20)
    have O : Own w0 [] [.row 9 1 (.slice P17 N17 C17) N17 ((partsL L13).flatMap encStr), .row 9 1 (.slice P15 N15 C15) N15 ((partsL L13).flatMap encStr)] w := O
    refine sp F (p_not rfl) rfl rfl fun a F => sp F (p_move rfl) rfl rfl fun a F => sp F (p_move rfl) rfl rfl fun a F => sp F (p_len_l rfl Tryd.underlying28) rfl rfl fun a F => sp F (p_eql rfl rfl) rfl rfl fun a F => sp F (p_pick (t := false) rfl rfl) rfl rfl fun a F => c_nil (hK8 _ _ (?_))
    try clear hK8 K8
    by_cases c26 : (N15 : Int) = 0
    · have F := F.setB (d := 25) rfl (decide_eq_true c26)
      have F := F.setB (d := 26) rfl (decide_eq_true c26)
      refine c_ift F rfl (c_seq fun K9 hK9 => c_region (sp F (p_move rfl) rfl rfl fun a F => sp F (p_move rfl) rfl rfl fun a F => so F rfl (o_call (vs := #[.slice P15 N15 C15, .slice P17 N17 C17]) F Tryd.en_26 rfl rfl ((sameTexts_ok P15 N15 C15 (partsL L13) P17 N17 C17 (partsL L13) w (O.arr 1 (es := partsL L13) rfl encStr_len (by decide)) (by first | omega | (simp; done) | (simp; omega) | (simp at *; omega)) (by omega) (O.arr 0 (es := partsL L13) rfl encStr_len (by decide)) (by first | omega | (simp; done) | (simp; omega) | (simp at *; omega)) (by omega)).mono ?_))))
      rintro e w ⟨rfl, K⟩
      refine ⟨_, rfl, fun a F => ?_⟩
      have O : Own w0 [] [.row 9 1 (.slice P17 N17 C17) N17 ((partsL L13).flatMap encStr), .row 9 1 (.slice P15 N15 C15) N15 ((partsL L13).flatMap encStr)] w := O.call0 K
      clear K
      have F := F.setB (d := 29) rfl (decide_eq_true c20)
      have O : Own w0 [] [.row 9 1 (.slice P17 N17 C17) N17 ((partsL L13).flatMap encStr), .row 9 1 (.slice P15 N15 C15) N15 ((partsL L13).flatMap encStr)] w := O
      refine sp F (p_assign rfl) rfl rfl fun a F => c_nil (hK9 _ _ (?_))
      try clear hK9 K9
      refine wp_ret (r_then (ret1 F rfl rfl (?_)))
      have O : Own w0 [] [] w := (O.take 0)
      exact ⟨rfl, O⟩
    · have F := F.setB (d := 25) rfl (decide_eq_false c26)
      have F := F.setB (d := 26) rfl (decide_eq_false c26)
      refine c_iff F rfl (wp_skip (hK7 _ _ (?_)))
      try clear hK7 K7
      refine c_seq fun K9 hK9 => c_region (sp F (p_move rfl) rfl rfl fun a F => ?_)
      obtain ⟨b31, hp31⟩ := O.rowSome 1 rfl (by omega)
      rw [hp31] at O
      try rw [hp31] at F
      obtain ⟨e31, he31⟩ := get_some (l := partsL L13) (i := 0) (by omega) (by first | omega | (simp; omega))
      have hv31 := part_valid (parts_val (s := L13) (by omega)) (by rw [← parts_ok (parts_val (s := L13) (by omega))]; exact he31)
      have hl31 := (validB_iff.1 hv31).1
      refine sp F (p_iaddr rfl rfl Tryd.underlying28 Tryd.sz_9 (by omega) (by omega)) rfl rfl fun a F => sp F (p_load rfl Tryd.agg_9 (fun _ h => (ld1 ((O.loadRow 1 rfl (flat_get0 encStr_len he31 rfl))) h))) rfl rfl fun a F => sp F (p_assign rfl) rfl rfl fun a F => c_nil (hK9 _ _ (?_))
      try clear hK9 K9
      refine c_seq fun K10 hK10 => c_seq fun K11 hK11 => c_region (sp F (p_assign rfl) rfl rfl fun a F => c_nil (hK11 _ _ (?_)))
      try clear hK11 K11
      refine wp_block (?_)
      refine c_loop (fun mm a w => ∃ (r : Int), ∃ (o : List UInt8), mm = ((N15 : Int) - r).toNat ∧ Has 61 [(0, .slice A cn cc), (2, .bool false), (11, .bool false), (3, .string (bs (L13))), (4, .slice (some ⟨b31, 0, none⟩) N15 C15), (5, .slice P17 N17 C17), (26, .bool false), (7, .int .i64 (r)), (6, .string (bs (o)))] a ∧ Own w0 [] [.row 9 1 (.slice P17 N17 C17) N17 ((partsL L13).flatMap encStr), .row 9 1 (.slice (some ⟨b31, 0, none⟩) N15 C15) N15 ((partsL L13).flatMap encStr)] w ∧ (1 ≤ r) ∧ (r ≤ N15) ∧ (o = joinL ((partsL L13).take (r : Int).toNat)) ∧ ((o.length : Int) ≤ 61 * r)) ?_ ?_
      · have F : Has 61 [(0, .slice A cn cc), (2, .bool false), (11, .bool false), (3, .string (bs (L13))), (4, .slice (some ⟨b31, 0, none⟩) N15 C15), (5, .slice P17 N17 C17), (26, .bool false), (7, .int .i64 (1)), (6, .string (bs (e31)))] a := F.pick ⟨rfl, rfl, rfl, rfl, rfl, rfl, rfl, rfl, rfl, trivial⟩
        exact ⟨((N15 : Int) - 1).toNat, 1, e31, rfl, F, O, by first | assumption | omega, by first | assumption | omega, by exact (join_one he31).symm, by first | omega | (simp; omega)⟩
      · rintro mm a w ⟨r, o, rfl, F, O, hi0a, hi0b, hi0c, hi0d⟩
        refine c_seq fun K12 hK12 => c_seq fun K13 hK13 => c_region (sp F (p_move rfl) rfl rfl fun a F => sp F (p_move rfl) rfl rfl fun a F => sp F (p_len_l rfl Tryd.underlying28) rfl rfl fun a F => sp F (p_lss rfl rfl) rfl rfl fun a F => c_nil (hK13 _ _ (?_)))
        try clear hK13 K13
        by_cases c36 : r < (N15 : Int)
        · have F := F.setB (d := 36) rfl (decide_eq_true c36)
          refine c_ift F rfl (wp_skip (hK12 _ _ (?_)))
          try clear hK12 K12
          refine c_seq fun K14 hK14 => wp_block (c_region (sp F (p_move rfl) rfl rfl fun a F => sp F (p_cat rfl rfl (by first | omega | (simp; omega))) rfl rfl fun a F => sp F (p_move rfl) rfl rfl fun a F => sp F (p_move rfl) rfl rfl fun a F => ?_))
          obtain ⟨e43, he43⟩ := get_some (l := partsL L13) (i := r) (by omega) (by first | omega | (simp; omega))
          have hv43 := part_valid (parts_val (s := L13) (by omega)) (by rw [← parts_ok (parts_val (s := L13) (by omega))]; exact he43)
          have hl43 := (validB_iff.1 hv43).1
          refine sp F (p_iaddr rfl rfl Tryd.underlying28 Tryd.sz_9 (by omega) (by omega)) rfl rfl fun a F => sp F (p_load rfl Tryd.agg_9 (fun _ h => (ld1 ((O.loadRow 1 rfl (flat_get0 encStr_len he43 rfl))) h))) rfl rfl fun a F => sp F (p_cat rfl rfl (by first | omega | (simp; omega))) rfl rfl fun a F => sp F (p_assign rfl) rfl rfl fun a F => c_nil (hK14 _ _ (?_))
          try clear hK14 K14
          refine c_region (sp F (p_move rfl) rfl rfl fun a F => sp F (p_add rfl rfl (by omega) (by omega)) rfl rfl fun a F => sp F (p_assign rfl) rfl rfl fun a F => c_nil (?_))
          have F : Has 61 [(0, .slice A cn cc), (2, .bool false), (11, .bool false), (3, .string (bs (L13))), (4, .slice (some ⟨b31, 0, none⟩) N15 C15), (5, .slice P17 N17 C17), (26, .bool false), (7, .int .i64 (r + 1)), (6, .string (bs ((o ++ ([47])) ++ e43)))] a := F.pick ⟨rfl, rfl, rfl, rfl, rfl, rfl, rfl, rfl, rfl, trivial⟩
          exact ⟨((N15 : Int) - (r + 1)).toNat, by omega, (r + 1), ((o ++ ([47])) ++ e43), rfl, F, O, by first | assumption | omega, by first | assumption | omega, by rw [join_step hi0a he43, ← hi0c], by first | omega | (simp; omega)⟩
        · have F := F.setB (d := 36) rfl (decide_eq_false c36)
          refine c_iff F rfl (wp_exit (e_then (e_then (e_here (hK10 _ _ (?_))))))
          try clear hK10 K10
          refine c_seq fun K14 hK14 => c_seq fun K15 hK15 => c_region (sp F (p_assign rfl) rfl rfl fun a F => c_nil (hK15 _ _ (?_)))
          try clear hK15 K15
          refine wp_block (?_)
          refine c_loop (fun mm a w => ∃ (k : Int), mm = ((N15 : Int) - k).toNat ∧ Has 61 [(0, .slice A cn cc), (11, .bool false), (3, .string (bs (L13))), (4, .slice (some ⟨b31, 0, none⟩) N15 C15), (5, .slice P17 N17 C17), (26, .bool false), (7, .int .i64 (r)), (6, .string (bs (o))), (36, .bool false), (8, .int .i64 (k))] a ∧ Own w0 [] [.row 9 1 (.slice P17 N17 C17) N17 ((partsL L13).flatMap encStr), .row 9 1 (.slice (some ⟨b31, 0, none⟩) N15 C15) N15 ((partsL L13).flatMap encStr)] w ∧ (0 ≤ k) ∧ (k ≤ N15)) ?_ ?_
          · have F : Has 61 [(0, .slice A cn cc), (11, .bool false), (3, .string (bs (L13))), (4, .slice (some ⟨b31, 0, none⟩) N15 C15), (5, .slice P17 N17 C17), (26, .bool false), (7, .int .i64 (r)), (6, .string (bs (o))), (36, .bool false), (8, .int .i64 (0))] a := F.pick ⟨rfl, rfl, rfl, rfl, rfl, rfl, rfl, rfl, rfl, rfl, trivial⟩
            exact ⟨((N15 : Int) - 0).toNat, 0, rfl, F, O, by first | assumption | omega, by first | assumption | omega⟩
          · rintro mm a w ⟨k, rfl, F, O, hi2a, hi2b⟩
            refine c_seq fun K16 hK16 => c_seq fun K17 hK17 => c_region (sp F (p_move rfl) rfl rfl fun a F => sp F (p_move rfl) rfl rfl fun a F => sp F (p_len_l rfl Tryd.underlying28) rfl rfl fun a F => sp F (p_lss rfl rfl) rfl rfl fun a F => c_nil (hK17 _ _ (?_)))
            try clear hK17 K17
            by_cases c49 : k < (N15 : Int)
            · have F := F.setB (d := 49) rfl (decide_eq_true c49)
              refine c_ift F rfl (wp_skip (hK16 _ _ (?_)))
              try clear hK16 K16
              refine c_seq fun K18 hK18 => wp_block (c_seq fun K19 hK19 => c_region (sp F (p_move rfl) rfl rfl fun a F => sp F (p_move rfl) rfl rfl fun a F => ?_))
              obtain ⟨e54, he54⟩ := get_some (l := partsL L13) (i := k) (by omega) (by first | omega | (simp; omega))
              have hv54 := part_valid (parts_val (s := L13) (by omega)) (by rw [← parts_ok (parts_val (s := L13) (by omega))]; exact he54)
              have hl54 := (validB_iff.1 hv54).1
              refine sp F (p_iaddr rfl rfl Tryd.underlying28 Tryd.sz_9 (by omega) (by omega)) rfl rfl fun a F => sp F (p_load rfl Tryd.agg_9 (fun _ h => (ld1 ((O.loadRow 1 rfl (flat_get0 encStr_len he54 rfl))) h))) rfl rfl fun a F => so F rfl (o_call (vs := #[.string (bs (e54))]) F Tryd.en_21 rfl rfl ((iNameValid_ok e54 m0 w (by first | omega | (rw [List.length_append]; simp only [List.length_cons, List.length_nil]; omega) | assumption | (simp; done) | (simp; omega) | (exact hE _ (List.mem_of_getElem? (by assumption))) | (have := cut_small _ (List.mem_of_getElem? (by assumption)); omega)) (Nat.lt_of_lt_of_le hl_0 O.size) (((O.old hl_0 (by simp)).trans hm_0_0))).mono ?_))
              rintro e w ⟨rfl, K⟩
              refine ⟨_, rfl, fun a F => ?_⟩
              have O : Own w0 [] [.row 9 1 (.slice P17 N17 C17) N17 ((partsL L13).flatMap encStr), .row 9 1 (.slice (some ⟨b31, 0, none⟩) N15 C15) N15 ((partsL L13).flatMap encStr)] w := O.call0 K
              clear K
              have c56 : validB e54 = true := by exact hv54
              have F := F.setB (d := 56) rfl (decide_eq_true c56)
              have O : Own w0 [] [.row 9 1 (.slice P17 N17 C17) N17 ((partsL L13).flatMap encStr), .row 9 1 (.slice (some ⟨b31, 0, none⟩) N15 C15) N15 ((partsL L13).flatMap encStr)] w := O
              refine sp F (p_not rfl) rfl rfl fun a F => c_nil (hK19 _ _ (?_))
              try clear hK19 K19
              refine c_iff F rfl (wp_skip (hK18 _ _ (?_)))
              try clear hK18 K18
              refine c_region (sp F (p_move rfl) rfl rfl fun a F => sp F (p_add rfl rfl (by omega) (by omega)) rfl rfl fun a F => sp F (p_assign rfl) rfl rfl fun a F => c_nil (?_))
              have F : Has 61 [(0, .slice A cn cc), (11, .bool false), (3, .string (bs (L13))), (4, .slice (some ⟨b31, 0, none⟩) N15 C15), (5, .slice P17 N17 C17), (26, .bool false), (7, .int .i64 (r)), (6, .string (bs (o))), (36, .bool false), (8, .int .i64 (k + 1))] a := F.pick ⟨rfl, rfl, rfl, rfl, rfl, rfl, rfl, rfl, rfl, rfl, trivial⟩
              exact ⟨((N15 : Int) - (k + 1)).toNat, by omega, (k + 1), rfl, F, O, by first | assumption | omega, by first | assumption | omega⟩
            · have F := F.setB (d := 49) rfl (decide_eq_false c49)
              refine c_iff F rfl (wp_exit (e_then (e_then (e_here (hK14 _ _ (?_))))))
              try clear hK14 K14
              refine c_seq fun K18 hK18 => c_region (sp F (p_move rfl) rfl rfl fun a F => sp F (p_move rfl) rfl rfl fun a F => sp F (p_seq rfl rfl) rfl rfl fun a F => ?_)
              have c60 : o = L13 := by rw [hi0c, take_all (by omega), parts_ok (parts_val (by omega)), join_cut]
              have F := F.setB (d := 60) rfl (decide_eq_true c60)
              refine sp F (p_assign rfl) rfl rfl fun a F => c_nil (hK18 _ _ (?_))
              try clear hK18 K18
              refine wp_ret (ret1 F rfl rfl (?_))
              have O : Own w0 [] [] w := (O.take 0)
              exact ⟨rfl, O⟩

set_option maxRecDepth 100000 in
theorem nameParts_lifted (os : Os) (started : os.Started) (H : Type) (enc : TypeId × Value → H) :
    ReturnsInHanded {} Tryd.checked os 13 .any (fun w args => (Rows.fnNamePartsSpec.pre enc Tryd.prog Tryd.f13 [] false w args ∧ laidMet Tryd.prog laidList w) ∧ sizedMet enc Tryd.prog Tryd.f13 (OpenSpec.ofChange Rows.fnNamePartsSpec) false w args)
      (Rows.fnNamePartsSpec.post enc Tryd.prog Tryd.f13 false true false false) := by
  refine lifted_laid started (by kernel_rfl) Tryd.func13 rfl ?_ (by kernel_rfl) (by kernel_rfl)
    (ChangeSpec.witness_at (enc := enc) (C := Tryd.checked) (os := os) (X := fun w _ => laidMet Tryd.prog laidList w) false (laidWorld os) #[.slice none 0 0] 8 rfl (laid_vars os _) (laid_rest os _) (by kernel_rfl) (by kernel_rfl) (by kernel_rfl) (laidWorld_met os _)) ?_
  · intro ds hds
    match ds, hds with
    | [_], _ => rfl
  intro W base args ds p m0 hval0 hA0 hm hl
  have hval : ∀ (j : Nat) t v, Tryd.f13.params[j]? = some t → args[j]? = some v → Value.okWide Tryd.prog W .any base t v := hval0
  have hA : DataW.TrodAll enc Tryd.prog W 0 (fun _ => true) true Tryd.f13.params.toList args.toList ds p := hA0
  clear hA0 hval0
  show Calls Tryd.prog 13 args W _
  rw [Tryd.params13] at hA hval
  obtain ⟨v0, d0, hargs, rfl, h0⟩ := trodAll_one hA
  obtain rfl : args = #[v0] := by cases args; simp_all
  obtain ⟨a, n, c, rfl, hC⟩ := open_codeIn (hval 0 22 v0 rfl rfl) h0
  exact (nameParts_ok a n c m0 W hC hl hm).mono fun e w' h => ⟨h.1, h.2.below⟩

theorem nameParts_pkg : ¬ Check.packageOf Tryd.f13.name = "main" := by
  intro h
  have h2 := congrArg String.toList h
  simp only [Check.packageOf, Tryd.f13] at h2
  simp at h2
theorem nameParts_closed : lawFacts Tryd.prog 13 Tryd.f13 Rows.fnNamePartsSpec Rows.fnNamePartsRow = true := by kernel_rfl
theorem nameParts_facts : joinedFacts Tryd.pinned.checked.prog 13 Tryd.f13 Rows.fnNamePartsSpec Rows.fnNamePartsRow = true := facts_of (P := Tryd.prog) Tryd.facts nameParts_closed
theorem nameParts_wrap : Func.isWrapper Tryd.pinned.checked.prog Tryd.f13 Rows.fnNamePartsRow.wrapper Rows.fnNamePartsRow.mainSum := by
  have e1 : Rows.fnNamePartsRow.wrapper = false := rfl
  have e2 : Rows.fnNamePartsRow.mainSum = "" := rfl
  rw [e1, e2]
  exact wrapper_of Tryd.pinned.checked.prog Tryd.f13 nameParts_pkg

/-- The row's statement. -/
theorem nameParts_row : Rows.FnNamePartsSaid :=
  OpenClaim.holds_of_wide 13 Tryd.f13 rfl rfl rfl rfl rfl rfl rfl ⟨rfl, rfl, rfl, rfl, rfl⟩ rfl rfl rfl rfl rfl (by kernel_rfl) Tryd.func13 nameParts_facts
    (of_decide_eq_true (by kernel_rfl)) nameParts_wrap
    (fun os started H enc _ => nameParts_lifted os started H enc)

/-- The card. -/
theorem nameParts_card : Rows.FnNamePartsCardSaid :=
  Claim7.holds_tied_plain_at .later [] [.data, .pinned] true (true, "5d7b27699adf6aa4303d3de668a7c3150c04e5a87965bab53939a9c73c259877") false
    nameParts_row (fun _ h => by cases h) (by kernel_rfl) (fun _ h => by cases h) fnNameParts_row_tie rfl ⟨rfl, rfl⟩ (by kernel_rfl) rfl
    (fun f fn hf hfn => by
      obtain rfl : f = 13 := Option.some.inj ((show Tryd.prog.funcNamed "loop.example/atomicpush/laws.FnNameParts" = some 13 by kernel_rfl).symm.trans hf) |>.symm
      obtain rfl : fn = Tryd.f13 := (Option.some.inj (Tryd.func13.symm.trans hfn)).symm
      exact ⟨by kernel_rfl, fun j t ht => by
        rw [Tryd.params13] at ht
        rcases j with _ | _ | _ | j <;> simp at ht <;> subst ht <;> kernel_rfl⟩)
    (by kernel_rfl)
#print axioms nameParts_card
end Go.Proofs.YtjmnnogpinggmaaDoor
