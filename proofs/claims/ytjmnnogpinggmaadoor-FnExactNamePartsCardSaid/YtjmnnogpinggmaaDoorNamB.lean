/- Contracts of the functions on names: which are valid, their parts, which clash. No conditions but those on lengths, and that the library's one variable holds a number. -/
import Derived.Test.YtjmnnogpinggmaaDoorNamA
namespace Go.Proofs.YtjmnnogpinggmaaDoor
open Go.ChangeShapes Go.WideShapes Go.ChangeAt Go.RowKit
set_option linter.unusedVariables false
set_option linter.unusedSimpArgs false


section
variable {a b : List UInt8}
theorem clash_gt (h1 : validB a = true) (h2 : validB b = true) (h : (b.length : Int) < a.length) : clashB a b = true ↔ (a.take (b.length : Int).toNat = b ∧ byteAt a b.length = 47) := by
  rw [clash_iff, pre_sl, pre_sl]
  constructor
  · rintro ⟨_, h3 | h3⟩
    · exact h3.2
    · have := h3.1; omega
  · exact fun h3 => ⟨⟨h1, h2⟩, .inl ⟨h, h3⟩⟩
theorem clash_lt (h1 : validB a = true) (h2 : validB b = true) (h : (a.length : Int) < b.length) : clashB a b = true ↔ (b.take (a.length : Int).toNat = a ∧ byteAt b a.length = 47) := by
  rw [clash_iff, pre_sl, pre_sl]
  constructor
  · rintro ⟨_, h3 | h3⟩
    · have := h3.1; omega
    · exact h3.2
  · exact fun h3 => ⟨⟨h1, h2⟩, .inr ⟨h, h3⟩⟩
theorem clash_no (h1 : ¬ (b.length : Int) < a.length) (h2 : ¬ (a.length : Int) < b.length) : ¬ clashB a b = true := by
  rw [clash_iff, pre_sl, pre_sl]
  rintro ⟨_, h3 | h3⟩
  · exact h1 h3.1
  · exact h2 h3.1
end
set_option maxRecDepth 100000 in
/-- impl.NameValid -/
theorem iNameValid_ok (s : List UInt8) (m0 : Int) (w0 : World) (hs : (s.length : Int) ≤ 1048576) (hl_0 : 0 < w0.heap.size) (hm_0_0 : w0.cell? ⟨0, 0, none⟩ = some (.int .i64 (m0))) :
    Calls Tryd.prog 21 #[.string (bs (s))] w0 fun e w => e = .returned (.bool (decide (validB s = true))) ∧ Own w0 [] [] w := by
  have O := Own.start w0
  have hcl := cut_len (s := s)
  refine enterO (n := 12) Tryd.func21 rfl rfl rfl O fun a w F O => ?_
  refine c_seq fun K1 hK1 => c_region (sp F (p_assign rfl) rfl rfl fun a F => c_nil (hK1 _ _ (?_)))
  try clear hK1 K1
  refine c_seq fun K2 hK2 => c_region (sp F (p_move rfl) rfl rfl fun a F => sp F (p_len_b rfl Tryd.underlying9) rfl rfl fun a F => sp F (p_leq rfl rfl) rfl rfl fun a F => sp F (p_move rfl) rfl rfl fun a F => ?_)
  by_cases c6 : (s.length : Int) ≤ 12
  · have F := F.setB (d := 5) rfl (decide_eq_true c6)
    have F := F.setB (d := 6) rfl (decide_eq_true c6)
    refine sp F (p_move rfl) rfl rfl fun a F => so F rfl (o_call (vs := #[.string (bs (s)), .string (bs ([47]))]) F Tryd.en_41 rfl rfl ((split_ok s m0 w (by first | omega | assumption | (simp; omega) | (exact hE _ (List.mem_of_getElem? (by assumption))) | (have := cut_small _ (List.mem_of_getElem? (by assumption)); omega)) (Nat.lt_of_lt_of_le hl_0 O.size) (((O.old hl_0 (by simp)).trans hm_0_0))).mono ?_))
    rintro e w ⟨b8, rfl, K⟩
    refine ⟨_, rfl, fun a F => ?_⟩
    have O : Own w0 [] [.row 9 1 (.slice (some ⟨b8, 0, none⟩) ((cutL s).length) ((cutL s).length)) ((cutL s).length) ((cutL s).flatMap encStr)] w := O.call0 K
    clear K
    have O : Own w0 [] [.row 9 1 (.slice (some ⟨b8, 0, none⟩) ((cutL s).length) ((cutL s).length)) ((cutL s).length) ((cutL s).flatMap encStr)] w := O
    refine so F rfl (o_call (vs := #[.slice (some ⟨b8, 0, none⟩) ((cutL s).length) ((cutL s).length), .func (.func 42) #[] #[]]) F Tryd.en_40 rfl rfl ((containsParts_ok (some ⟨b8, 0, none⟩) ((cutL s).length) ((cutL s).length) (cutL s) w (O.arr 0 (es := cutL s) rfl encStr_len (by decide)) (by first | omega | (simp; done) | (simp; omega) | (simp at *; omega)) (by omega) (by first | assumption | (intro x hx; have := cut_small x hx; omega))).mono ?_))
    rintro e w ⟨rfl, K⟩
    refine ⟨_, rfl, fun a F => ?_⟩
    have O : Own w0 [] [.row 9 1 (.slice (some ⟨b8, 0, none⟩) ((cutL s).length) ((cutL s).length)) ((cutL s).length) ((cutL s).flatMap encStr)] w := O.call0 K
    clear K
    have O : Own w0 [] [.row 9 1 (.slice (some ⟨b8, 0, none⟩) ((cutL s).length) ((cutL s).length)) ((cutL s).length) ((cutL s).flatMap encStr)] w := O
    by_cases c9 : allB (cutL s) = false
    · have F := F.setB (d := 9) rfl (decide_eq_true c9)
      refine sp F (p_not rfl) rfl rfl fun a F => sp F (p_pick (t := true) rfl rfl) rfl rfl fun a F => sp F (p_assign rfl) rfl rfl fun a F => c_nil (hK2 _ _ (?_))
      try clear hK2 K2
      refine wp_ret (ret1 F rfl rfl (?_))
      have O : Own w0 [] [] w := (O.take 0)
      exact ⟨congrArg Ending.returned (show Value.bool false = .bool (decide (validB s = true)) from by first | exact vbf (fun h => c6 (validB_iff.1 h).1) | exact vbf (fun h => by rw [(validB_iff.1 h).2] at c9; cases c9)), O⟩
    · have F := F.setB (d := 9) rfl (decide_eq_false c9)
      refine sp F (p_not rfl) rfl rfl fun a F => sp F (p_pick (t := true) rfl rfl) rfl rfl fun a F => sp F (p_assign rfl) rfl rfl fun a F => c_nil (hK2 _ _ (?_))
      try clear hK2 K2
      refine wp_ret (ret1 F rfl rfl (?_))
      have O : Own w0 [] [] w := (O.take 0)
      exact ⟨congrArg Ending.returned (show Value.bool true = .bool (decide (validB s = true)) from by exact vbt (validB_iff.2 ⟨c6, by simpa using c9⟩)), O⟩
  · have F := F.setB (d := 5) rfl (decide_eq_false c6)
    have F := F.setB (d := 6) rfl (decide_eq_false c6)
    refine ss F rfl rfl fun a F => ss F rfl rfl fun a F => ss F rfl rfl fun a F => ss F rfl rfl fun a F => sp F (p_pick (t := false) rfl rfl) rfl rfl fun a F => sp F (p_assign rfl) rfl rfl fun a F => c_nil (hK2 _ _ (?_))
    try clear hK2 K2
    refine wp_ret (ret1 F rfl rfl (?_))
    exact ⟨congrArg Ending.returned (show Value.bool false = .bool (decide (validB s = true)) from by first | exact vbf (fun h => c6 (validB_iff.1 h).1) | exact vbf (fun h => by rw [(validB_iff.1 h).2] at c9; cases c9)), O⟩

set_option maxRecDepth 100000 in
/-- spec.NameValid -/
theorem sNameValid_ok (s : List UInt8) (w0 : World) (hs : (s.length : Int) ≤ 1048576) :
    Calls Tryd.prog 27 #[.string (bs (s))] w0 fun e w => e = .returned (.bool (decide (validB s = true))) ∧ Own w0 [] [] w := by
  have O := Own.start w0
  refine enterO (n := 22) Tryd.func27 rfl rfl rfl O fun a w F O => ?_
  refine c_seq fun K1 hK1 => c_region (sp F (p_assign rfl) rfl rfl fun a F => c_nil (hK1 _ _ (?_)))
  try clear hK1 K1
  refine c_seq fun K2 hK2 => c_region (sp F (p_move rfl) rfl rfl fun a F => so F rfl (o_call (vs := #[.string (bs (s))]) F Tryd.en_39 rfl rfl ((l5Cut_ok s w (by first | omega | assumption | (simp; omega) | (exact hE _ (List.mem_of_getElem? (by assumption))) | (have := cut_small _ (List.mem_of_getElem? (by assumption)); omega))).mono ?_)))
  rintro e w ⟨P6, N6, C6, rfl, h6a, h6b, K⟩
  refine ⟨_, rfl, fun a F => ?_⟩
  have O : Own w0 [] [.row 9 1 (.slice P6 N6 C6) N6 ((cutL s).flatMap encStr)] w := O.call0 K
  clear K
  have O : Own w0 [] [.row 9 1 (.slice P6 N6 C6) N6 ((cutL s).flatMap encStr)] w := O
  refine sp F (p_assign rfl) rfl rfl fun a F => c_nil (hK2 _ _ (?_))
  try clear hK2 K2
  refine c_seq fun K3 hK3 => c_seq fun K4 hK4 => c_region (sp F (p_assign rfl) rfl rfl fun a F => c_nil (hK4 _ _ (?_)))
  try clear hK4 K4
  refine wp_block (?_)
  refine c_loop (fun mm a w => ∃ (k : Int), mm = ((N6 : Int) - k).toNat ∧ Has 22 [(0, .string (bs (s))), (3, .slice P6 N6 C6), (4, .int .i64 (k))] a ∧ Own w0 [] [.row 9 1 (.slice P6 N6 C6) N6 ((cutL s).flatMap encStr)] w ∧ (0 ≤ k) ∧ (k ≤ N6) ∧ (OkTo k (cutL s))) ?_ ?_
  · have F : Has 22 [(0, .string (bs (s))), (3, .slice P6 N6 C6), (4, .int .i64 (0))] a := F.pick ⟨rfl, rfl, rfl, trivial⟩
    exact ⟨((N6 : Int) - 0).toNat, 0, rfl, F, O, by first | assumption | omega, by first | assumption | omega, by exact okTo_zero⟩
  · rintro mm a w ⟨k, rfl, F, O, hi0a, hi0b, hi0c⟩
    refine c_seq fun K5 hK5 => c_seq fun K6 hK6 => c_region (sp F (p_move rfl) rfl rfl fun a F => sp F (p_move rfl) rfl rfl fun a F => sp F (p_len_l rfl Tryd.underlying28) rfl rfl fun a F => sp F (p_lss rfl rfl) rfl rfl fun a F => c_nil (hK6 _ _ (?_)))
    try clear hK6 K6
    by_cases c10 : k < (N6 : Int)
    · have F := F.setB (d := 10) rfl (decide_eq_true c10)
      refine c_ift F rfl (wp_skip (hK5 _ _ (?_)))
      try clear hK5 K5
      refine c_seq fun K7 hK7 => wp_block (c_seq fun K8 hK8 => c_region (sp F (p_move rfl) rfl rfl fun a F => sp F (p_move rfl) rfl rfl fun a F => ?_))
      obtain ⟨b15, hp15⟩ := O.rowSome 0 rfl (by omega)
      rw [hp15] at O
      try rw [hp15] at F
      obtain ⟨e15, he15⟩ := get_some (l := cutL s) (i := k) (by omega) (by first | omega | (simp; omega))
      refine sp F (p_iaddr rfl rfl Tryd.underlying28 Tryd.sz_9 (by omega) (by omega)) rfl rfl fun a F => sp F (p_load rfl Tryd.agg_9 (fun _ h => (ld1 ((O.loadRow 0 rfl (flat_get0 encStr_len he15 rfl))) h))) rfl rfl fun a F => so F rfl (o_call (vs := #[.string (bs (e15))]) F Tryd.en_45 rfl rfl ((l5Part_ok e15 w (by first | omega | assumption | (simp; omega) | (exact hE _ (List.mem_of_getElem? (by assumption))) | (have := cut_small _ (List.mem_of_getElem? (by assumption)); omega))).mono ?_))
      rintro e w ⟨rfl, K⟩
      refine ⟨_, rfl, fun a F => ?_⟩
      have O : Own w0 [] [.row 9 1 (.slice (some ⟨b15, 0, none⟩) N6 C6) N6 ((cutL s).flatMap encStr)] w := O.call0 K
      clear K
      have O : Own w0 [] [.row 9 1 (.slice (some ⟨b15, 0, none⟩) N6 C6) N6 ((cutL s).flatMap encStr)] w := O
      by_cases c17 : partB e15 = true
      · have F := F.setB (d := 17) rfl (decide_eq_true c17)
        refine sp F (p_not rfl) rfl rfl fun a F => c_nil (hK8 _ _ (?_))
        try clear hK8 K8
        refine c_iff F rfl (wp_skip (hK7 _ _ (?_)))
        try clear hK7 K7
        refine c_region (sp F (p_move rfl) rfl rfl fun a F => sp F (p_add rfl rfl (by omega) (by omega)) rfl rfl fun a F => sp F (p_assign rfl) rfl rfl fun a F => c_nil (?_))
        try rw [← hp15] at F
        try rw [← hp15] at O
        have F : Has 22 [(0, .string (bs (s))), (3, .slice P6 N6 C6), (4, .int .i64 (k + 1))] a := F.pick ⟨rfl, rfl, rfl, trivial⟩
        exact ⟨((N6 : Int) - (k + 1)).toNat, by omega, (k + 1), rfl, F, O, by first | assumption | omega, by first | assumption | omega, by exact okTo_step hi0c hi0a he15 (by assumption)⟩
      · have F := F.setB (d := 17) rfl (decide_eq_false c17)
        refine sp F (p_not rfl) rfl rfl fun a F => c_nil (hK8 _ _ (?_))
        try clear hK8 K8
        refine c_ift F rfl (c_seq fun K9 hK9 => c_region (sp F (p_assign rfl) rfl rfl fun a F => c_nil (hK9 _ _ (?_))))
        try clear hK9 K9
        refine wp_ret (r_block (r_then (r_then (r_block (r_then (ret1 F rfl rfl (?_)))))))
        have O : Own w0 [] [] w := (O.take 0)
        exact ⟨congrArg Ending.returned (show Value.bool false = .bool (decide (validB s = true)) from by exact vbf (fun h => by have h5 := (validB_iff.1 h).2; rw [all_not he15 (by assumption)] at h5; cases h5)), O⟩
    · have F := F.setB (d := 10) rfl (decide_eq_false c10)
      refine c_iff F rfl (wp_exit (e_then (e_then (e_here (hK3 _ _ (?_))))))
      try clear hK3 K3
      refine c_seq fun K7 hK7 => c_region (sp F (p_move rfl) rfl rfl fun a F => sp F (p_len_b rfl Tryd.underlying9) rfl rfl fun a F => sp F (p_leq rfl rfl) rfl rfl fun a F => sp F (p_assign rfl) rfl rfl fun a F => c_nil (hK7 _ _ (?_)))
      try clear hK7 K7
      refine wp_ret (ret1 F rfl rfl (?_))
      have O : Own w0 [] [] w := (O.take 0)
      exact ⟨congrArg Ending.returned (show Value.bool (decide ((s.length : Int) ≤ 12)) = .bool (decide (validB s = true)) from by exact vbi ⟨fun h => validB_iff.2 ⟨h, okTo_all hi0c (by omega)⟩, fun h => (validB_iff.1 h).1⟩), O⟩

set_option maxRecDepth 100000 in
/-- impl.NameParts -/
theorem iNameParts_ok (s : List UInt8) (m0 : Int) (w0 : World) (hs : (s.length : Int) ≤ 1048576) (hl_0 : 0 < w0.heap.size) (hm_0_0 : w0.cell? ⟨0, 0, none⟩ = some (.int .i64 (m0))) :
    Calls Tryd.prog 22 #[.string (bs (s))] w0 fun e w => ∃ (P : Option Addr), ∃ (N : Nat), ∃ (C : Nat), e = .returned (.slice P N C) ∧ ((N : Int) = (partsL s).length) ∧ ((N : Int) ≤ 1048600) ∧ Own w0 [] [.row 9 1 (.slice P N C) N ((partsL s).flatMap encStr)] w := by
  have O := Own.start w0
  refine enterO (n := 8) Tryd.func22 rfl rfl rfl O fun a w F O => ?_
  refine c_seq fun K1 hK1 => c_region (sp F (p_assign rfl) rfl rfl fun a F => c_nil (hK1 _ _ (?_)))
  try clear hK1 K1
  refine c_seq fun K2 hK2 => c_seq fun K3 hK3 => c_region (sp F (p_move rfl) rfl rfl fun a F => so F rfl (o_call (vs := #[.string (bs (s))]) F Tryd.en_21 rfl rfl ((iNameValid_ok s m0 w (by first | omega | assumption | (simp; omega) | (exact hE _ (List.mem_of_getElem? (by assumption))) | (have := cut_small _ (List.mem_of_getElem? (by assumption)); omega)) (Nat.lt_of_lt_of_le hl_0 O.size) (((O.old hl_0 (by simp)).trans hm_0_0))).mono ?_)))
  rintro e w ⟨rfl, K⟩
  refine ⟨_, rfl, fun a F => ?_⟩
  have O : Own w0 [] [] w := O.call0 K
  clear K
  have O : Own w0 [] [] w := O
  by_cases c4 : validB s = true
  · have F := F.setB (d := 4) rfl (decide_eq_true c4)
    refine sp F (p_not rfl) rfl rfl fun a F => c_nil (hK3 _ _ (?_))
    try clear hK3 K3
    refine c_iff F rfl (wp_skip (hK2 _ _ (?_)))
    try clear hK2 K2
    refine c_seq fun K4 hK4 => c_region (sp F (p_move rfl) rfl rfl fun a F => so F rfl (o_call (vs := #[.string (bs (s)), .string (bs ([47]))]) F Tryd.en_41 rfl rfl ((split_ok s m0 w (by first | omega | assumption | (simp; omega) | (exact hE _ (List.mem_of_getElem? (by assumption))) | (have := cut_small _ (List.mem_of_getElem? (by assumption)); omega)) (Nat.lt_of_lt_of_le hl_0 O.size) (((O.old hl_0 (by simp)).trans hm_0_0))).mono ?_)))
    rintro e w ⟨b7, rfl, K⟩
    refine ⟨_, rfl, fun a F => ?_⟩
    have O : Own w0 [] [.row 9 1 (.slice (some ⟨b7, 0, none⟩) ((cutL s).length) ((cutL s).length)) ((cutL s).length) ((cutL s).flatMap encStr)] w := O.call0 K
    clear K
    have O : Own w0 [] [.row 9 1 (.slice (some ⟨b7, 0, none⟩) ((cutL s).length) ((cutL s).length)) ((cutL s).length) ((cutL s).flatMap encStr)] w := O
    refine sp F (p_assign rfl) rfl rfl fun a F => c_nil (hK4 _ _ (?_))
    try clear hK4 K4
    refine wp_ret (ret1 F rfl rfl (?_))
    have O := O.setR 0 rfl (show Res.row 9 1 (.slice (some ⟨b7, 0, none⟩) ((cutL s).length) ((cutL s).length)) ((cutL s).length) ((cutL s).flatMap encStr) = .row 9 1 (.slice (some ⟨b7, 0, none⟩) ((cutL s).length) ((cutL s).length)) ((cutL s).length) ((partsL s).flatMap encStr) from by first | (rw [parts_ok c4]; done) | (rw [parts_bad c4]; done) | (rw [parts_bad c4]; rfl))
    have O : Own w0 [] [.row 9 1 (.slice (some ⟨b7, 0, none⟩) ((cutL s).length) ((cutL s).length)) ((cutL s).length) ((partsL s).flatMap encStr)] w := O
    exact ⟨(some ⟨b7, 0, none⟩), ((cutL s).length), ((cutL s).length), rfl, by first | (rw [parts_ok c4]; done) | (rw [parts_ok c4]; omega) | (rw [parts_bad c4]; rfl), by first | omega | (have := cut_len (s := s); omega), O⟩
  · have F := F.setB (d := 4) rfl (decide_eq_false c4)
    refine sp F (p_not rfl) rfl rfl fun a F => c_nil (hK3 _ _ (?_))
    try clear hK3 K3
    refine c_ift F rfl (c_seq fun K4 hK4 => c_region (sp F (p_assign rfl) rfl rfl fun a F => c_nil (hK4 _ _ (?_))))
    try clear hK4 K4
    refine wp_ret (r_then (ret1 F rfl rfl (?_)))
    have O := O.addNil 9 1
    have O : Own w0 [] [.row 9 1 (.slice none 0 0) 0 ([])] w := O
    have O := O.setR 0 rfl (show Res.row 9 1 (.slice none 0 0) 0 ([]) = .row 9 1 (.slice none 0 0) 0 ((partsL s).flatMap encStr) from by first | (rw [parts_ok c4]; done) | (rw [parts_bad c4]; done) | (rw [parts_bad c4]; rfl))
    have O : Own w0 [] [.row 9 1 (.slice none 0 0) 0 ((partsL s).flatMap encStr)] w := O
    exact ⟨none, 0, 0, rfl, by first | (rw [parts_ok c4]; done) | (rw [parts_ok c4]; omega) | (rw [parts_bad c4]; rfl), by first | omega | (have := cut_len (s := s); omega), O⟩

set_option maxRecDepth 100000 in
/-- spec.NameParts -/
theorem sNameParts_ok (s : List UInt8) (w0 : World) (hs : (s.length : Int) ≤ 1048576) :
    Calls Tryd.prog 29 #[.string (bs (s))] w0 fun e w => ∃ (P : Option Addr), ∃ (N : Nat), ∃ (C : Nat), e = .returned (.slice P N C) ∧ ((N : Int) = (partsL s).length) ∧ ((N : Int) ≤ 1048600) ∧ Own w0 [] [.row 9 1 (.slice P N C) N ((partsL s).flatMap encStr)] w := by
  have O := Own.start w0
  refine enterO (n := 9) Tryd.func29 rfl rfl rfl O fun a w F O => ?_
  refine c_seq fun K1 hK1 => c_region (sp F (p_assign rfl) rfl rfl fun a F => c_nil (hK1 _ _ (?_)))
  try clear hK1 K1
  refine c_seq fun K2 hK2 => c_seq fun K3 hK3 => c_region (sp F (p_move rfl) rfl rfl fun a F => so F rfl (o_call (vs := #[.string (bs (s))]) F Tryd.en_27 rfl rfl ((sNameValid_ok s w (by first | omega | assumption | (simp; omega) | (exact hE _ (List.mem_of_getElem? (by assumption))) | (have := cut_small _ (List.mem_of_getElem? (by assumption)); omega))).mono ?_)))
  rintro e w ⟨rfl, K⟩
  refine ⟨_, rfl, fun a F => ?_⟩
  have O : Own w0 [] [] w := O.call0 K
  clear K
  have O : Own w0 [] [] w := O
  by_cases c4 : validB s = true
  · have F := F.setB (d := 4) rfl (decide_eq_true c4)
    refine sp F (p_not rfl) rfl rfl fun a F => c_nil (hK3 _ _ (?_))
    try clear hK3 K3
    refine c_iff F rfl (wp_skip (hK2 _ _ (?_)))
    try clear hK2 K2
    refine c_seq fun K4 hK4 => c_region (sp F (p_move rfl) rfl rfl fun a F => so F rfl (o_call (vs := #[.string (bs (s))]) F Tryd.en_39 rfl rfl ((l5Cut_ok s w (by first | omega | assumption | (simp; omega) | (exact hE _ (List.mem_of_getElem? (by assumption))) | (have := cut_small _ (List.mem_of_getElem? (by assumption)); omega))).mono ?_)))
    rintro e w ⟨P8, N8, C8, rfl, h8a, h8b, K⟩
    refine ⟨_, rfl, fun a F => ?_⟩
    have O : Own w0 [] [.row 9 1 (.slice P8 N8 C8) N8 ((cutL s).flatMap encStr)] w := O.call0 K
    clear K
    have O : Own w0 [] [.row 9 1 (.slice P8 N8 C8) N8 ((cutL s).flatMap encStr)] w := O
    refine sp F (p_assign rfl) rfl rfl fun a F => c_nil (hK4 _ _ (?_))
    try clear hK4 K4
    refine wp_ret (ret1 F rfl rfl (?_))
    have O := O.setR 0 rfl (show Res.row 9 1 (.slice P8 N8 C8) N8 ((cutL s).flatMap encStr) = .row 9 1 (.slice P8 N8 C8) N8 ((partsL s).flatMap encStr) from by first | (rw [parts_ok c4]; done) | (rw [parts_bad c4]; done) | (rw [parts_bad c4]; rfl))
    have O : Own w0 [] [.row 9 1 (.slice P8 N8 C8) N8 ((partsL s).flatMap encStr)] w := O
    exact ⟨P8, N8, C8, rfl, by first | (rw [parts_ok c4]; done) | (rw [parts_ok c4]; omega) | (rw [parts_bad c4]; rfl), by first | omega | (have := cut_len (s := s); omega), O⟩
  · have F := F.setB (d := 4) rfl (decide_eq_false c4)
    refine sp F (p_not rfl) rfl rfl fun a F => c_nil (hK3 _ _ (?_))
    try clear hK3 K3
    refine c_ift F rfl (c_seq fun K4 hK4 => c_region (so F rfl (o_bslice (cs := []) F O rfl Tryd.underlying28 Tryd.sz_9 Tryd.zero_9 rfl rfl rfl fun b6 w O a F => ?_)))
    have O : Own w0 [] [.cells b6 [] 9] w := O
    refine sp F (p_assign rfl) rfl rfl fun a F => c_nil (hK4 _ _ (?_))
    try clear hK4 K4
    refine wp_ret (r_then (ret1 F rfl rfl (?_)))
    have O := O.asRow 0 (q := 0) (sz := 1) rfl rfl (by unfold maxLen; omega)
    have O : Own w0 [] [.row 9 1 (.slice (some ⟨b6, 0, none⟩) 0 0) 0 ([])] w := O
    have O := O.setR 0 rfl (show Res.row 9 1 (.slice (some ⟨b6, 0, none⟩) 0 0) 0 ([]) = .row 9 1 (.slice (some ⟨b6, 0, none⟩) 0 0) 0 ((partsL s).flatMap encStr) from by first | (rw [parts_ok c4]; done) | (rw [parts_bad c4]; done) | (rw [parts_bad c4]; rfl))
    have O : Own w0 [] [.row 9 1 (.slice (some ⟨b6, 0, none⟩) 0 0) 0 ((partsL s).flatMap encStr)] w := O
    exact ⟨(some ⟨b6, 0, none⟩), 0, 0, rfl, by first | (rw [parts_ok c4]; done) | (rw [parts_ok c4]; omega) | (rw [parts_bad c4]; rfl), by first | omega | (have := cut_len (s := s); omega), O⟩

set_option maxRecDepth 100000 in
/-- stringslite.HasPrefix -/
theorem slHasPrefix_ok (x : List UInt8) (y : List UInt8) (w0 : World) (ha : (x.length : Int) ≤ 1048576) (hb : (y.length : Int) ≤ 1048576) :
    Calls Tryd.prog 51 #[.string (bs (x)), .string (bs (y))] w0 fun e w => e = .returned (.bool (decide (preB x y = true))) ∧ Own w0 [] [] w := by
  have O := Own.start w0
  refine enterO (n := 18) Tryd.func51 rfl rfl rfl O fun a w F O => ?_
  refine c_seq fun K1 hK1 => c_region (sp F (p_assign rfl) rfl rfl fun a F => c_nil (hK1 _ _ (?_)))
  try clear hK1 K1
  refine c_seq fun K2 hK2 => c_region (sp F (p_move rfl) rfl rfl fun a F => sp F (p_len_b rfl Tryd.underlying9) rfl rfl fun a F => sp F (p_move rfl) rfl rfl fun a F => sp F (p_len_b rfl Tryd.underlying9) rfl rfl fun a F => sp F (p_geq rfl rfl) rfl rfl fun a F => sp F (p_move rfl) rfl rfl fun a F => ?_)
  by_cases c10 : (y.length : Int) ≤ (x.length : Int)
  · have F := F.setB (d := 9) rfl (decide_eq_true c10)
    have F := F.setB (d := 10) rfl (decide_eq_true c10)
    refine sp F (p_move rfl) rfl rfl fun a F => sp F (p_move rfl) rfl rfl fun a F => sp F (p_len_b rfl Tryd.underlying9) rfl rfl fun a F => sp F (p_sto rfl rfl Tryd.underlying9 (by omega) (by omega)) rfl rfl fun a F => sp F (p_move rfl) rfl rfl fun a F => sp F (p_seq rfl rfl) rfl rfl fun a F => sp F (p_pick (t := true) rfl rfl) rfl rfl fun a F => sp F (p_assign rfl) rfl rfl fun a F => c_nil (hK2 _ _ (?_))
    try clear hK2 K2
    refine wp_ret (ret1 F rfl rfl (?_))
    exact ⟨congrArg Ending.returned (show Value.bool (decide ((x.take ((y.length : Int) : Int).toNat) = y)) = .bool (decide (preB x y = true)) from by exact vbi ⟨fun h => preB_iff.2 ⟨c10, h⟩, fun h => (preB_iff.1 h).2⟩), O⟩
  · have F := F.setB (d := 9) rfl (decide_eq_false c10)
    have F := F.setB (d := 10) rfl (decide_eq_false c10)
    refine ss F rfl rfl fun a F => ss F rfl rfl fun a F => ss F rfl rfl fun a F => ss F rfl rfl fun a F => ss F rfl rfl fun a F => ss F rfl rfl fun a F => sp F (p_pick (t := false) rfl rfl) rfl rfl fun a F => sp F (p_assign rfl) rfl rfl fun a F => c_nil (hK2 _ _ (?_))
    try clear hK2 K2
    refine wp_ret (ret1 F rfl rfl (?_))
    exact ⟨congrArg Ending.returned (show Value.bool false = .bool (decide (preB x y = true)) from by exact vbf (fun h => c10 (preB_iff.1 h).1)), O⟩

set_option maxRecDepth 100000 in
/-- strings.HasPrefix -/
theorem hasPrefix_ok (x : List UInt8) (y : List UInt8) (w0 : World) (ha : (x.length : Int) ≤ 1048576) (hb : (y.length : Int) ≤ 1048576) :
    Calls Tryd.prog 44 #[.string (bs (x)), .string (bs (y))] w0 fun e w => e = .returned (.bool (decide (preB x y = true))) ∧ Own w0 [] [] w := by
  have O := Own.start w0
  refine enterO (n := 8) Tryd.func44 rfl rfl rfl O fun a w F O => ?_
  refine c_seq fun K1 hK1 => c_region (sp F (p_assign rfl) rfl rfl fun a F => c_nil (hK1 _ _ (?_)))
  try clear hK1 K1
  refine c_seq fun K2 hK2 => c_region (sp F (p_move rfl) rfl rfl fun a F => sp F (p_move rfl) rfl rfl fun a F => so F rfl (o_call (vs := #[.string (bs (x)), .string (bs (y))]) F Tryd.en_51 rfl rfl ((slHasPrefix_ok x y w (by first | omega | assumption | (simp; omega) | (exact hE _ (List.mem_of_getElem? (by assumption))) | (have := cut_small _ (List.mem_of_getElem? (by assumption)); omega)) (by first | omega | assumption | (simp; omega) | (exact hE _ (List.mem_of_getElem? (by assumption))) | (have := cut_small _ (List.mem_of_getElem? (by assumption)); omega))).mono ?_)))
  rintro e w ⟨rfl, K⟩
  refine ⟨_, rfl, fun a F => ?_⟩
  have O : Own w0 [] [] w := O.call0 K
  clear K
  have O : Own w0 [] [] w := O
  refine sp F (p_assign rfl) rfl rfl fun a F => c_nil (hK2 _ _ (?_))
  try clear hK2 K2
  refine wp_ret (ret1 F rfl rfl (?_))
  exact ⟨rfl, O⟩

set_option maxRecDepth 100000 in
/-- impl.NameClashes -/
theorem iNameClashes_ok (x : List UInt8) (y : List UInt8) (m0 : Int) (w0 : World) (ha : (x.length : Int) ≤ 1048576) (hb : (y.length : Int) ≤ 1048576) (hl_0 : 0 < w0.heap.size) (hm_0_0 : w0.cell? ⟨0, 0, none⟩ = some (.int .i64 (m0))) :
    Calls Tryd.prog 24 #[.string (bs (x)), .string (bs (y))] w0 fun e w => e = .returned (.bool (decide (clashB x y = true))) ∧ Own w0 [] [] w := by
  have O := Own.start w0
  refine enterO (n := 23) Tryd.func24 rfl rfl rfl O fun a w F O => ?_
  refine c_seq fun K1 hK1 => c_region (sp F (p_assign rfl) rfl rfl fun a F => c_nil (hK1 _ _ (?_)))
  try clear hK1 K1
  refine c_seq fun K2 hK2 => c_region (sp F (p_move rfl) rfl rfl fun a F => so F rfl (o_call (vs := #[.string (bs (x))]) F Tryd.en_21 rfl rfl ((iNameValid_ok x m0 w (by first | omega | assumption | (simp; omega) | (exact hE _ (List.mem_of_getElem? (by assumption))) | (have := cut_small _ (List.mem_of_getElem? (by assumption)); omega)) (Nat.lt_of_lt_of_le hl_0 O.size) (((O.old hl_0 (by simp)).trans hm_0_0))).mono ?_)))
  rintro e w ⟨rfl, K⟩
  refine ⟨_, rfl, fun a F => ?_⟩
  have O : Own w0 [] [] w := O.call0 K
  clear K
  have O : Own w0 [] [] w := O
  refine sp F (p_move rfl) rfl rfl fun a F => ?_
  by_cases c7 : validB x = true
  · have F := F.setB (d := 6) rfl (decide_eq_true c7)
    have F := F.setB (d := 7) rfl (decide_eq_true c7)
    refine sp F (p_move rfl) rfl rfl fun a F => so F rfl (o_call (vs := #[.string (bs (y))]) F Tryd.en_21 rfl rfl ((iNameValid_ok y m0 w (by first | omega | assumption | (simp; omega) | (exact hE _ (List.mem_of_getElem? (by assumption))) | (have := cut_small _ (List.mem_of_getElem? (by assumption)); omega)) (Nat.lt_of_lt_of_le hl_0 O.size) (((O.old hl_0 (by simp)).trans hm_0_0))).mono ?_))
    rintro e w ⟨rfl, K⟩
    refine ⟨_, rfl, fun a F => ?_⟩
    have O : Own w0 [] [] w := O.call0 K
    clear K
    have O : Own w0 [] [] w := O
    refine sp F (p_pick (t := true) rfl rfl) rfl rfl fun a F => sp F (p_move rfl) rfl rfl fun a F => ?_
    by_cases c11 : validB y = true
    · have F := F.setB (d := 9) rfl (decide_eq_true c11)
      have F := F.setB (d := 10) rfl (decide_eq_true c11)
      have F := F.setB (d := 11) rfl (decide_eq_true c11)
      refine sp F (p_move rfl) rfl rfl fun a F => sp F (p_move rfl) rfl rfl fun a F => ?_
      try have h9 := (validB_iff.1 c7).1
      try have h8 := (validB_iff.1 c11).1
      refine sp F (p_cat rfl rfl (by first | omega | (simp; done) | (simp; omega))) rfl rfl fun a F => so F rfl (o_call (vs := #[.string (bs (x)), .string (bs (y ++ ([47])))]) F Tryd.en_44 rfl rfl ((hasPrefix_ok x (y ++ ([47])) w (by first | omega | assumption | (simp; omega) | (exact hE _ (List.mem_of_getElem? (by assumption))) | (have := cut_small _ (List.mem_of_getElem? (by assumption)); omega)) (by first | omega | assumption | (simp; omega) | (exact hE _ (List.mem_of_getElem? (by assumption))) | (have := cut_small _ (List.mem_of_getElem? (by assumption)); omega))).mono ?_))
      rintro e w ⟨rfl, K⟩
      refine ⟨_, rfl, fun a F => ?_⟩
      have O : Own w0 [] [] w := O.call0 K
      clear K
      have O : Own w0 [] [] w := O
      refine sp F (p_move rfl) rfl rfl fun a F => ?_
      by_cases c16 : preB x (y ++ ([47])) = true
      · have F := F.setB (d := 15) rfl (decide_eq_true c16)
        have F := F.setB (d := 16) rfl (decide_eq_true c16)
        refine ss F rfl rfl fun a F => ss F rfl rfl fun a F => ?_
        try have h9 := (validB_iff.1 c7).1
        try have h8 := (validB_iff.1 c11).1
        refine ss F rfl rfl fun a F => ss F rfl rfl fun a F => sp F (p_pick (t := true) rfl rfl) rfl rfl fun a F => sp F (p_pick (t := true) rfl rfl) rfl rfl fun a F => sp F (p_assign rfl) rfl rfl fun a F => c_nil (hK2 _ _ (?_))
        try clear hK2 K2
        refine wp_ret (ret1 F rfl rfl (?_))
        exact ⟨congrArg Ending.returned (show Value.bool true = .bool (decide (clashB x y = true)) from by exact vbt (clash_iff.2 ⟨⟨c7, c11⟩, .inl c16⟩)), O⟩
      · have F := F.setB (d := 15) rfl (decide_eq_false c16)
        have F := F.setB (d := 16) rfl (decide_eq_false c16)
        refine sp F (p_move rfl) rfl rfl fun a F => sp F (p_move rfl) rfl rfl fun a F => ?_
        try have h9 := (validB_iff.1 c7).1
        try have h8 := (validB_iff.1 c11).1
        refine sp F (p_cat rfl rfl (by first | omega | (simp; done) | (simp; omega))) rfl rfl fun a F => so F rfl (o_call (vs := #[.string (bs (y)), .string (bs (x ++ ([47])))]) F Tryd.en_44 rfl rfl ((hasPrefix_ok y (x ++ ([47])) w (by first | omega | assumption | (simp; omega) | (exact hE _ (List.mem_of_getElem? (by assumption))) | (have := cut_small _ (List.mem_of_getElem? (by assumption)); omega)) (by first | omega | assumption | (simp; omega) | (exact hE _ (List.mem_of_getElem? (by assumption))) | (have := cut_small _ (List.mem_of_getElem? (by assumption)); omega))).mono ?_))
        rintro e w ⟨rfl, K⟩
        refine ⟨_, rfl, fun a F => ?_⟩
        have O : Own w0 [] [] w := O.call0 K
        clear K
        have O : Own w0 [] [] w := O
        refine sp F (p_pick (t := false) rfl rfl) rfl rfl fun a F => sp F (p_pick (t := true) rfl rfl) rfl rfl fun a F => sp F (p_assign rfl) rfl rfl fun a F => c_nil (hK2 _ _ (?_))
        try clear hK2 K2
        refine wp_ret (ret1 F rfl rfl (?_))
        exact ⟨congrArg Ending.returned (show Value.bool (decide (preB y (x ++ ([47])) = true)) = .bool (decide (clashB x y = true)) from by exact vbi ⟨fun h => clash_iff.2 ⟨⟨c7, c11⟩, .inr h⟩, fun h => (clash_iff.1 h).2.resolve_left c16⟩), O⟩
    · have F := F.setB (d := 9) rfl (decide_eq_false c11)
      have F := F.setB (d := 10) rfl (decide_eq_false c11)
      have F := F.setB (d := 11) rfl (decide_eq_false c11)
      refine ss F rfl rfl fun a F => ss F rfl rfl fun a F => ?_
      try have h9 := (validB_iff.1 c7).1
      try have h8 := (validB_iff.1 c11).1
      refine ss F rfl rfl fun a F => ss F rfl rfl fun a F => ss F rfl rfl fun a F => ss F rfl rfl fun a F => ss F rfl rfl fun a F => ?_
      try have h9 := (validB_iff.1 c7).1
      try have h8 := (validB_iff.1 c11).1
      refine ss F rfl rfl fun a F => ss F rfl rfl fun a F => ss F rfl rfl fun a F => sp F (p_pick (t := false) rfl rfl) rfl rfl fun a F => sp F (p_assign rfl) rfl rfl fun a F => c_nil (hK2 _ _ (?_))
      try clear hK2 K2
      refine wp_ret (ret1 F rfl rfl (?_))
      exact ⟨congrArg Ending.returned (show Value.bool false = .bool (decide (clashB x y = true)) from by first | exact vbf (fun h => c11 (clash_iff.1 h).1.2) | exact vbf (fun h => c7 (clash_iff.1 h).1.1)), O⟩
  · have F := F.setB (d := 6) rfl (decide_eq_false c7)
    have F := F.setB (d := 7) rfl (decide_eq_false c7)
    refine ss F rfl rfl fun a F => ss F rfl rfl fun a F => sp F (p_pick (t := false) rfl rfl) rfl rfl fun a F => sp F (p_move rfl) rfl rfl fun a F => ss F rfl rfl fun a F => ss F rfl rfl fun a F => ?_
    try have h9 := (validB_iff.1 c7).1
    try have h8 := (validB_iff.1 c11).1
    refine ss F rfl rfl fun a F => ss F rfl rfl fun a F => ss F rfl rfl fun a F => ss F rfl rfl fun a F => ss F rfl rfl fun a F => ?_
    try have h9 := (validB_iff.1 c7).1
    try have h8 := (validB_iff.1 c11).1
    refine ss F rfl rfl fun a F => ss F rfl rfl fun a F => ss F rfl rfl fun a F => sp F (p_pick (t := false) rfl rfl) rfl rfl fun a F => sp F (p_assign rfl) rfl rfl fun a F => c_nil (hK2 _ _ (?_))
    try clear hK2 K2
    refine wp_ret (ret1 F rfl rfl (?_))
    exact ⟨congrArg Ending.returned (show Value.bool false = .bool (decide (clashB x y = true)) from by first | exact vbf (fun h => c11 (clash_iff.1 h).1.2) | exact vbf (fun h => c7 (clash_iff.1 h).1.1)), O⟩

set_option maxRecDepth 100000 in
/-- spec.NameClashes -/
theorem sNameClashes_ok (x : List UInt8) (y : List UInt8) (w0 : World) (ha : (x.length : Int) ≤ 1048576) (hb : (y.length : Int) ≤ 1048576) :
    Calls Tryd.prog 25 #[.string (bs (x)), .string (bs (y))] w0 fun e w => e = .returned (.bool (decide (clashB x y = true))) ∧ Own w0 [] [] w := by
  have O := Own.start w0
  refine enterO (n := 51) Tryd.func25 rfl rfl rfl O fun a w F O => ?_
  refine c_seq fun K1 hK1 => c_region (sp F (p_assign rfl) rfl rfl fun a F => c_nil (hK1 _ _ (?_)))
  try clear hK1 K1
  refine c_seq fun K2 hK2 => c_seq fun K3 hK3 => c_region (sp F (p_move rfl) rfl rfl fun a F => so F rfl (o_call (vs := #[.string (bs (x))]) F Tryd.en_27 rfl rfl ((sNameValid_ok x w (by first | omega | assumption | (simp; omega) | (exact hE _ (List.mem_of_getElem? (by assumption))) | (have := cut_small _ (List.mem_of_getElem? (by assumption)); omega))).mono ?_)))
  rintro e w ⟨rfl, K⟩
  refine ⟨_, rfl, fun a F => ?_⟩
  have O : Own w0 [] [] w := O.call0 K
  clear K
  have O : Own w0 [] [] w := O
  by_cases c6 : validB x = true
  · have F := F.setB (d := 6) rfl (decide_eq_true c6)
    refine sp F (p_not rfl) rfl rfl fun a F => sp F (p_move rfl) rfl rfl fun a F => sp F (p_move rfl) rfl rfl fun a F => so F rfl (o_call (vs := #[.string (bs (y))]) F Tryd.en_27 rfl rfl ((sNameValid_ok y w (by first | omega | assumption | (simp; omega) | (exact hE _ (List.mem_of_getElem? (by assumption))) | (have := cut_small _ (List.mem_of_getElem? (by assumption)); omega))).mono ?_))
    rintro e w ⟨rfl, K⟩
    refine ⟨_, rfl, fun a F => ?_⟩
    have O : Own w0 [] [] w := O.call0 K
    clear K
    have O : Own w0 [] [] w := O
    by_cases c10 : validB y = true
    · have F := F.setB (d := 10) rfl (decide_eq_true c10)
      refine sp F (p_not rfl) rfl rfl fun a F => sp F (p_pick (t := false) rfl rfl) rfl rfl fun a F => c_nil (hK3 _ _ (?_))
      try clear hK3 K3
      refine c_iff F rfl (wp_skip (hK2 _ _ (?_)))
      try clear hK2 K2
      refine c_seq fun K4 hK4 => c_seq fun K5 hK5 => c_region (sp F (p_move rfl) rfl rfl fun a F => sp F (p_len_b rfl Tryd.underlying9) rfl rfl fun a F => sp F (p_move rfl) rfl rfl fun a F => sp F (p_len_b rfl Tryd.underlying9) rfl rfl fun a F => sp F (p_gtr rfl rfl) rfl rfl fun a F => c_nil (hK5 _ _ (?_)))
      try clear hK5 K5
      by_cases c17 : (y.length : Int) < (x.length : Int)
      · have F := F.setB (d := 17) rfl (decide_eq_true c17)
        refine c_ift F rfl (c_seq fun K6 hK6 => c_region (sp F (p_move rfl) rfl rfl fun a F => sp F (p_move rfl) rfl rfl fun a F => sp F (p_len_b rfl Tryd.underlying9) rfl rfl fun a F => sp F (p_sto rfl rfl Tryd.underlying9 (by omega) (by omega)) rfl rfl fun a F => sp F (p_move rfl) rfl rfl fun a F => sp F (p_seq rfl rfl) rfl rfl fun a F => sp F (p_move rfl) rfl rfl fun a F => ?_))
        by_cases c24 : (x.take ((y.length : Int) : Int).toNat) = y
        · have F := F.setB (d := 23) rfl (decide_eq_true c24)
          have F := F.setB (d := 24) rfl (decide_eq_true c24)
          refine sp F (p_move rfl) rfl rfl fun a F => sp F (p_move rfl) rfl rfl fun a F => sp F (p_len_b rfl Tryd.underlying9) rfl rfl fun a F => sp F (p_index rfl rfl Tryd.underlying9 (by omega) (by omega)) rfl rfl fun a F => sp F (p_eql rfl rfl) rfl rfl fun a F => sp F (p_pick (t := true) rfl rfl) rfl rfl fun a F => sp F (p_assign rfl) rfl rfl fun a F => c_nil (hK6 _ _ (?_))
          try clear hK6 K6
          refine wp_ret (r_then (ret1 F rfl rfl (?_)))
          exact ⟨congrArg Ending.returned (show Value.bool (decide ((byteAt x (y.length : Int)) = 47)) = .bool (decide (clashB x y = true)) from by first | exact vbi ⟨fun h => (clash_gt c6 c10 c17).2 ⟨c24, h⟩, fun h => ((clash_gt c6 c10 c17).1 h).2⟩ | exact vbi ⟨fun h => (clash_lt c6 c10 c36).2 ⟨c44, h⟩, fun h => ((clash_lt c6 c10 c36).1 h).2⟩), O⟩
        · have F := F.setB (d := 23) rfl (decide_eq_false c24)
          have F := F.setB (d := 24) rfl (decide_eq_false c24)
          refine ss F rfl rfl fun a F => ss F rfl rfl fun a F => ss F rfl rfl fun a F => ss F rfl rfl fun a F => ss F rfl rfl fun a F => sp F (p_pick (t := false) rfl rfl) rfl rfl fun a F => sp F (p_assign rfl) rfl rfl fun a F => c_nil (hK6 _ _ (?_))
          try clear hK6 K6
          refine wp_ret (r_then (ret1 F rfl rfl (?_)))
          exact ⟨congrArg Ending.returned (show Value.bool false = .bool (decide (clashB x y = true)) from by first | exact vbf (fun h => c24 ((clash_gt c6 c10 c17).1 h).1) | exact vbf (fun h => c44 ((clash_lt c6 c10 c36).1 h).1) | exact vbf (clash_no c17 c36) | exact vbf (fun h => c10 (clash_iff.1 h).1.2) | exact vbf (fun h => c6 (clash_iff.1 h).1.1)), O⟩
      · have F := F.setB (d := 17) rfl (decide_eq_false c17)
        refine c_iff F rfl (wp_skip (hK4 _ _ (?_)))
        try clear hK4 K4
        refine c_seq fun K6 hK6 => c_region (sp F (p_move rfl) rfl rfl fun a F => sp F (p_len_b rfl Tryd.underlying9) rfl rfl fun a F => sp F (p_move rfl) rfl rfl fun a F => sp F (p_len_b rfl Tryd.underlying9) rfl rfl fun a F => sp F (p_lss rfl rfl) rfl rfl fun a F => sp F (p_move rfl) rfl rfl fun a F => ?_)
        by_cases c36 : (x.length : Int) < (y.length : Int)
        · have F := F.setB (d := 35) rfl (decide_eq_true c36)
          have F := F.setB (d := 36) rfl (decide_eq_true c36)
          refine sp F (p_move rfl) rfl rfl fun a F => sp F (p_move rfl) rfl rfl fun a F => sp F (p_len_b rfl Tryd.underlying9) rfl rfl fun a F => sp F (p_sto rfl rfl Tryd.underlying9 (by omega) (by omega)) rfl rfl fun a F => sp F (p_move rfl) rfl rfl fun a F => sp F (p_seq rfl rfl) rfl rfl fun a F => sp F (p_pick (t := true) rfl rfl) rfl rfl fun a F => sp F (p_move rfl) rfl rfl fun a F => ?_
          by_cases c44 : (y.take ((x.length : Int) : Int).toNat) = x
          · have F := F.setB (d := 42) rfl (decide_eq_true c44)
            have F := F.setB (d := 43) rfl (decide_eq_true c44)
            have F := F.setB (d := 44) rfl (decide_eq_true c44)
            refine sp F (p_move rfl) rfl rfl fun a F => sp F (p_move rfl) rfl rfl fun a F => sp F (p_len_b rfl Tryd.underlying9) rfl rfl fun a F => sp F (p_index rfl rfl Tryd.underlying9 (by omega) (by omega)) rfl rfl fun a F => sp F (p_eql rfl rfl) rfl rfl fun a F => sp F (p_pick (t := true) rfl rfl) rfl rfl fun a F => sp F (p_assign rfl) rfl rfl fun a F => c_nil (hK6 _ _ (?_))
            try clear hK6 K6
            refine wp_ret (ret1 F rfl rfl (?_))
            exact ⟨congrArg Ending.returned (show Value.bool (decide ((byteAt y (x.length : Int)) = 47)) = .bool (decide (clashB x y = true)) from by first | exact vbi ⟨fun h => (clash_gt c6 c10 c17).2 ⟨c24, h⟩, fun h => ((clash_gt c6 c10 c17).1 h).2⟩ | exact vbi ⟨fun h => (clash_lt c6 c10 c36).2 ⟨c44, h⟩, fun h => ((clash_lt c6 c10 c36).1 h).2⟩), O⟩
          · have F := F.setB (d := 42) rfl (decide_eq_false c44)
            have F := F.setB (d := 43) rfl (decide_eq_false c44)
            have F := F.setB (d := 44) rfl (decide_eq_false c44)
            refine ss F rfl rfl fun a F => ss F rfl rfl fun a F => ss F rfl rfl fun a F => ss F rfl rfl fun a F => ss F rfl rfl fun a F => sp F (p_pick (t := false) rfl rfl) rfl rfl fun a F => sp F (p_assign rfl) rfl rfl fun a F => c_nil (hK6 _ _ (?_))
            try clear hK6 K6
            refine wp_ret (ret1 F rfl rfl (?_))
            exact ⟨congrArg Ending.returned (show Value.bool false = .bool (decide (clashB x y = true)) from by first | exact vbf (fun h => c24 ((clash_gt c6 c10 c17).1 h).1) | exact vbf (fun h => c44 ((clash_lt c6 c10 c36).1 h).1) | exact vbf (clash_no c17 c36) | exact vbf (fun h => c10 (clash_iff.1 h).1.2) | exact vbf (fun h => c6 (clash_iff.1 h).1.1)), O⟩
        · have F := F.setB (d := 35) rfl (decide_eq_false c36)
          have F := F.setB (d := 36) rfl (decide_eq_false c36)
          refine ss F rfl rfl fun a F => ss F rfl rfl fun a F => ss F rfl rfl fun a F => ss F rfl rfl fun a F => ss F rfl rfl fun a F => ss F rfl rfl fun a F => sp F (p_pick (t := false) rfl rfl) rfl rfl fun a F => sp F (p_move rfl) rfl rfl fun a F => ss F rfl rfl fun a F => ss F rfl rfl fun a F => ss F rfl rfl fun a F => ss F rfl rfl fun a F => ss F rfl rfl fun a F => ?_
          refine sp F (p_pick (t := false) rfl rfl) rfl rfl fun a F => sp F (p_assign rfl) rfl rfl fun a F => c_nil (hK6 _ _ (?_))
          try clear hK6 K6
          refine wp_ret (ret1 F rfl rfl (?_))
          exact ⟨congrArg Ending.returned (show Value.bool false = .bool (decide (clashB x y = true)) from by first | exact vbf (fun h => c24 ((clash_gt c6 c10 c17).1 h).1) | exact vbf (fun h => c44 ((clash_lt c6 c10 c36).1 h).1) | exact vbf (clash_no c17 c36) | exact vbf (fun h => c10 (clash_iff.1 h).1.2) | exact vbf (fun h => c6 (clash_iff.1 h).1.1)), O⟩
    · have F := F.setB (d := 10) rfl (decide_eq_false c10)
      refine sp F (p_not rfl) rfl rfl fun a F => sp F (p_pick (t := false) rfl rfl) rfl rfl fun a F => c_nil (hK3 _ _ (?_))
      try clear hK3 K3
      refine c_ift F rfl (c_seq fun K4 hK4 => c_region (sp F (p_assign rfl) rfl rfl fun a F => c_nil (hK4 _ _ (?_))))
      try clear hK4 K4
      refine wp_ret (r_then (ret1 F rfl rfl (?_)))
      exact ⟨congrArg Ending.returned (show Value.bool false = .bool (decide (clashB x y = true)) from by first | exact vbf (fun h => c24 ((clash_gt c6 c10 c17).1 h).1) | exact vbf (fun h => c44 ((clash_lt c6 c10 c36).1 h).1) | exact vbf (clash_no c17 c36) | exact vbf (fun h => c10 (clash_iff.1 h).1.2) | exact vbf (fun h => c6 (clash_iff.1 h).1.1)), O⟩
  · have F := F.setB (d := 6) rfl (decide_eq_false c6)
    refine sp F (p_not rfl) rfl rfl fun a F => sp F (p_move rfl) rfl rfl fun a F => ss F rfl rfl fun a F => ss F rfl rfl fun a F => ss F rfl rfl fun a F => sp F (p_pick (t := true) rfl rfl) rfl rfl fun a F => c_nil (hK3 _ _ (?_))
    try clear hK3 K3
    refine c_ift F rfl (c_seq fun K4 hK4 => c_region (sp F (p_assign rfl) rfl rfl fun a F => c_nil (hK4 _ _ (?_))))
    try clear hK4 K4
    refine wp_ret (r_then (ret1 F rfl rfl (?_)))
    exact ⟨congrArg Ending.returned (show Value.bool false = .bool (decide (clashB x y = true)) from by first | exact vbf (fun h => c24 ((clash_gt c6 c10 c17).1 h).1) | exact vbf (fun h => c44 ((clash_lt c6 c10 c36).1 h).1) | exact vbf (clash_no c17 c36) | exact vbf (fun h => c10 (clash_iff.1 h).1.2) | exact vbf (fun h => c6 (clash_iff.1 h).1.1)), O⟩

end Go.Proofs.YtjmnnogpinggmaaDoor
