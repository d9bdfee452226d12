/- Contracts of the functions that take locks. No conditions but those on lengths, and what the program's one error variable holds. -/
import Derived.Test.YtilpbddeijolbaaDoorRefC
namespace Go.Proofs.YtilpbddeijolbaaDoor
open Go.ChangeShapes Go.WideShapes Go.ChangeAt Go.RowKit
set_option linter.unusedVariables false
set_option linter.unusedSimpArgs false

set_option maxRecDepth 100000 in
/-- slices.Clone[[]int,int] -/
theorem clone_ok (A : Option Addr) (n : Nat) (c : Nat) (es : List (Int)) (w0 : World) (hA : Arr w0 encInt 1 A es) (hn : (n : Int) = es.length) (hb : (n : Int) ≤ 1048600) (hp : 0 < es.length) :
    Calls Tryd.prog 26 #[.slice A n c] w0 fun e w => ∃ (P : Option Addr), ∃ (N : Nat), ∃ (C : Nat), e = .returned (.slice P N C) ∧ ((N : Int) = es.length) ∧ ((N : Int) ≤ 1048600) ∧ Own w0 [] [.row 3 1 (.slice P N C) N (es.flatMap encInt)] w := by
  have O := Own.start w0
  refine enterO (n := 8) Tryd.func26 rfl rfl rfl O fun a w F O => ?_
  obtain ⟨b900, o900, hp900, hb900, hc900⟩ := Arr.out hA (by exact hp)
  have hA900 := hA; rw [hp900] at hA900 F
  refine c_seq fun K1 hK1 => c_region (sp F (p_assign rfl) rfl rfl fun a F => c_nil (hK1 _ _ (?_)))
  try clear hK1 K1
  refine c_seq fun K2 hK2 => c_seq fun K3 hK3 => c_region (sp F (p_move rfl) rfl rfl fun a F => sp F (p_eqnilF rfl Tryd.underlying22) rfl rfl fun a F => c_nil (hK3 _ _ (?_)))
  try clear hK3 K3
  refine c_iff F rfl (wp_skip (hK2 _ _ (?_)))
  try clear hK2 K2
  refine c_seq fun K4 hK4 => c_region (so F rfl (o_bslice (cs := []) F O rfl Tryd.underlying22 Tryd.sz_3 Tryd.zero_3 rfl rfl rfl fun b5 w O a F => ?_))
  have O : Own w0 [] [.cells b5 [] 3] w := O
  refine sp F (p_move rfl) rfl rfl fun a F => ?_
  have O := O.asRow 0 (q := 0) (sz := 1) rfl rfl (by unfold maxLen; omega)
  have O : Own w0 [] [.row 3 1 (.slice (some ⟨b5, 0, none⟩) 0 0) 0 ([])] w := O
  refine so F rfl (o_appendX F O rfl rfl Tryd.underlying22 Tryd.elem_3 (by decide) 0 rfl (hA900.keep O) ⟨_, _, rfl⟩ encInt_len (by first | omega | (simp; omega)) (fun _ => rfl) (by unfold maxLen; omega) (by omega) rfl fun p7 k7 w O a F => ?_)
  have hst : ([]) ++ (es).flatMap encInt = (es).flatMap encInt := by simp
  have O := O.setR 0 rfl (congrArg (Res.row 3 1 (.slice p7 (0 + n) k7) (0 + n)) hst)
  have O : Own w0 [] [.row 3 1 (.slice p7 (0 + n) k7) (0 + n) ((es).flatMap encInt)] w := O
  refine sp F (p_assign rfl) rfl rfl fun a F => c_nil (hK4 _ _ (?_))
  try clear hK4 K4
  refine wp_ret (ret1 F rfl rfl (?_))
  have O := O.setR 0 rfl (show Res.row 3 1 (.slice p7 (0 + n) k7) (0 + n) ((es).flatMap encInt) = .row 3 1 (.slice p7 (0 + n) k7) (0 + n) (es.flatMap encInt) from by simp <;> omega)
  have O : Own w0 [] [.row 3 1 (.slice p7 (0 + n) k7) (0 + n) (es.flatMap encInt)] w := O
  exact ⟨p7, (0 + n), k7, rfl, by first | assumption | omega, by first | assumption | omega, O⟩

set_option maxRecDepth 100000 in
/-- spec.l12Take -/
theorem l12Take_ok (A : Option Addr) (n : Nat) (c : Nat) (es : List (Int)) (t : Int) (A2 : Option Addr) (n2 : Nat) (c2 : Nat) (es2 : List (Int × Int × Int)) (w0 : World) (hA : Arr w0 encInt 1 A es) (hn : (n : Int) = es.length) (hb : (n : Int) ≤ 1048600) (hA2 : Arr w0 encUp 3 A2 es2) (hn2 : (n2 : Int) = es2.length) (hb2 : (n2 : Int) ≤ 1048600) (h4 : es.length = 4) (hU : upsB es2 = true) :
    Calls Tryd.prog 22 #[.slice A n c, .int .i64 (t), .slice A2 n2 c2] w0 fun e w => ∃ (P : Option Addr), ∃ (N : Nat), ∃ (C : Nat), e = .returned (.tuple #[.slice P N C, .bool (decide (FreeAll es es2 = true))]) ∧ ((N : Int) = (l12L es t es2).length) ∧ ((N : Int) ≤ 1048600) ∧ Own w0 [] [.row 3 1 (.slice P N C) N ((l12L es t es2).flatMap encInt)] w := by
  have O := Own.start w0
  refine enterO (n := 40) Tryd.func22 rfl rfl rfl O fun a w F O => ?_
  obtain ⟨b900, o900, hp900, hb900, hc900⟩ := Arr.out hA (by omega)
  have hA900 := hA; rw [hp900] at hA900 F
  refine c_seq fun K1 hK1 => c_region (sp F (p_assign rfl) rfl rfl fun a F => sp F (p_assign rfl) rfl rfl fun a F => c_nil (hK1 _ _ (?_)))
  try clear hK1 K1
  refine c_seq fun K2 hK2 => c_region (so F rfl (o_bslice (cs := []) F O rfl Tryd.underlying22 Tryd.sz_3 Tryd.zero_3 rfl rfl rfl fun b10 w O a F => ?_))
  have O : Own w0 [] [.cells b10 [] 3] w := O
  refine sp F (p_move rfl) rfl rfl fun a F => ?_
  have O := O.asRow 0 (q := 0) (sz := 1) rfl rfl (by unfold maxLen; omega)
  have O : Own w0 [] [.row 3 1 (.slice (some ⟨b10, 0, none⟩) 0 0) 0 ([])] w := O
  refine so F rfl (o_appendX F O rfl rfl Tryd.underlying22 Tryd.elem_3 (by decide) 0 rfl (hA900.keep O) ⟨_, _, rfl⟩ encInt_len (by first | omega | (simp; omega)) (fun _ => rfl) (by unfold maxLen; omega) (by omega) rfl fun p12 k12 w O a F => ?_)
  have hst : ([]) ++ (es).flatMap encInt = (es).flatMap encInt := by simp
  have O := O.setR 0 rfl (congrArg (Res.row 3 1 (.slice p12 (0 + n) k12) (0 + n)) hst)
  have O : Own w0 [] [.row 3 1 (.slice p12 (0 + n) k12) (0 + n) ((es).flatMap encInt)] w := O
  refine sp F (p_assign rfl) rfl rfl fun a F => c_nil (hK2 _ _ (?_))
  try clear hK2 K2
  refine c_seq fun K3 hK3 => c_seq fun K4 hK4 => c_region (sp F (p_assign rfl) rfl rfl fun a F => c_nil (hK4 _ _ (?_)))
  try clear hK4 K4
  refine wp_block (?_)
  refine c_loop (fun mm a w => ∃ (k : Int), ∃ (L1 : List Int), mm = ((n2 : Int) - k).toNat ∧ Has 40 [(0, .slice (some ⟨b900, o900, none⟩) n c), (1, .int .i64 (t)), (2, .slice A2 n2 c2), (8, .slice p12 (0 + n) k12), (9, .int .i64 (k))] a ∧ Own w0 [] [.row 3 1 (.slice p12 (0 + n) k12) (0 + n) (L1.flatMap encInt)] w ∧ (0 ≤ k) ∧ (k ≤ n2) ∧ ((L1.length : Int) = 4) ∧ (L1 = takeL t es (es2.take (k : Int).toNat)) ∧ (FAllTo k es es2)) ?_ ?_
  · have F : Has 40 [(0, .slice (some ⟨b900, o900, none⟩) n c), (1, .int .i64 (t)), (2, .slice A2 n2 c2), (8, .slice p12 (0 + n) k12), (9, .int .i64 (0))] a := F.pick ⟨rfl, rfl, rfl, rfl, rfl, trivial⟩
    have O := O.setR 0 rfl (show Res.row 3 1 (.slice p12 (0 + n) k12) (0 + n) ((es).flatMap encInt) = .row 3 1 (.slice p12 (0 + n) k12) (0 + n) (es.flatMap encInt) from by simp <;> omega)
    have O : Own w0 [] [.row 3 1 (.slice p12 (0 + n) k12) (0 + n) (es.flatMap encInt)] w := O
    exact ⟨((n2 : Int) - 0).toNat, 0, es, rfl, F, O, by first | assumption | omega, by first | assumption | omega, by first | assumption | omega, by rfl, by exact fall_zero⟩
  · rintro mm a w ⟨k, L1, rfl, F, O, hi0a, hi0b, hi0c, hi0d, hi0e⟩
    refine c_seq fun K5 hK5 => c_seq fun K6 hK6 => c_region (sp F (p_move rfl) rfl rfl fun a F => sp F (p_move rfl) rfl rfl fun a F => sp F (p_len_l rfl Tryd.underlying28) rfl rfl fun a F => sp F (p_lss rfl rfl) rfl rfl fun a F => c_nil (hK6 _ _ (?_)))
    try clear hK6 K6
    by_cases c16 : k < (n2 : Int)
    · have F := F.setB (d := 16) rfl (decide_eq_true c16)
      refine c_ift F rfl (wp_skip (hK5 _ _ (?_)))
      try clear hK5 K5
      refine c_seq fun K7 hK7 => wp_block (c_seq fun K8 hK8 => c_seq fun K9 hK9 => c_region (sp F (p_move rfl) rfl rfl fun a F => sp F (p_move rfl) rfl rfl fun a F => sp F (p_move rfl) rfl rfl fun a F => ?_))
      obtain ⟨b22, o22, hp22, hb22, hc22⟩ := Arr.out hA2 (by omega)
      have hA22 := hA2; rw [hp22] at hA22 F
      obtain ⟨e22, he22⟩ := get_some (l := es2) (i := k) (by omega) (by first | omega | (simp; omega))
      have hup22 := upB_iff.1 (upsB_up hU he22)
      refine sp F (p_iaddr rfl rfl Tryd.underlying28 Tryd.sz_39 (by omega) (by omega)) rfl rfl fun a F => sp F (p_faddr rfl Tryd.foff_39_0) rfl rfl fun a F => sp F (p_load rfl Tryd.agg_3 (fun _ h => (ld1 (((O.old hb22 (by simp)).trans (hc22 _ _ he22 0 _ rfl))) h))) rfl rfl fun a F => ?_
      obtain ⟨e25, he25⟩ := get_some (l := es) (i := e22.1) (by omega) (by first | omega | (simp; omega))
      refine sp F (p_iaddr rfl rfl Tryd.underlying22 Tryd.sz_3 (by omega) (by omega)) rfl rfl fun a F => sp F (p_load rfl Tryd.agg_3 (fun _ h => (ld1 (((O.old hb900 (by simp)).trans (hc900 _ _ he25 0 _ rfl))) h))) rfl rfl fun a F => sp F (p_neq rfl rfl) rfl rfl fun a F => c_nil (hK9 _ _ (?_))
      try clear hK9 K9
      by_cases c27 : e25 = (-1)
      · have F := F.setB (d := 27) rfl (decide_eq_false (fun h => h c27))
        refine c_iff F rfl (wp_skip (hK8 _ _ (?_)))
        try clear hK8 K8
        refine c_region (sp F (p_move rfl) rfl rfl fun a F => sp F (p_move rfl) rfl rfl fun a F => sp F (p_move rfl) rfl rfl fun a F => ?_)
        have hup22 := upB_iff.1 (upsB_up hU he22)
        refine sp F (p_iaddr rfl rfl Tryd.underlying28 Tryd.sz_39 (by omega) (by omega)) rfl rfl fun a F => sp F (p_faddr rfl Tryd.foff_39_0) rfl rfl fun a F => sp F (p_load rfl Tryd.agg_3 (fun _ h => (ld1 (((O.old hb22 (by simp)).trans (hc22 _ _ he22 0 _ rfl))) h))) rfl rfl fun a F => sp F (p_move rfl) rfl rfl fun a F => ?_
        obtain ⟨b38, hp38⟩ := O.rowSome 0 rfl (by omega)
        rw [hp38] at O
        try rw [hp38] at F
        obtain ⟨e38, he38⟩ := get_some (l := L1) (i := e22.1) (by omega) (by first | omega | (simp; omega))
        refine sp F (p_iaddr rfl rfl Tryd.underlying22 Tryd.sz_3 (by omega) (by omega)) rfl rfl fun a F => so F rfl (o_storeRow F O rfl rfl Tryd.sz_3 rfl rfl 0 rfl (by rw [flat_len encInt_len]; first | omega | (simp; omega)) fun w O => ?_)
        have hst : (L1.flatMap encInt).set (0 + (e22.1 : Int).toNat * 1) (.int .i64 (t)) = (L1.set (e22.1 : Int).toNat t).flatMap encInt := flat_set encInt_len he38 (j := 0) rfl (by decide)
        have O := O.setR 0 rfl (congrArg (Res.row 3 1 (.slice (some ⟨b38, 0, none⟩) (0 + n) k12) (0 + n)) hst)
        have O : Own w0 [] [.row 3 1 (.slice (some ⟨b38, 0, none⟩) (0 + n) k12) (0 + n) ((L1.set (e22.1 : Int).toNat t).flatMap encInt)] w := O
        refine c_nil (hK7 _ _ (?_))
        try clear hK7 K7
        refine c_region (sp F (p_move rfl) rfl rfl fun a F => sp F (p_add rfl rfl (by omega) (by omega)) rfl rfl fun a F => sp F (p_assign rfl) rfl rfl fun a F => c_nil (?_))
        try rw [← hp38] at F
        try rw [← hp38] at O
        try rw [← hp22] at F
        try rw [← hp22] at O
        have F : Has 40 [(0, .slice (some ⟨b900, o900, none⟩) n c), (1, .int .i64 (t)), (2, .slice A2 n2 c2), (8, .slice p12 (0 + n) k12), (9, .int .i64 (k + 1))] a := F.pick ⟨rfl, rfl, rfl, rfl, rfl, trivial⟩
        exact ⟨((n2 : Int) - (k + 1)).toNat, by omega, (k + 1), (L1.set (e22.1 : Int).toNat t), rfl, F, O, by first | assumption | omega, by first | assumption | omega, by first | omega | (simp; omega), by rw [takeL_step hi0a he22, ← hi0d], by exact fall_step hi0e hi0a he22 (by rw [getD_of he25]; exact c27)⟩
      · have F := F.setB (d := 27) rfl (decide_eq_true c27)
        refine c_ift F rfl (c_seq fun K10 hK10 => c_region (so F rfl (o_bslice (cs := []) F O rfl Tryd.underlying22 Tryd.sz_3 Tryd.zero_3 rfl rfl rfl fun b28 w O a F => ?_)))
        have O : Own w0 [] [.cells b28 [] 3, .row 3 1 (.slice p12 (0 + n) k12) (0 + n) (L1.flatMap encInt)] w := O
        refine sp F (p_move rfl) rfl rfl fun a F => ?_
        have O := O.asRow 0 (q := 0) (sz := 1) rfl rfl (by unfold maxLen; omega)
        have O : Own w0 [] [.row 3 1 (.slice (some ⟨b28, 0, none⟩) 0 0) 0 ([]), .row 3 1 (.slice p12 (0 + n) k12) (0 + n) (L1.flatMap encInt)] w := O
        refine so F rfl (o_appendX F O rfl rfl Tryd.underlying22 Tryd.elem_3 (by decide) 0 rfl (hA900.keep O) ⟨_, _, rfl⟩ encInt_len (by first | omega | (simp; omega)) (fun _ => rfl) (by unfold maxLen; omega) (by omega) rfl fun p30 k30 w O a F => ?_)
        have hst : ([]) ++ (es).flatMap encInt = (es).flatMap encInt := by simp
        have O := O.setR 0 rfl (congrArg (Res.row 3 1 (.slice p30 (0 + n) k30) (0 + n)) hst)
        have O : Own w0 [] [.row 3 1 (.slice p30 (0 + n) k30) (0 + n) ((es).flatMap encInt), .row 3 1 (.slice p12 (0 + n) k12) (0 + n) (L1.flatMap encInt)] w := O
        refine sp F (p_assign rfl) rfl rfl fun a F => sp F (p_assign rfl) rfl rfl fun a F => c_nil (hK10 _ _ (?_))
        try clear hK10 K10
        refine wp_ret (r_then (r_block (r_then (r_then (r_block (r_then (ret2 F rfl rfl rfl (?_))))))))
        have O := O.setR 0 rfl (show Res.row 3 1 (.slice p30 (0 + n) k30) (0 + n) ((es).flatMap encInt) = .row 3 1 (.slice p30 (0 + n) k30) (0 + n) ((l12L es t es2).flatMap encInt) from by rw [l12L_busy (fall_not he22 he25 c27)])
        have O : Own w0 [] [.row 3 1 (.slice p30 (0 + n) k30) (0 + n) ((l12L es t es2).flatMap encInt), .row 3 1 (.slice p12 (0 + n) k12) (0 + n) (L1.flatMap encInt)] w := O
        have O : Own w0 [] [.row 3 1 (.slice p30 (0 + n) k30) (0 + n) ((l12L es t es2).flatMap encInt)] w := (O.take 1)
        exact ⟨p30, (0 + n), k30, congrArg Ending.returned (show Value.tuple #[.slice p30 (0 + n) k30, .bool false] = .tuple #[.slice p30 (0 + n) k30, .bool (decide (FreeAll es es2 = true))] from by rw [show decide (FreeAll es es2 = true) = false from decide_eq_false (by rw [fall_not he22 he25 c27]; decide)]), by first | omega | (rw [l12L_len]; omega), by first | assumption | omega, O⟩
    · have F := F.setB (d := 16) rfl (decide_eq_false c16)
      refine c_iff F rfl (wp_exit (e_then (e_then (e_here (hK3 _ _ (?_))))))
      try clear hK3 K3
      refine c_seq fun K7 hK7 => ?_
      obtain rfl : L1 = l12L es t es2 := by rw [l12L_free (fall_of hi0e (by omega)), hi0d, take_all (by omega)]
      refine c_region (sp F (p_move rfl) rfl rfl fun a F => sp F (p_assign rfl) rfl rfl fun a F => sp F (p_assign rfl) rfl rfl fun a F => c_nil (hK7 _ _ (?_)))
      try clear hK7 K7
      refine wp_ret (ret2 F rfl rfl rfl (?_))
      exact ⟨p12, (0 + n), k12, congrArg Ending.returned (show Value.tuple #[.slice p12 (0 + n) k12, .bool true] = .tuple #[.slice p12 (0 + n) k12, .bool (decide (FreeAll es es2 = true))] from by rw [show decide (FreeAll es es2 = true) = true from decide_eq_true (fall_of hi0e (by omega))]), by first | omega | (rw [l12L_len]; omega), by first | assumption | omega, O⟩

set_option maxRecDepth 100000 in
/-- impl.lock -/
theorem lock_free (b : Nat) (n : Nat) (c : Nat) (es : List Int) (t : Int) (A2 : Option Addr) (n2 : Nat) (c2 : Nat) (es2 : List (Int × Int × Int)) (a0 : Addr) (w0 : World) (hn : (n : Int) = es.length) (hA2 : Arr w0 encUp 3 A2 es2) (hn2 : (n2 : Int) = es2.length) (hb2 : (n2 : Int) ≤ 1048600) (h4 : es.length = 4) (hU : upsB es2 = true) (hap : Apart A2 b) (hF : FreeAll es es2 = true) (hne : ¬ 0 = b) (hl_0 : 0 < w0.heap.size) (hm_0_0 : w0.cell? ⟨0, 0, none⟩ = some (.iface 78 (.pointer (some a0)))) (O : Own w0 [b] [.row 3 1 (.slice (some ⟨b, 0, none⟩) n c) n (es.flatMap encInt)] w0) :
    Calls Tryd.prog 28 #[.slice (some ⟨b, 0, none⟩) n c, .int .i64 (t), .slice A2 n2 c2] w0 fun e w => e = .returned (.nilIface) ∧ Own w0 [b] [.row 3 1 (.slice (some ⟨b, 0, none⟩) n c) n ((takeL t es es2).flatMap encInt)] w := by
  refine enterO (n := 37) Tryd.func28 rfl rfl rfl O fun a w F O => ?_
  refine c_seq fun K1 hK1 => c_region (sp F (p_assign rfl) rfl rfl fun a F => c_nil (hK1 _ _ (?_)))
  try clear hK1 K1
  refine c_seq fun K2 hK2 => c_seq fun K3 hK3 => c_region (sp F (p_move rfl) rfl rfl fun a F => sp F (p_len_l rfl Tryd.underlying28) rfl rfl fun a F => sp F (p_move rfl) rfl rfl fun a F => c_nil (hK3 _ _ (?_)))
  try clear hK3 K3
  refine wp_block (?_)
  refine c_loop (fun mm a w => ∃ (k : Int), mm = ((n2 : Int) - k).toNat ∧ Has 37 [(0, .slice (some ⟨b, 0, none⟩) n c), (1, .int .i64 (t)), (2, .slice A2 n2 c2), (11, .slice A2 n2 c2), (12, .int .i64 ((n2 : Int))), (13, .int .i64 (k))] a ∧ Own w0 [b] [.row 3 1 (.slice (some ⟨b, 0, none⟩) n c) n (es.flatMap encInt)] w ∧ (0 ≤ k) ∧ (k ≤ n2) ∧ (FAllTo k es es2)) ?_ ?_
  · have F : Has 37 [(0, .slice (some ⟨b, 0, none⟩) n c), (1, .int .i64 (t)), (2, .slice A2 n2 c2), (11, .slice A2 n2 c2), (12, .int .i64 ((n2 : Int))), (13, .int .i64 (0))] a := F.pick ⟨rfl, rfl, rfl, rfl, rfl, rfl, trivial⟩
    exact ⟨((n2 : Int) - 0).toNat, 0, rfl, F, O, by first | assumption | omega, by first | assumption | omega, by exact fall_zero⟩
  · rintro mm a w ⟨k, rfl, F, O, hi0a, hi0b, hi0c⟩
    refine c_seq fun K4 hK4 => c_region (sp F (p_lss rfl rfl) rfl rfl fun a F => c_nil (hK4 _ _ (?_)))
    try clear hK4 K4
    refine c_seq fun K5 hK5 => ?_
    by_cases c14 : k < (n2 : Int)
    · have F := F.setB (d := 14) rfl (decide_eq_true c14)
      refine c_ift F rfl (wp_skip (hK5 _ _ (?_)))
      try clear hK5 K5
      refine c_seq fun K6 hK6 => wp_block (c_seq fun K7 hK7 => c_region (?_))
      obtain ⟨b15, o15, hp15, hb15, hc15⟩ := Arr.out hA2 (by omega)
      have hx15 := hap _ _ hp15
      have hap15 := hap; rw [hp15] at hap15
      have hA15 := hA2; rw [hp15] at hA15 F
      obtain ⟨e15, he15⟩ := get_some (l := es2) (i := k) (by omega) (by first | omega | (simp; omega))
      have hup15 := upB_iff.1 (upsB_up hU he15)
      refine sp F (p_iaddr rfl rfl Tryd.underlying28 Tryd.sz_39 (by omega) (by omega)) rfl rfl fun a F => sp F (p_loadC (cs := [.int .i64 (e15.1), .int .i64 (e15.2.1), .int .i64 (e15.2.2)]) rfl Tryd.agg_39 Tryd.sz_39 (fun _ h => (CA.cons (ld1 (((O.old hb15 (by simpa using hx15)).trans (hc15 _ _ he15 0 _ rfl))) h) (CA.cons (ld1 (((O.old hb15 (by simpa using hx15)).trans (hc15 _ _ he15 1 _ rfl))) h) (CA.cons (ld1 (((O.old hb15 (by simpa using hx15)).trans (hc15 _ _ he15 2 _ rfl))) h) CA.nil))))) rfl rfl fun a F => so F rfl (o_alloc F O Tryd.zero_39 rfl fun b8 w O a F => ?_)
      have O : Own w0 [b] [.cells b8 [.int .i64 (0), .int .i64 (0), .int .i64 (0)] 39, .row 3 1 (.slice (some ⟨b, 0, none⟩) n c) n (es.flatMap encInt)] w := O
      refine so F rfl (o_storeA (vs := [.int .i64 (e15.1), .int .i64 (e15.2.1), .int .i64 (e15.2.2)]) F O rfl rfl Tryd.sz_39 (by simp [Value.oneCell']) 0 rfl rfl fun w O => ?_)
      have O : Own w0 [b] [.cells b8 [.int .i64 (e15.1), .int .i64 (e15.2.1), .int .i64 (e15.2.2)] 39, .row 3 1 (.slice (some ⟨b, 0, none⟩) n c) n (es.flatMap encInt)] w := O
      refine c_nil (hK7 _ _ (?_))
      try clear hK7 K7
      refine c_seq fun K8 hK8 => c_region (sp F (p_move rfl) rfl rfl fun a F => sp F (p_faddr rfl Tryd.foff_39_0) rfl rfl fun a F => sp F (p_load rfl Tryd.agg_3 (fun _ h => (ld1 (O.load 0 rfl rfl) h))) rfl rfl fun a F => ?_)
      obtain ⟨e20, he20⟩ := get_some (l := es) (i := e15.1) (by omega) (by first | omega | (simp; omega))
      refine sp F (p_iaddr rfl rfl Tryd.underlying22 Tryd.sz_3 (by omega) (by omega)) rfl rfl fun a F => sp F (p_load rfl Tryd.agg_3 (fun _ h => (ld1 ((O.loadRow 1 rfl (flat_get0 encInt_len he20 rfl))) h))) rfl rfl fun a F => sp F (p_neq rfl rfl) rfl rfl fun a F => ?_
      have c22 : e20 = (-1) := by have h9 := fall_get hF he15; rw [getD_of he20] at h9; exact h9
      have F := F.setB (d := 22) rfl (decide_eq_false (fun h => h c22))
      refine c_nil (hK8 _ _ (?_))
      try clear hK8 K8
      refine c_iff F rfl (wp_skip (hK6 _ _ (?_)))
      try clear hK6 K6
      refine c_region (sp F (p_add rfl rfl (by omega) (by omega)) rfl rfl fun a F => sp F (p_move rfl) rfl rfl fun a F => c_nil (?_))
      try rw [← hp15] at F
      try rw [← hp15] at O
      have F : Has 37 [(0, .slice (some ⟨b, 0, none⟩) n c), (1, .int .i64 (t)), (2, .slice A2 n2 c2), (11, .slice A2 n2 c2), (12, .int .i64 ((n2 : Int))), (13, .int .i64 (k + 1))] a := F.pick ⟨rfl, rfl, rfl, rfl, rfl, rfl, trivial⟩
      have O : Own w0 [b] [.row 3 1 (.slice (some ⟨b, 0, none⟩) n c) n (es.flatMap encInt)] w := ((O.pull 1 rfl).take 1)
      exact ⟨((n2 : Int) - (k + 1)).toNat, by omega, (k + 1), rfl, F, O, by first | assumption | omega, by first | assumption | omega, by exact fall_step hi0c hi0a he15 (by rw [getD_of he20]; exact c22)⟩
    · have F := F.setB (d := 14) rfl (decide_eq_false c14)
      refine c_iff F rfl (wp_exit (e_then (e_then (e_here (hK2 _ _ (?_))))))
      try clear hK2 K2
      refine c_seq fun K6 hK6 => c_seq fun K7 hK7 => c_region (sp F (p_move rfl) rfl rfl fun a F => sp F (p_len_l rfl Tryd.underlying28) rfl rfl fun a F => sp F (p_move rfl) rfl rfl fun a F => c_nil (hK7 _ _ (?_)))
      try clear hK7 K7
      refine wp_block (?_)
      refine c_loop (fun mm a w => ∃ (j : Int), ∃ (L1 : List Int), mm = ((n2 : Int) - j).toNat ∧ Has 37 [(0, .slice (some ⟨b, 0, none⟩) n c), (1, .int .i64 (t)), (2, .slice A2 n2 c2), (11, .slice A2 n2 c2), (12, .int .i64 ((n2 : Int))), (13, .int .i64 (k)), (14, .bool false), (25, .slice A2 n2 c2), (26, .int .i64 ((n2 : Int))), (27, .int .i64 (j))] a ∧ Own w0 [b] [.row 3 1 (.slice (some ⟨b, 0, none⟩) n c) n (L1.flatMap encInt)] w ∧ (0 ≤ j) ∧ (j ≤ n2) ∧ ((L1.length : Int) = 4) ∧ (L1 = takeL t es (es2.take (j : Int).toNat))) ?_ ?_
      · have F : Has 37 [(0, .slice (some ⟨b, 0, none⟩) n c), (1, .int .i64 (t)), (2, .slice A2 n2 c2), (11, .slice A2 n2 c2), (12, .int .i64 ((n2 : Int))), (13, .int .i64 (k)), (14, .bool false), (25, .slice A2 n2 c2), (26, .int .i64 ((n2 : Int))), (27, .int .i64 (0))] a := F.pick ⟨rfl, rfl, rfl, rfl, rfl, rfl, rfl, rfl, rfl, rfl, trivial⟩
        exact ⟨((n2 : Int) - 0).toNat, 0, es, rfl, F, O, by first | assumption | omega, by first | assumption | omega, by first | assumption | omega, by rfl⟩
      · rintro mm a w ⟨j, L1, rfl, F, O, hi2a, hi2b, hi2c, hi2d⟩
        refine c_seq fun K8 hK8 => c_region (sp F (p_lss rfl rfl) rfl rfl fun a F => c_nil (hK8 _ _ (?_)))
        try clear hK8 K8
        refine c_seq fun K9 hK9 => ?_
        by_cases c28 : j < (n2 : Int)
        · have F := F.setB (d := 28) rfl (decide_eq_true c28)
          refine c_ift F rfl (wp_skip (hK9 _ _ (?_)))
          try clear hK9 K9
          refine c_seq fun K10 hK10 => wp_block (c_seq fun K11 hK11 => c_region (?_))
          obtain ⟨b29, o29, hp29, hb29, hc29⟩ := Arr.out hA2 (by omega)
          have hx29 := hap _ _ hp29
          have hap29 := hap; rw [hp29] at hap29
          have hA29 := hA2; rw [hp29] at hA29 F
          obtain ⟨e29, he29⟩ := get_some (l := es2) (i := j) (by omega) (by first | omega | (simp; omega))
          have hup29 := upB_iff.1 (upsB_up hU he29)
          refine sp F (p_iaddr rfl rfl Tryd.underlying28 Tryd.sz_39 (by omega) (by omega)) rfl rfl fun a F => sp F (p_loadC (cs := [.int .i64 (e29.1), .int .i64 (e29.2.1), .int .i64 (e29.2.2)]) rfl Tryd.agg_39 Tryd.sz_39 (fun _ h => (CA.cons (ld1 (((O.old hb29 (by simpa using hx29)).trans (hc29 _ _ he29 0 _ rfl))) h) (CA.cons (ld1 (((O.old hb29 (by simpa using hx29)).trans (hc29 _ _ he29 1 _ rfl))) h) (CA.cons (ld1 (((O.old hb29 (by simpa using hx29)).trans (hc29 _ _ he29 2 _ rfl))) h) CA.nil))))) rfl rfl fun a F => so F rfl (o_alloc F O Tryd.zero_39 rfl fun b10 w O a F => ?_)
          have O : Own w0 [b] [.cells b10 [.int .i64 (0), .int .i64 (0), .int .i64 (0)] 39, .row 3 1 (.slice (some ⟨b, 0, none⟩) n c) n (L1.flatMap encInt)] w := O
          refine so F rfl (o_storeA (vs := [.int .i64 (e29.1), .int .i64 (e29.2.1), .int .i64 (e29.2.2)]) F O rfl rfl Tryd.sz_39 (by simp [Value.oneCell']) 0 rfl rfl fun w O => ?_)
          have O : Own w0 [b] [.cells b10 [.int .i64 (e29.1), .int .i64 (e29.2.1), .int .i64 (e29.2.2)] 39, .row 3 1 (.slice (some ⟨b, 0, none⟩) n c) n (L1.flatMap encInt)] w := O
          refine c_nil (hK11 _ _ (?_))
          try clear hK11 K11
          refine c_region (sp F (p_move rfl) rfl rfl fun a F => sp F (p_faddr rfl Tryd.foff_39_0) rfl rfl fun a F => sp F (p_load rfl Tryd.agg_3 (fun _ h => (ld1 (O.load 0 rfl rfl) h))) rfl rfl fun a F => sp F (p_move rfl) rfl rfl fun a F => ?_)
          obtain ⟨e35, he35⟩ := get_some (l := L1) (i := e29.1) (by omega) (by first | omega | (simp; omega))
          refine sp F (p_iaddr rfl rfl Tryd.underlying22 Tryd.sz_3 (by omega) (by omega)) rfl rfl fun a F => so F rfl (o_storeRow F O rfl rfl Tryd.sz_3 rfl rfl 1 rfl (by rw [flat_len encInt_len]; first | omega | (simp; omega)) fun w O => ?_)
          have hst : (L1.flatMap encInt).set (0 + (e29.1 : Int).toNat * 1) (.int .i64 (t)) = (L1.set (e29.1 : Int).toNat t).flatMap encInt := flat_set encInt_len he35 (j := 0) rfl (by decide)
          have O := O.setR 1 rfl (congrArg (Res.row 3 1 (.slice (some ⟨b, 0, none⟩) n c) n) hst)
          have O : Own w0 [b] [.cells b10 [.int .i64 (e29.1), .int .i64 (e29.2.1), .int .i64 (e29.2.2)] 39, .row 3 1 (.slice (some ⟨b, 0, none⟩) n c) n ((L1.set (e29.1 : Int).toNat t).flatMap encInt)] w := O
          refine c_nil (hK10 _ _ (?_))
          try clear hK10 K10
          refine c_region (sp F (p_add rfl rfl (by omega) (by omega)) rfl rfl fun a F => sp F (p_move rfl) rfl rfl fun a F => c_nil (?_))
          try rw [← hp29] at F
          try rw [← hp29] at O
          have F : Has 37 [(0, .slice (some ⟨b, 0, none⟩) n c), (1, .int .i64 (t)), (2, .slice A2 n2 c2), (11, .slice A2 n2 c2), (12, .int .i64 ((n2 : Int))), (13, .int .i64 (k)), (14, .bool false), (25, .slice A2 n2 c2), (26, .int .i64 ((n2 : Int))), (27, .int .i64 (j + 1))] a := F.pick ⟨rfl, rfl, rfl, rfl, rfl, rfl, rfl, rfl, rfl, rfl, trivial⟩
          have O : Own w0 [b] [.row 3 1 (.slice (some ⟨b, 0, none⟩) n c) n ((L1.set (e29.1 : Int).toNat t).flatMap encInt)] w := ((O.pull 1 rfl).take 1)
          exact ⟨((n2 : Int) - (j + 1)).toNat, by omega, (j + 1), (L1.set (e29.1 : Int).toNat t), rfl, F, O, by first | assumption | omega, by first | assumption | omega, by first | omega | (simp; omega), by rw [takeL_step hi2a he29, ← hi2d]⟩
        · have F := F.setB (d := 28) rfl (decide_eq_false c28)
          refine c_iff F rfl (wp_exit (e_then (e_then (e_here (hK6 _ _ (?_))))))
          try clear hK6 K6
          refine c_seq fun K10 hK10 => ?_
          obtain rfl : L1 = (takeL t es es2) := by rw [hi2d, take_all (by omega)]
          refine c_region (sp F (p_assign rfl) rfl rfl fun a F => c_nil (hK10 _ _ (?_)))
          try clear hK10 K10
          refine wp_ret (ret1 F rfl rfl (?_))
          have O := O.setR 0 rfl (show Res.row 3 1 (.slice (some ⟨b, 0, none⟩) n c) n (((takeL t es es2)).flatMap encInt) = .row 3 1 (.slice (some ⟨b, 0, none⟩) n c) n ((takeL t es es2).flatMap encInt) from by simp <;> omega)
          have O : Own w0 [b] [.row 3 1 (.slice (some ⟨b, 0, none⟩) n c) n ((takeL t es es2).flatMap encInt)] w := O
          exact ⟨rfl, O⟩

set_option maxRecDepth 100000 in
/-- impl.lock -/
theorem lock_busy (b : Nat) (n : Nat) (c : Nat) (es : List Int) (t : Int) (A2 : Option Addr) (n2 : Nat) (c2 : Nat) (es2 : List (Int × Int × Int)) (a0 : Addr) (w0 : World) (hn : (n : Int) = es.length) (hA2 : Arr w0 encUp 3 A2 es2) (hn2 : (n2 : Int) = es2.length) (hb2 : (n2 : Int) ≤ 1048600) (h4 : es.length = 4) (hU : upsB es2 = true) (hap : Apart A2 b) (hF : FreeAll es es2 = false) (hne : ¬ 0 = b) (hl_0 : 0 < w0.heap.size) (hm_0_0 : w0.cell? ⟨0, 0, none⟩ = some (.iface 78 (.pointer (some a0)))) (O : Own w0 [b] [.row 3 1 (.slice (some ⟨b, 0, none⟩) n c) n (es.flatMap encInt)] w0) :
    Calls Tryd.prog 28 #[.slice (some ⟨b, 0, none⟩) n c, .int .i64 (t), .slice A2 n2 c2] w0 fun e w => e = .returned (.iface 78 (.pointer (some a0))) ∧ Own w0 [b] [.row 3 1 (.slice (some ⟨b, 0, none⟩) n c) n (es.flatMap encInt)] w := by
  refine enterO (n := 37) Tryd.func28 rfl rfl rfl O fun a w F O => ?_
  refine c_seq fun K1 hK1 => c_region (sp F (p_assign rfl) rfl rfl fun a F => c_nil (hK1 _ _ (?_)))
  try clear hK1 K1
  refine c_seq fun K2 hK2 => c_seq fun K3 hK3 => c_region (sp F (p_move rfl) rfl rfl fun a F => sp F (p_len_l rfl Tryd.underlying28) rfl rfl fun a F => sp F (p_move rfl) rfl rfl fun a F => c_nil (hK3 _ _ (?_)))
  try clear hK3 K3
  refine wp_block (?_)
  refine c_loop (fun mm a w => ∃ (k : Int), mm = ((n2 : Int) - k).toNat ∧ Has 37 [(0, .slice (some ⟨b, 0, none⟩) n c), (1, .int .i64 (t)), (2, .slice A2 n2 c2), (11, .slice A2 n2 c2), (12, .int .i64 ((n2 : Int))), (13, .int .i64 (k))] a ∧ Own w0 [b] [.row 3 1 (.slice (some ⟨b, 0, none⟩) n c) n (es.flatMap encInt)] w ∧ (0 ≤ k) ∧ (k ≤ n2) ∧ (FAllTo k es es2)) ?_ ?_
  · have F : Has 37 [(0, .slice (some ⟨b, 0, none⟩) n c), (1, .int .i64 (t)), (2, .slice A2 n2 c2), (11, .slice A2 n2 c2), (12, .int .i64 ((n2 : Int))), (13, .int .i64 (0))] a := F.pick ⟨rfl, rfl, rfl, rfl, rfl, rfl, trivial⟩
    exact ⟨((n2 : Int) - 0).toNat, 0, rfl, F, O, by first | assumption | omega, by first | assumption | omega, by exact fall_zero⟩
  · rintro mm a w ⟨k, rfl, F, O, hi0a, hi0b, hi0c⟩
    refine c_seq fun K4 hK4 => c_region (sp F (p_lss rfl rfl) rfl rfl fun a F => c_nil (hK4 _ _ (?_)))
    try clear hK4 K4
    refine c_seq fun K5 hK5 => ?_
    by_cases c14 : k < (n2 : Int)
    · have F := F.setB (d := 14) rfl (decide_eq_true c14)
      refine c_ift F rfl (wp_skip (hK5 _ _ (?_)))
      try clear hK5 K5
      refine c_seq fun K6 hK6 => wp_block (c_seq fun K7 hK7 => c_region (?_))
      obtain ⟨b15, o15, hp15, hb15, hc15⟩ := Arr.out hA2 (by omega)
      have hx15 := hap _ _ hp15
      have hap15 := hap; rw [hp15] at hap15
      have hA15 := hA2; rw [hp15] at hA15 F
      obtain ⟨e15, he15⟩ := get_some (l := es2) (i := k) (by omega) (by first | omega | (simp; omega))
      have hup15 := upB_iff.1 (upsB_up hU he15)
      refine sp F (p_iaddr rfl rfl Tryd.underlying28 Tryd.sz_39 (by omega) (by omega)) rfl rfl fun a F => sp F (p_loadC (cs := [.int .i64 (e15.1), .int .i64 (e15.2.1), .int .i64 (e15.2.2)]) rfl Tryd.agg_39 Tryd.sz_39 (fun _ h => (CA.cons (ld1 (((O.old hb15 (by simpa using hx15)).trans (hc15 _ _ he15 0 _ rfl))) h) (CA.cons (ld1 (((O.old hb15 (by simpa using hx15)).trans (hc15 _ _ he15 1 _ rfl))) h) (CA.cons (ld1 (((O.old hb15 (by simpa using hx15)).trans (hc15 _ _ he15 2 _ rfl))) h) CA.nil))))) rfl rfl fun a F => so F rfl (o_alloc F O Tryd.zero_39 rfl fun b8 w O a F => ?_)
      have O : Own w0 [b] [.cells b8 [.int .i64 (0), .int .i64 (0), .int .i64 (0)] 39, .row 3 1 (.slice (some ⟨b, 0, none⟩) n c) n (es.flatMap encInt)] w := O
      refine so F rfl (o_storeA (vs := [.int .i64 (e15.1), .int .i64 (e15.2.1), .int .i64 (e15.2.2)]) F O rfl rfl Tryd.sz_39 (by simp [Value.oneCell']) 0 rfl rfl fun w O => ?_)
      have O : Own w0 [b] [.cells b8 [.int .i64 (e15.1), .int .i64 (e15.2.1), .int .i64 (e15.2.2)] 39, .row 3 1 (.slice (some ⟨b, 0, none⟩) n c) n (es.flatMap encInt)] w := O
      refine c_nil (hK7 _ _ (?_))
      try clear hK7 K7
      refine c_seq fun K8 hK8 => c_region (sp F (p_move rfl) rfl rfl fun a F => sp F (p_faddr rfl Tryd.foff_39_0) rfl rfl fun a F => sp F (p_load rfl Tryd.agg_3 (fun _ h => (ld1 (O.load 0 rfl rfl) h))) rfl rfl fun a F => ?_)
      obtain ⟨e20, he20⟩ := get_some (l := es) (i := e15.1) (by omega) (by first | omega | (simp; omega))
      refine sp F (p_iaddr rfl rfl Tryd.underlying22 Tryd.sz_3 (by omega) (by omega)) rfl rfl fun a F => sp F (p_load rfl Tryd.agg_3 (fun _ h => (ld1 ((O.loadRow 1 rfl (flat_get0 encInt_len he20 rfl))) h))) rfl rfl fun a F => sp F (p_neq rfl rfl) rfl rfl fun a F => c_nil (hK8 _ _ (?_))
      try clear hK8 K8
      by_cases c22 : e20 = (-1)
      · have F := F.setB (d := 22) rfl (decide_eq_false (fun h => h c22))
        refine c_iff F rfl (wp_skip (hK6 _ _ (?_)))
        try clear hK6 K6
        refine c_region (sp F (p_add rfl rfl (by omega) (by omega)) rfl rfl fun a F => sp F (p_move rfl) rfl rfl fun a F => c_nil (?_))
        try rw [← hp15] at F
        try rw [← hp15] at O
        have F : Has 37 [(0, .slice (some ⟨b, 0, none⟩) n c), (1, .int .i64 (t)), (2, .slice A2 n2 c2), (11, .slice A2 n2 c2), (12, .int .i64 ((n2 : Int))), (13, .int .i64 (k + 1))] a := F.pick ⟨rfl, rfl, rfl, rfl, rfl, rfl, trivial⟩
        have O : Own w0 [b] [.row 3 1 (.slice (some ⟨b, 0, none⟩) n c) n (es.flatMap encInt)] w := ((O.pull 1 rfl).take 1)
        exact ⟨((n2 : Int) - (k + 1)).toNat, by omega, (k + 1), rfl, F, O, by first | assumption | omega, by first | assumption | omega, by exact fall_step hi0c hi0a he15 (by rw [getD_of he20]; exact c22)⟩
      · have F := F.setB (d := 22) rfl (decide_eq_true c22)
        refine c_ift F rfl (c_seq fun K9 hK9 => c_region (sp F (p_load rfl Tryd.agg_48 (fun _ h => (ld1 (((O.old hl_0 (by simpa using hne)).trans hm_0_0)) h))) rfl rfl fun a F => sp F (p_assign rfl) rfl rfl fun a F => c_nil (hK9 _ _ (?_))))
        try clear hK9 K9
        refine wp_ret (r_block (r_then (r_then (r_block (r_then (ret1 F rfl rfl (?_)))))))
        have O : Own w0 [b] [.row 3 1 (.slice (some ⟨b, 0, none⟩) n c) n (es.flatMap encInt)] w := ((O.pull 1 rfl).take 1)
        exact ⟨rfl, O⟩
    · have F := F.setB (d := 14) rfl (decide_eq_false c14)
      refine c_iff F rfl (wp_exit (e_then (e_then (e_here (hK2 _ _ (?_))))))
      try clear hK2 K2
      refine c_seq fun K6 hK6 => c_seq fun K7 hK7 => ?_
      exact absurd (fall_of hi0c (by omega)) (by rw [hF]; decide)

set_option maxRecDepth 100000 in
/-- spec.LocksTake -/
theorem sLocksTake_ok (A : Option Addr) (n : Nat) (c : Nat) (es : List (Int)) (t : Int) (A2 : Option Addr) (n2 : Nat) (c2 : Nat) (es2 : List (Int × Int × Int)) (w0 : World) (hA : Arr w0 encInt 1 A es) (hn : (n : Int) = es.length) (hb : (n : Int) ≤ 1048600) (hA2 : Arr w0 encUp 3 A2 es2) (hn2 : (n2 : Int) = es2.length) (hb2 : (n2 : Int) ≤ 1048600) :
    Calls Tryd.prog 7 #[.slice A n c, .int .i64 (t), .slice A2 n2 c2] w0 fun e w => ∃ (P : Option Addr), ∃ (N : Nat), ∃ (C : Nat), e = .returned (.tuple #[.slice P N C, .bool (decide ((((es.length = 4 ∧ okIn (-1) (11) es = true) ∧ (0 ≤ t ∧ t ≤ 11)) ∧ (0 < es2.length ∧ upsB es2 = true)) ∧ FreeAll es es2 = true))]) ∧ ((N : Int) = (LT es t es2).length) ∧ ((N : Int) ≤ 1048600) ∧ Own w0 [] [.row 3 1 (.slice P N C) N ((LT es t es2).flatMap encInt)] w := by
  have O := Own.start w0
  refine enterO (n := 28) Tryd.func7 rfl rfl rfl O fun a w F O => ?_
  refine c_seq fun K1 hK1 => c_region (sp F (p_assign rfl) rfl rfl fun a F => sp F (p_assign rfl) rfl rfl fun a F => c_nil (hK1 _ _ (?_)))
  try clear hK1 K1
  refine c_seq fun K2 hK2 => c_seq fun K3 hK3 => c_region (sp F (p_move rfl) rfl rfl fun a F => so F rfl (o_call (vs := #[.slice A n c]) F Tryd.en_19 rfl rfl ((sLocksValid_ok A n c es w (hA.keep O) (by first | omega | (simp; done) | (simp; omega) | (simp at *; omega)) (by omega)).mono ?_)))
  rintro e w ⟨rfl, K⟩
  refine ⟨_, rfl, fun a F => ?_⟩
  have O : Own w0 [] [] w := O.call0 K
  clear K
  have O : Own w0 [] [] w := O
  by_cases c9 : es.length = 4 ∧ okIn (-1) (11) es = true
  · have F := F.setB (d := 9) rfl (decide_eq_true c9)
    refine sp F (p_not rfl) rfl rfl fun a F => sp F (p_move rfl) rfl rfl fun a F => sp F (p_move rfl) rfl rfl fun a F => so F rfl (o_call (vs := #[.int .i64 (t)]) F Tryd.en_20 rfl rfl ((l12Txn_ok t w).mono ?_))
    rintro e w ⟨rfl, K⟩
    refine ⟨_, rfl, fun a F => ?_⟩
    have O : Own w0 [] [] w := O.call0 K
    clear K
    have O : Own w0 [] [] w := O
    by_cases c13 : 0 ≤ t ∧ t ≤ 11
    · have F := F.setB (d := 13) rfl (decide_eq_true c13)
      refine sp F (p_not rfl) rfl rfl fun a F => sp F (p_pick (t := false) rfl rfl) rfl rfl fun a F => sp F (p_move rfl) rfl rfl fun a F => sp F (p_move rfl) rfl rfl fun a F => so F rfl (o_call (vs := #[.slice A2 n2 c2]) F Tryd.en_21 rfl rfl ((sUpdatesValid_ok A2 n2 c2 es2 w (hA2.keep O) (by first | omega | (simp; done) | (simp; omega) | (simp at *; omega)) (by omega)).mono ?_))
      rintro e w ⟨rfl, K⟩
      refine ⟨_, rfl, fun a F => ?_⟩
      have O : Own w0 [] [] w := O.call0 K
      clear K
      have O : Own w0 [] [] w := O
      by_cases c18 : 0 < es2.length ∧ upsB es2 = true
      · have F := F.setB (d := 18) rfl (decide_eq_true c18)
        refine sp F (p_not rfl) rfl rfl fun a F => sp F (p_pick (t := false) rfl rfl) rfl rfl fun a F => c_nil (hK3 _ _ (?_))
        try clear hK3 K3
        refine c_iff F rfl (wp_skip (hK2 _ _ (?_)))
        try clear hK2 K2
        refine c_seq fun K4 hK4 => c_region (sp F (p_move rfl) rfl rfl fun a F => sp F (p_move rfl) rfl rfl fun a F => sp F (p_move rfl) rfl rfl fun a F => so F rfl (o_call (vs := #[.slice A n c, .int .i64 (t), .slice A2 n2 c2]) F Tryd.en_22 rfl rfl ((l12Take_ok A n c es t A2 n2 c2 es2 w (hA.keep O) (by first | omega | (simp; done) | (simp; omega) | (simp at *; omega)) (by omega) (hA2.keep O) (by first | omega | (simp; done) | (simp; omega) | (simp at *; omega)) (by omega) (by omega) (by first | assumption | exact c19.2 | exact c18.2)).mono ?_)))
        rintro e w ⟨P25, N25, C25, rfl, h25a, h25b, K⟩
        refine ⟨_, rfl, fun a F => ?_⟩
        have O : Own w0 [] [.row 3 1 (.slice P25 N25 C25) N25 ((l12L es t es2).flatMap encInt)] w := O.call0 K
        clear K
        have O : Own w0 [] [.row 3 1 (.slice P25 N25 C25) N25 ((l12L es t es2).flatMap encInt)] w := O
        refine sp F (p_extract rfl rfl) rfl rfl fun a F => sp F (p_extract rfl rfl) rfl rfl fun a F => sp F (p_assign rfl) rfl rfl fun a F => sp F (p_assign rfl) rfl rfl fun a F => c_nil (hK4 _ _ (?_))
        try clear hK4 K4
        refine wp_ret (ret2 F rfl rfl rfl (?_))
        have O := O.setR 0 rfl (show Res.row 3 1 (.slice P25 N25 C25) N25 ((l12L es t es2).flatMap encInt) = .row 3 1 (.slice P25 N25 C25) N25 ((LT es t es2).flatMap encInt) from by first | (rw [LT_bad (by first | exact fun h => c9 h.1.1 | exact fun h => c13 h.1.2 | exact fun h => c18 h.2)]; first | rfl | done) | (rw [LT_ok ⟨⟨c9, c13⟩, c18⟩]; first | done | rw [l12L_free cs4] | rw [l12L_busy (Bool.eq_false_iff.2 cs4)]))
        have O : Own w0 [] [.row 3 1 (.slice P25 N25 C25) N25 ((LT es t es2).flatMap encInt)] w := O
        exact ⟨P25, N25, C25, congrArg Ending.returned (show Value.tuple #[.slice P25 N25 C25, .bool (decide (FreeAll es es2 = true))] = .tuple #[.slice P25 N25 C25, .bool (decide ((((es.length = 4 ∧ okIn (-1) (11) es = true) ∧ (0 ≤ t ∧ t ≤ 11)) ∧ (0 < es2.length ∧ upsB es2 = true)) ∧ FreeAll es es2 = true))] from by rw [show decide ((((es.length = 4 ∧ okIn (-1) (11) es = true) ∧ (0 ≤ t ∧ t ≤ 11)) ∧ (0 < es2.length ∧ upsB es2 = true)) ∧ FreeAll es es2 = true) = decide (FreeAll es es2 = true) from decide_eq_decide.2 ⟨fun h => h.2, fun h => ⟨⟨⟨c9, c13⟩, c18⟩, h⟩⟩]), by first | (rw [LT_bad (by first | exact fun h => c9 h.1.1 | exact fun h => c13 h.1.2 | exact fun h => c18 h.2)]; rfl) | (rw [LT_ok ⟨⟨c9, c13⟩, c18⟩]; first | omega | (rw [l12L_len]; omega)), by first | assumption | omega, O⟩
      · have F := F.setB (d := 18) rfl (decide_eq_false c18)
        refine sp F (p_not rfl) rfl rfl fun a F => sp F (p_pick (t := false) rfl rfl) rfl rfl fun a F => c_nil (hK3 _ _ (?_))
        try clear hK3 K3
        refine c_ift F rfl (c_seq fun K4 hK4 => c_region (so F rfl (o_bslice (cs := []) F O rfl Tryd.underlying22 Tryd.sz_3 Tryd.zero_3 rfl rfl rfl fun b21 w O a F => ?_)))
        have O : Own w0 [] [.cells b21 [] 3] w := O
        refine sp F (p_assign rfl) rfl rfl fun a F => sp F (p_assign rfl) rfl rfl fun a F => c_nil (hK4 _ _ (?_))
        try clear hK4 K4
        refine wp_ret (r_then (ret2 F rfl rfl rfl (?_)))
        have O := O.asRow 0 (q := 0) (sz := 1) rfl rfl (by unfold maxLen; omega)
        have O : Own w0 [] [.row 3 1 (.slice (some ⟨b21, 0, none⟩) 0 0) 0 ([])] w := O
        have O := O.setR 0 rfl (show Res.row 3 1 (.slice (some ⟨b21, 0, none⟩) 0 0) 0 ([]) = .row 3 1 (.slice (some ⟨b21, 0, none⟩) 0 0) 0 ((LT es t es2).flatMap encInt) from by first | (rw [LT_bad (by first | exact fun h => c9 h.1.1 | exact fun h => c13 h.1.2 | exact fun h => c18 h.2)]; first | rfl | done) | (rw [LT_ok ⟨⟨c9, c13⟩, c18⟩]; first | done | rw [l12L_free cs4] | rw [l12L_busy (Bool.eq_false_iff.2 cs4)]))
        have O : Own w0 [] [.row 3 1 (.slice (some ⟨b21, 0, none⟩) 0 0) 0 ((LT es t es2).flatMap encInt)] w := O
        exact ⟨(some ⟨b21, 0, none⟩), 0, 0, congrArg Ending.returned (show Value.tuple #[.slice (some ⟨b21, 0, none⟩) 0 0, .bool false] = .tuple #[.slice (some ⟨b21, 0, none⟩) 0 0, .bool (decide ((((es.length = 4 ∧ okIn (-1) (11) es = true) ∧ (0 ≤ t ∧ t ≤ 11)) ∧ (0 < es2.length ∧ upsB es2 = true)) ∧ FreeAll es es2 = true))] from by rw [show decide ((((es.length = 4 ∧ okIn (-1) (11) es = true) ∧ (0 ≤ t ∧ t ≤ 11)) ∧ (0 < es2.length ∧ upsB es2 = true)) ∧ FreeAll es es2 = true) = false from decide_eq_false (by first | exact fun h => cs4 h.2 | (intro h; exact absurd h.1 (by first | exact fun h => c9 h.1.1 | exact fun h => c13 h.1.2 | exact fun h => c18 h.2)))]), by first | (rw [LT_bad (by first | exact fun h => c9 h.1.1 | exact fun h => c13 h.1.2 | exact fun h => c18 h.2)]; rfl) | (rw [LT_ok ⟨⟨c9, c13⟩, c18⟩]; first | omega | (rw [l12L_len]; omega)), by first | assumption | omega, O⟩
    · have F := F.setB (d := 13) rfl (decide_eq_false c13)
      refine sp F (p_not rfl) rfl rfl fun a F => sp F (p_pick (t := false) rfl rfl) rfl rfl fun a F => sp F (p_move rfl) rfl rfl fun a F => ss F rfl rfl fun a F => ss F rfl rfl fun a F => ss F rfl rfl fun a F => sp F (p_pick (t := true) rfl rfl) rfl rfl fun a F => c_nil (hK3 _ _ (?_))
      try clear hK3 K3
      refine c_ift F rfl (c_seq fun K4 hK4 => c_region (so F rfl (o_bslice (cs := []) F O rfl Tryd.underlying22 Tryd.sz_3 Tryd.zero_3 rfl rfl rfl fun b21 w O a F => ?_)))
      have O : Own w0 [] [.cells b21 [] 3] w := O
      refine sp F (p_assign rfl) rfl rfl fun a F => sp F (p_assign rfl) rfl rfl fun a F => c_nil (hK4 _ _ (?_))
      try clear hK4 K4
      refine wp_ret (r_then (ret2 F rfl rfl rfl (?_)))
      have O := O.asRow 0 (q := 0) (sz := 1) rfl rfl (by unfold maxLen; omega)
      have O : Own w0 [] [.row 3 1 (.slice (some ⟨b21, 0, none⟩) 0 0) 0 ([])] w := O
      have O := O.setR 0 rfl (show Res.row 3 1 (.slice (some ⟨b21, 0, none⟩) 0 0) 0 ([]) = .row 3 1 (.slice (some ⟨b21, 0, none⟩) 0 0) 0 ((LT es t es2).flatMap encInt) from by first | (rw [LT_bad (by first | exact fun h => c9 h.1.1 | exact fun h => c13 h.1.2 | exact fun h => c18 h.2)]; first | rfl | done) | (rw [LT_ok ⟨⟨c9, c13⟩, c18⟩]; first | done | rw [l12L_free cs4] | rw [l12L_busy (Bool.eq_false_iff.2 cs4)]))
      have O : Own w0 [] [.row 3 1 (.slice (some ⟨b21, 0, none⟩) 0 0) 0 ((LT es t es2).flatMap encInt)] w := O
      exact ⟨(some ⟨b21, 0, none⟩), 0, 0, congrArg Ending.returned (show Value.tuple #[.slice (some ⟨b21, 0, none⟩) 0 0, .bool false] = .tuple #[.slice (some ⟨b21, 0, none⟩) 0 0, .bool (decide ((((es.length = 4 ∧ okIn (-1) (11) es = true) ∧ (0 ≤ t ∧ t ≤ 11)) ∧ (0 < es2.length ∧ upsB es2 = true)) ∧ FreeAll es es2 = true))] from by rw [show decide ((((es.length = 4 ∧ okIn (-1) (11) es = true) ∧ (0 ≤ t ∧ t ≤ 11)) ∧ (0 < es2.length ∧ upsB es2 = true)) ∧ FreeAll es es2 = true) = false from decide_eq_false (by first | exact fun h => cs4 h.2 | (intro h; exact absurd h.1 (by first | exact fun h => c9 h.1.1 | exact fun h => c13 h.1.2 | exact fun h => c18 h.2)))]), by first | (rw [LT_bad (by first | exact fun h => c9 h.1.1 | exact fun h => c13 h.1.2 | exact fun h => c18 h.2)]; rfl) | (rw [LT_ok ⟨⟨c9, c13⟩, c18⟩]; first | omega | (rw [l12L_len]; omega)), by first | assumption | omega, O⟩
  · have F := F.setB (d := 9) rfl (decide_eq_false c9)
    refine sp F (p_not rfl) rfl rfl fun a F => sp F (p_move rfl) rfl rfl fun a F => ss F rfl rfl fun a F => ss F rfl rfl fun a F => ss F rfl rfl fun a F => sp F (p_pick (t := true) rfl rfl) rfl rfl fun a F => sp F (p_move rfl) rfl rfl fun a F => ss F rfl rfl fun a F => ss F rfl rfl fun a F => ss F rfl rfl fun a F => sp F (p_pick (t := true) rfl rfl) rfl rfl fun a F => c_nil (hK3 _ _ (?_))
    try clear hK3 K3
    refine c_ift F rfl (c_seq fun K4 hK4 => c_region (so F rfl (o_bslice (cs := []) F O rfl Tryd.underlying22 Tryd.sz_3 Tryd.zero_3 rfl rfl rfl fun b21 w O a F => ?_)))
    have O : Own w0 [] [.cells b21 [] 3] w := O
    refine sp F (p_assign rfl) rfl rfl fun a F => sp F (p_assign rfl) rfl rfl fun a F => c_nil (hK4 _ _ (?_))
    try clear hK4 K4
    refine wp_ret (r_then (ret2 F rfl rfl rfl (?_)))
    have O := O.asRow 0 (q := 0) (sz := 1) rfl rfl (by unfold maxLen; omega)
    have O : Own w0 [] [.row 3 1 (.slice (some ⟨b21, 0, none⟩) 0 0) 0 ([])] w := O
    have O := O.setR 0 rfl (show Res.row 3 1 (.slice (some ⟨b21, 0, none⟩) 0 0) 0 ([]) = .row 3 1 (.slice (some ⟨b21, 0, none⟩) 0 0) 0 ((LT es t es2).flatMap encInt) from by first | (rw [LT_bad (by first | exact fun h => c9 h.1.1 | exact fun h => c13 h.1.2 | exact fun h => c18 h.2)]; first | rfl | done) | (rw [LT_ok ⟨⟨c9, c13⟩, c18⟩]; first | done | rw [l12L_free cs4] | rw [l12L_busy (Bool.eq_false_iff.2 cs4)]))
    have O : Own w0 [] [.row 3 1 (.slice (some ⟨b21, 0, none⟩) 0 0) 0 ((LT es t es2).flatMap encInt)] w := O
    exact ⟨(some ⟨b21, 0, none⟩), 0, 0, congrArg Ending.returned (show Value.tuple #[.slice (some ⟨b21, 0, none⟩) 0 0, .bool false] = .tuple #[.slice (some ⟨b21, 0, none⟩) 0 0, .bool (decide ((((es.length = 4 ∧ okIn (-1) (11) es = true) ∧ (0 ≤ t ∧ t ≤ 11)) ∧ (0 < es2.length ∧ upsB es2 = true)) ∧ FreeAll es es2 = true))] from by rw [show decide ((((es.length = 4 ∧ okIn (-1) (11) es = true) ∧ (0 ≤ t ∧ t ≤ 11)) ∧ (0 < es2.length ∧ upsB es2 = true)) ∧ FreeAll es es2 = true) = false from decide_eq_false (by first | exact fun h => cs4 h.2 | (intro h; exact absurd h.1 (by first | exact fun h => c9 h.1.1 | exact fun h => c13 h.1.2 | exact fun h => c18 h.2)))]), by first | (rw [LT_bad (by first | exact fun h => c9 h.1.1 | exact fun h => c13 h.1.2 | exact fun h => c18 h.2)]; rfl) | (rw [LT_ok ⟨⟨c9, c13⟩, c18⟩]; first | omega | (rw [l12L_len]; omega)), by first | assumption | omega, O⟩

set_option maxRecDepth 100000 in
/-- impl.LocksTake -/
theorem iLocksTake_ok (A : Option Addr) (n : Nat) (c : Nat) (es : List (Int)) (t : Int) (A2 : Option Addr) (n2 : Nat) (c2 : Nat) (es2 : List (Int × Int × Int)) (a0 : Addr) (w0 : World) (hA : Arr w0 encInt 1 A es) (hn : (n : Int) = es.length) (hb : (n : Int) ≤ 1048600) (hA2 : Arr w0 encUp 3 A2 es2) (hn2 : (n2 : Int) = es2.length) (hb2 : (n2 : Int) ≤ 1048600) (hl_0 : 0 < w0.heap.size) (hm_0_0 : w0.cell? ⟨0, 0, none⟩ = some (.iface 78 (.pointer (some a0)))) :
    Calls Tryd.prog 10 #[.slice A n c, .int .i64 (t), .slice A2 n2 c2] w0 fun e w => ∃ (P : Option Addr), ∃ (N : Nat), ∃ (C : Nat), e = .returned (.tuple #[.slice P N C, .bool (decide ((((es.length = 4 ∧ okIn (-1) (11) es = true) ∧ (0 ≤ t ∧ t ≤ 11)) ∧ (0 < es2.length ∧ upsB es2 = true)) ∧ FreeAll es es2 = true))]) ∧ ((N : Int) = (LT es t es2).length) ∧ ((N : Int) ≤ 1048600) ∧ Own w0 [] [.row 3 1 (.slice P N C) N ((LT es t es2).flatMap encInt)] w := by
  have O := Own.start w0
  refine enterO (n := 32) Tryd.func10 rfl rfl rfl O fun a w F O => ?_
  refine c_seq fun K1 hK1 => c_region (sp F (p_assign rfl) rfl rfl fun a F => sp F (p_assign rfl) rfl rfl fun a F => c_nil (hK1 _ _ (?_)))
  try clear hK1 K1
  refine c_seq fun K2 hK2 => c_seq fun K3 hK3 => c_region (sp F (p_move rfl) rfl rfl fun a F => so F rfl (o_call (vs := #[.slice A n c]) F Tryd.en_18 rfl rfl ((iLocksValid_ok A n c es w (hA.keep O) (by first | omega | (simp; done) | (simp; omega) | (simp at *; omega)) (by omega)).mono ?_)))
  rintro e w ⟨rfl, K⟩
  refine ⟨_, rfl, fun a F => ?_⟩
  have O : Own w0 [] [] w := O.call0 K
  clear K
  have O : Own w0 [] [] w := O
  by_cases c10 : es.length = 4 ∧ okIn (-1) (11) es = true
  · have F := F.setB (d := 10) rfl (decide_eq_true c10)
    refine sp F (p_not rfl) rfl rfl fun a F => sp F (p_move rfl) rfl rfl fun a F => sp F (p_move rfl) rfl rfl fun a F => so F rfl (o_call (vs := #[.int .i64 (t)]) F Tryd.en_24 rfl rfl ((isTxn_ok t w).mono ?_))
    rintro e w ⟨rfl, K⟩
    refine ⟨_, rfl, fun a F => ?_⟩
    have O : Own w0 [] [] w := O.call0 K
    clear K
    have O : Own w0 [] [] w := O
    by_cases c14 : 0 ≤ t ∧ t ≤ 11
    · have F := F.setB (d := 14) rfl (decide_eq_true c14)
      refine sp F (p_not rfl) rfl rfl fun a F => sp F (p_pick (t := false) rfl rfl) rfl rfl fun a F => sp F (p_move rfl) rfl rfl fun a F => sp F (p_move rfl) rfl rfl fun a F => so F rfl (o_call (vs := #[.slice A2 n2 c2]) F Tryd.en_25 rfl rfl ((iUpdatesValid_ok A2 n2 c2 es2 w (hA2.keep O) (by first | omega | (simp; done) | (simp; omega) | (simp at *; omega)) (by omega)).mono ?_))
      rintro e w ⟨rfl, K⟩
      refine ⟨_, rfl, fun a F => ?_⟩
      have O : Own w0 [] [] w := O.call0 K
      clear K
      have O : Own w0 [] [] w := O
      by_cases c19 : 0 < es2.length ∧ upsB es2 = true
      · have F := F.setB (d := 19) rfl (decide_eq_true c19)
        refine sp F (p_not rfl) rfl rfl fun a F => sp F (p_pick (t := false) rfl rfl) rfl rfl fun a F => c_nil (hK3 _ _ (?_))
        try clear hK3 K3
        refine c_iff F rfl (wp_skip (hK2 _ _ (?_)))
        try clear hK2 K2
        refine c_seq fun K4 hK4 => c_region (sp F (p_move rfl) rfl rfl fun a F => so F rfl (o_call (vs := #[.slice A n c]) F Tryd.en_26 rfl rfl ((clone_ok A n c es w (hA.keep O) (by first | omega | (simp; done) | (simp; omega) | (simp at *; omega)) (by omega) (by first | omega | (simp; done) | (simp; omega) | (simp at *; omega))).mono ?_)))
        rintro e w ⟨P23, N23, C23, rfl, h23a, h23b, K⟩
        refine ⟨_, rfl, fun a F => ?_⟩
        have O : Own w0 [] [.row 3 1 (.slice P23 N23 C23) N23 (es.flatMap encInt)] w := O.call0 K
        clear K
        have O : Own w0 [] [.row 3 1 (.slice P23 N23 C23) N23 (es.flatMap encInt)] w := O
        refine sp F (p_assign rfl) rfl rfl fun a F => c_nil (hK4 _ _ (?_))
        try clear hK4 K4
        refine c_seq fun K5 hK5 => ?_
        by_cases cs4 : FreeAll es es2 = true
        · obtain ⟨b28, hp28⟩ := O.rowSome 0 rfl (by omega)
          rw [hp28] at O
          try rw [hp28] at F
          refine c_draw Tryd.mixed (SC [(0, 0, .iface 78 (.pointer (some a0)))]) [] _ (fun a w h => h) ?_
          have O := O.drawn (w.drawn + 1)
          generalize { w with drawn := w.drawn + 1 } = w at O ⊢
          have hS : SC [(0, 0, .iface 78 (.pointer (some a0)))] w := (SC.cons (((O.old hl_0 (by simp)).trans hm_0_0)) SC.nil)
          refine d_take 0 rfl (by kernel_rfl) F (p_move rfl) rfl rfl hS fun a F => d_take 1 rfl (by kernel_rfl) F (p_move rfl) rfl rfl hS fun a F => d_take 2 rfl (by kernel_rfl) F (p_move rfl) rfl rfl hS fun a F => d_take 3 rfl (by kernel_rfl) F (p_move rfl) rfl rfl hS fun a F => d_take 5 rfl (by kernel_rfl) F (p_load rfl Tryd.agg_48 (fun _ h => (SC.get h 0 rfl))) rfl rfl hS fun a F => d_one 4 (by kernel_rfl) (d_op rfl F rfl (o_call (vs := #[.slice (some ⟨b28, 0, none⟩) N23 C23, .int .i64 (t), .slice A2 n2 c2]) F Tryd.en_28 rfl rfl ((lock_free b28 N23 C23 es t A2 n2 c2 es2 a0 w (by first | omega | (simp; done) | (simp; omega) | (simp at *; omega)) (hA2.keep O) (by first | omega | (simp; done) | (simp; omega) | (simp at *; omega)) (by omega) (by omega) (by first | assumption | exact c19.2 | exact c18.2) (O.apartOldR hA2 (by omega) 0 rfl (by simp)) cs4 (O.rowNe 0 rfl (by simp) hl_0) (Nat.lt_of_lt_of_le hl_0 O.size) (((O.old hl_0 (by simp)).trans hm_0_0)) (O.hand1 rfl)).mono ?_)))
          rintro e w ⟨rfl, K⟩
          refine ⟨_, rfl, fun a F => ?_⟩
          have O : Own w0 [] [.row 3 1 (.slice (some ⟨b28, 0, none⟩) N23 C23) N23 ((takeL t es es2).flatMap encInt)] w := O.call1 K rfl
          clear K
          have O : Own w0 [] [.row 3 1 (.slice (some ⟨b28, 0, none⟩) N23 C23) N23 ((takeL t es es2).flatMap encInt)] w := O
          refine ⟨fun _ => (SC.cons (((O.old hl_0 (by simp)).trans hm_0_0)) SC.nil), ?_⟩
          have hS : SC [(0, 0, .iface 78 (.pointer (some a0)))] w := (SC.cons (((O.old hl_0 (by simp)).trans hm_0_0)) SC.nil)
          refine d_one 6 (by kernel_rfl) (d_op rfl F rfl (o_call (vs := #[.nilIface, .iface 78 (.pointer (some a0))]) F Tryd.en_27 rfl rfl ((errIs_nil a0 w).mono ?_)))
          rintro e w ⟨rfl, K⟩
          refine ⟨_, rfl, fun a F => ?_⟩
          have O : Own w0 [] [.row 3 1 (.slice (some ⟨b28, 0, none⟩) N23 C23) N23 ((takeL t es es2).flatMap encInt)] w := O.call0 K
          clear K
          have O : Own w0 [] [.row 3 1 (.slice (some ⟨b28, 0, none⟩) N23 C23) N23 ((takeL t es es2).flatMap encInt)] w := O
          refine ⟨fun _ => (SC.cons (((O.old hl_0 (by simp)).trans hm_0_0)) SC.nil), ?_⟩
          have hS : SC [(0, 0, .iface 78 (.pointer (some a0)))] w := (SC.cons (((O.old hl_0 (by simp)).trans hm_0_0)) SC.nil)
          refine d_take 7 rfl (by kernel_rfl) F (p_not rfl) rfl rfl hS fun a F => d_take 8 rfl (by kernel_rfl) F (p_assign rfl) rfl rfl hS fun a F => d_take 9 rfl (by kernel_rfl) F (p_assign rfl) rfl rfl hS fun a F => d_done (by kernel_rfl) (hK5 _ _ (?_))
          try clear hK5 K5
          refine wp_ret (ret2 F rfl rfl rfl (?_))
          have O := O.setR 0 rfl (show Res.row 3 1 (.slice (some ⟨b28, 0, none⟩) N23 C23) N23 ((takeL t es es2).flatMap encInt) = .row 3 1 (.slice (some ⟨b28, 0, none⟩) N23 C23) N23 ((LT es t es2).flatMap encInt) from by first | (rw [LT_bad (by first | exact fun h => c10 h.1.1 | exact fun h => c14 h.1.2 | exact fun h => c19 h.2)]; first | rfl | done) | (rw [LT_ok ⟨⟨c10, c14⟩, c19⟩]; first | done | rw [l12L_free cs4] | rw [l12L_busy (Bool.eq_false_iff.2 cs4)]))
          have O : Own w0 [] [.row 3 1 (.slice (some ⟨b28, 0, none⟩) N23 C23) N23 ((LT es t es2).flatMap encInt)] w := O
          exact ⟨(some ⟨b28, 0, none⟩), N23, C23, congrArg Ending.returned (show Value.tuple #[.slice (some ⟨b28, 0, none⟩) N23 C23, .bool true] = .tuple #[.slice (some ⟨b28, 0, none⟩) N23 C23, .bool (decide ((((es.length = 4 ∧ okIn (-1) (11) es = true) ∧ (0 ≤ t ∧ t ≤ 11)) ∧ (0 < es2.length ∧ upsB es2 = true)) ∧ FreeAll es es2 = true))] from by rw [show decide ((((es.length = 4 ∧ okIn (-1) (11) es = true) ∧ (0 ≤ t ∧ t ≤ 11)) ∧ (0 < es2.length ∧ upsB es2 = true)) ∧ FreeAll es es2 = true) = true from decide_eq_true ⟨⟨⟨c10, c14⟩, c19⟩, cs4⟩]), by first | (rw [LT_bad (by first | exact fun h => c10 h.1.1 | exact fun h => c14 h.1.2 | exact fun h => c19 h.2)]; rfl) | (rw [LT_ok ⟨⟨c10, c14⟩, c19⟩]; first | omega | (rw [l12L_len]; omega)), by first | assumption | omega, O⟩
        · obtain ⟨b28, hp28⟩ := O.rowSome 0 rfl (by omega)
          rw [hp28] at O
          try rw [hp28] at F
          refine c_draw Tryd.mixed (SC [(0, 0, .iface 78 (.pointer (some a0)))]) [] _ (fun a w h => h) ?_
          have O := O.drawn (w.drawn + 1)
          generalize { w with drawn := w.drawn + 1 } = w at O ⊢
          have hS : SC [(0, 0, .iface 78 (.pointer (some a0)))] w := (SC.cons (((O.old hl_0 (by simp)).trans hm_0_0)) SC.nil)
          refine d_take 0 rfl (by kernel_rfl) F (p_move rfl) rfl rfl hS fun a F => d_take 1 rfl (by kernel_rfl) F (p_move rfl) rfl rfl hS fun a F => d_take 2 rfl (by kernel_rfl) F (p_move rfl) rfl rfl hS fun a F => d_take 3 rfl (by kernel_rfl) F (p_move rfl) rfl rfl hS fun a F => d_take 5 rfl (by kernel_rfl) F (p_load rfl Tryd.agg_48 (fun _ h => (SC.get h 0 rfl))) rfl rfl hS fun a F => d_one 4 (by kernel_rfl) (d_op rfl F rfl (o_call (vs := #[.slice (some ⟨b28, 0, none⟩) N23 C23, .int .i64 (t), .slice A2 n2 c2]) F Tryd.en_28 rfl rfl ((lock_busy b28 N23 C23 es t A2 n2 c2 es2 a0 w (by first | omega | (simp; done) | (simp; omega) | (simp at *; omega)) (hA2.keep O) (by first | omega | (simp; done) | (simp; omega) | (simp at *; omega)) (by omega) (by omega) (by first | assumption | exact c19.2 | exact c18.2) (O.apartOldR hA2 (by omega) 0 rfl (by simp)) (Bool.eq_false_iff.2 cs4) (O.rowNe 0 rfl (by simp) hl_0) (Nat.lt_of_lt_of_le hl_0 O.size) (((O.old hl_0 (by simp)).trans hm_0_0)) (O.hand1 rfl)).mono ?_)))
          rintro e w ⟨rfl, K⟩
          refine ⟨_, rfl, fun a F => ?_⟩
          have O : Own w0 [] [.row 3 1 (.slice (some ⟨b28, 0, none⟩) N23 C23) N23 (es.flatMap encInt)] w := O.call1 K rfl
          clear K
          have O : Own w0 [] [.row 3 1 (.slice (some ⟨b28, 0, none⟩) N23 C23) N23 (es.flatMap encInt)] w := O
          refine ⟨fun _ => (SC.cons (((O.old hl_0 (by simp)).trans hm_0_0)) SC.nil), ?_⟩
          have hS : SC [(0, 0, .iface 78 (.pointer (some a0)))] w := (SC.cons (((O.old hl_0 (by simp)).trans hm_0_0)) SC.nil)
          refine d_one 6 (by kernel_rfl) (d_op rfl F rfl (o_call (vs := #[.iface 78 (.pointer (some a0)), .iface 78 (.pointer (some a0))]) F Tryd.en_27 rfl rfl ((errIs_same a0 w).mono ?_)))
          rintro e w ⟨rfl, K⟩
          refine ⟨_, rfl, fun a F => ?_⟩
          have O : Own w0 [] [.row 3 1 (.slice (some ⟨b28, 0, none⟩) N23 C23) N23 (es.flatMap encInt)] w := O.call0 K
          clear K
          have O : Own w0 [] [.row 3 1 (.slice (some ⟨b28, 0, none⟩) N23 C23) N23 (es.flatMap encInt)] w := O
          refine ⟨fun _ => (SC.cons (((O.old hl_0 (by simp)).trans hm_0_0)) SC.nil), ?_⟩
          have hS : SC [(0, 0, .iface 78 (.pointer (some a0)))] w := (SC.cons (((O.old hl_0 (by simp)).trans hm_0_0)) SC.nil)
          refine d_take 7 rfl (by kernel_rfl) F (p_not rfl) rfl rfl hS fun a F => d_take 8 rfl (by kernel_rfl) F (p_assign rfl) rfl rfl hS fun a F => d_take 9 rfl (by kernel_rfl) F (p_assign rfl) rfl rfl hS fun a F => d_done (by kernel_rfl) (hK5 _ _ (?_))
          try clear hK5 K5
          refine wp_ret (ret2 F rfl rfl rfl (?_))
          have O := O.setR 0 rfl (show Res.row 3 1 (.slice (some ⟨b28, 0, none⟩) N23 C23) N23 (es.flatMap encInt) = .row 3 1 (.slice (some ⟨b28, 0, none⟩) N23 C23) N23 ((LT es t es2).flatMap encInt) from by first | (rw [LT_bad (by first | exact fun h => c10 h.1.1 | exact fun h => c14 h.1.2 | exact fun h => c19 h.2)]; first | rfl | done) | (rw [LT_ok ⟨⟨c10, c14⟩, c19⟩]; first | done | rw [l12L_free cs4] | rw [l12L_busy (Bool.eq_false_iff.2 cs4)]))
          have O : Own w0 [] [.row 3 1 (.slice (some ⟨b28, 0, none⟩) N23 C23) N23 ((LT es t es2).flatMap encInt)] w := O
          exact ⟨(some ⟨b28, 0, none⟩), N23, C23, congrArg Ending.returned (show Value.tuple #[.slice (some ⟨b28, 0, none⟩) N23 C23, .bool false] = .tuple #[.slice (some ⟨b28, 0, none⟩) N23 C23, .bool (decide ((((es.length = 4 ∧ okIn (-1) (11) es = true) ∧ (0 ≤ t ∧ t ≤ 11)) ∧ (0 < es2.length ∧ upsB es2 = true)) ∧ FreeAll es es2 = true))] from by rw [show decide ((((es.length = 4 ∧ okIn (-1) (11) es = true) ∧ (0 ≤ t ∧ t ≤ 11)) ∧ (0 < es2.length ∧ upsB es2 = true)) ∧ FreeAll es es2 = true) = false from decide_eq_false (by first | exact fun h => cs4 h.2 | (intro h; exact absurd h.1 (by first | exact fun h => c10 h.1.1 | exact fun h => c14 h.1.2 | exact fun h => c19 h.2)))]), by first | (rw [LT_bad (by first | exact fun h => c10 h.1.1 | exact fun h => c14 h.1.2 | exact fun h => c19 h.2)]; rfl) | (rw [LT_ok ⟨⟨c10, c14⟩, c19⟩]; first | omega | (rw [l12L_len]; omega)), by first | assumption | omega, O⟩
      · have F := F.setB (d := 19) rfl (decide_eq_false c19)
        refine sp F (p_not rfl) rfl rfl fun a F => sp F (p_pick (t := false) rfl rfl) rfl rfl fun a F => c_nil (hK3 _ _ (?_))
        try clear hK3 K3
        refine c_ift F rfl (c_seq fun K4 hK4 => c_region (sp F (p_assign rfl) rfl rfl fun a F => sp F (p_assign rfl) rfl rfl fun a F => c_nil (hK4 _ _ (?_))))
        try clear hK4 K4
        refine wp_ret (r_then (ret2 F rfl rfl rfl (?_)))
        have O := O.addNil 3 1
        have O : Own w0 [] [.row 3 1 (.slice none 0 0) 0 ([])] w := O
        have O := O.setR 0 rfl (show Res.row 3 1 (.slice none 0 0) 0 ([]) = .row 3 1 (.slice none 0 0) 0 ((LT es t es2).flatMap encInt) from by first | (rw [LT_bad (by first | exact fun h => c10 h.1.1 | exact fun h => c14 h.1.2 | exact fun h => c19 h.2)]; first | rfl | done) | (rw [LT_ok ⟨⟨c10, c14⟩, c19⟩]; first | done | rw [l12L_free cs4] | rw [l12L_busy (Bool.eq_false_iff.2 cs4)]))
        have O : Own w0 [] [.row 3 1 (.slice none 0 0) 0 ((LT es t es2).flatMap encInt)] w := O
        exact ⟨none, 0, 0, congrArg Ending.returned (show Value.tuple #[.slice none 0 0, .bool false] = .tuple #[.slice none 0 0, .bool (decide ((((es.length = 4 ∧ okIn (-1) (11) es = true) ∧ (0 ≤ t ∧ t ≤ 11)) ∧ (0 < es2.length ∧ upsB es2 = true)) ∧ FreeAll es es2 = true))] from by rw [show decide ((((es.length = 4 ∧ okIn (-1) (11) es = true) ∧ (0 ≤ t ∧ t ≤ 11)) ∧ (0 < es2.length ∧ upsB es2 = true)) ∧ FreeAll es es2 = true) = false from decide_eq_false (by first | exact fun h => cs4 h.2 | (intro h; exact absurd h.1 (by first | exact fun h => c10 h.1.1 | exact fun h => c14 h.1.2 | exact fun h => c19 h.2)))]), by first | (rw [LT_bad (by first | exact fun h => c10 h.1.1 | exact fun h => c14 h.1.2 | exact fun h => c19 h.2)]; rfl) | (rw [LT_ok ⟨⟨c10, c14⟩, c19⟩]; first | omega | (rw [l12L_len]; omega)), by first | assumption | omega, O⟩
    · have F := F.setB (d := 14) rfl (decide_eq_false c14)
      refine sp F (p_not rfl) rfl rfl fun a F => sp F (p_pick (t := false) rfl rfl) rfl rfl fun a F => sp F (p_move rfl) rfl rfl fun a F => ss F rfl rfl fun a F => ss F rfl rfl fun a F => ss F rfl rfl fun a F => sp F (p_pick (t := true) rfl rfl) rfl rfl fun a F => c_nil (hK3 _ _ (?_))
      try clear hK3 K3
      refine c_ift F rfl (c_seq fun K4 hK4 => c_region (sp F (p_assign rfl) rfl rfl fun a F => sp F (p_assign rfl) rfl rfl fun a F => c_nil (hK4 _ _ (?_))))
      try clear hK4 K4
      refine wp_ret (r_then (ret2 F rfl rfl rfl (?_)))
      have O := O.addNil 3 1
      have O : Own w0 [] [.row 3 1 (.slice none 0 0) 0 ([])] w := O
      have O := O.setR 0 rfl (show Res.row 3 1 (.slice none 0 0) 0 ([]) = .row 3 1 (.slice none 0 0) 0 ((LT es t es2).flatMap encInt) from by first | (rw [LT_bad (by first | exact fun h => c10 h.1.1 | exact fun h => c14 h.1.2 | exact fun h => c19 h.2)]; first | rfl | done) | (rw [LT_ok ⟨⟨c10, c14⟩, c19⟩]; first | done | rw [l12L_free cs4] | rw [l12L_busy (Bool.eq_false_iff.2 cs4)]))
      have O : Own w0 [] [.row 3 1 (.slice none 0 0) 0 ((LT es t es2).flatMap encInt)] w := O
      exact ⟨none, 0, 0, congrArg Ending.returned (show Value.tuple #[.slice none 0 0, .bool false] = .tuple #[.slice none 0 0, .bool (decide ((((es.length = 4 ∧ okIn (-1) (11) es = true) ∧ (0 ≤ t ∧ t ≤ 11)) ∧ (0 < es2.length ∧ upsB es2 = true)) ∧ FreeAll es es2 = true))] from by rw [show decide ((((es.length = 4 ∧ okIn (-1) (11) es = true) ∧ (0 ≤ t ∧ t ≤ 11)) ∧ (0 < es2.length ∧ upsB es2 = true)) ∧ FreeAll es es2 = true) = false from decide_eq_false (by first | exact fun h => cs4 h.2 | (intro h; exact absurd h.1 (by first | exact fun h => c10 h.1.1 | exact fun h => c14 h.1.2 | exact fun h => c19 h.2)))]), by first | (rw [LT_bad (by first | exact fun h => c10 h.1.1 | exact fun h => c14 h.1.2 | exact fun h => c19 h.2)]; rfl) | (rw [LT_ok ⟨⟨c10, c14⟩, c19⟩]; first | omega | (rw [l12L_len]; omega)), by first | assumption | omega, O⟩
  · have F := F.setB (d := 10) rfl (decide_eq_false c10)
    refine sp F (p_not rfl) rfl rfl fun a F => sp F (p_move rfl) rfl rfl fun a F => ss F rfl rfl fun a F => ss F rfl rfl fun a F => ss F rfl rfl fun a F => sp F (p_pick (t := true) rfl rfl) rfl rfl fun a F => sp F (p_move rfl) rfl rfl fun a F => ss F rfl rfl fun a F => ss F rfl rfl fun a F => ss F rfl rfl fun a F => sp F (p_pick (t := true) rfl rfl) rfl rfl fun a F => c_nil (hK3 _ _ (?_))
    try clear hK3 K3
    refine c_ift F rfl (c_seq fun K4 hK4 => c_region (sp F (p_assign rfl) rfl rfl fun a F => sp F (p_assign rfl) rfl rfl fun a F => c_nil (hK4 _ _ (?_))))
    try clear hK4 K4
    refine wp_ret (r_then (ret2 F rfl rfl rfl (?_)))
    have O := O.addNil 3 1
    have O : Own w0 [] [.row 3 1 (.slice none 0 0) 0 ([])] w := O
    have O := O.setR 0 rfl (show Res.row 3 1 (.slice none 0 0) 0 ([]) = .row 3 1 (.slice none 0 0) 0 ((LT es t es2).flatMap encInt) from by first | (rw [LT_bad (by first | exact fun h => c10 h.1.1 | exact fun h => c14 h.1.2 | exact fun h => c19 h.2)]; first | rfl | done) | (rw [LT_ok ⟨⟨c10, c14⟩, c19⟩]; first | done | rw [l12L_free cs4] | rw [l12L_busy (Bool.eq_false_iff.2 cs4)]))
    have O : Own w0 [] [.row 3 1 (.slice none 0 0) 0 ((LT es t es2).flatMap encInt)] w := O
    exact ⟨none, 0, 0, congrArg Ending.returned (show Value.tuple #[.slice none 0 0, .bool false] = .tuple #[.slice none 0 0, .bool (decide ((((es.length = 4 ∧ okIn (-1) (11) es = true) ∧ (0 ≤ t ∧ t ≤ 11)) ∧ (0 < es2.length ∧ upsB es2 = true)) ∧ FreeAll es es2 = true))] from by rw [show decide ((((es.length = 4 ∧ okIn (-1) (11) es = true) ∧ (0 ≤ t ∧ t ≤ 11)) ∧ (0 < es2.length ∧ upsB es2 = true)) ∧ FreeAll es es2 = true) = false from decide_eq_false (by first | exact fun h => cs4 h.2 | (intro h; exact absurd h.1 (by first | exact fun h => c10 h.1.1 | exact fun h => c14 h.1.2 | exact fun h => c19 h.2)))]), by first | (rw [LT_bad (by first | exact fun h => c10 h.1.1 | exact fun h => c14 h.1.2 | exact fun h => c19 h.2)]; rfl) | (rw [LT_ok ⟨⟨c10, c14⟩, c19⟩]; first | omega | (rw [l12L_len]; omega)), by first | assumption | omega, O⟩

set_option maxRecDepth 100000 in
/-- laws.sameInts -/
theorem sameInts_ok (A : Option Addr) (n : Nat) (c : Nat) (es : List (Int)) (A2 : Option Addr) (n2 : Nat) (c2 : Nat) (es2 : List (Int)) (w0 : World) (hA : Arr w0 encInt 1 A es) (hn : (n : Int) = es.length) (hb : (n : Int) ≤ 1048600) (hA2 : Arr w0 encInt 1 A2 es2) (hn2 : (n2 : Int) = es2.length) (hb2 : (n2 : Int) ≤ 1048600) :
    Calls Tryd.prog 17 #[.slice A n c, .slice A2 n2 c2] w0 fun e w => e = .returned (.bool (decide (es = es2))) ∧ Own w0 [] [] w := by
  have O := Own.start w0
  refine enterO (n := 26) Tryd.func17 rfl rfl rfl O fun a w F O => ?_
  refine c_seq fun K1 hK1 => c_region (sp F (p_assign rfl) rfl rfl fun a F => c_nil (hK1 _ _ (?_)))
  try clear hK1 K1
  refine c_seq fun K2 hK2 => c_seq fun K3 hK3 => c_region (sp F (p_move rfl) rfl rfl fun a F => sp F (p_len_l rfl Tryd.underlying22) rfl rfl fun a F => sp F (p_move rfl) rfl rfl fun a F => sp F (p_len_l rfl Tryd.underlying22) rfl rfl fun a F => sp F (p_neq rfl rfl) rfl rfl fun a F => c_nil (hK3 _ _ (?_)))
  try clear hK3 K3
  by_cases c10 : (n : Int) = (n2 : Int)
  · have F := F.setB (d := 10) rfl (decide_eq_false (fun h => h c10))
    refine c_iff F rfl (wp_skip (hK2 _ _ (?_)))
    try clear hK2 K2
    refine c_seq fun K4 hK4 => c_seq fun K5 hK5 => c_region (sp F (p_assign rfl) rfl rfl fun a F => c_nil (hK5 _ _ (?_)))
    try clear hK5 K5
    refine wp_block (?_)
    refine c_loop (fun mm a w => ∃ (k : Int), mm = ((n : Int) - k).toNat ∧ Has 26 [(0, .slice A n c), (1, .slice A2 n2 c2), (10, .bool false), (5, .int .i64 (k))] a ∧ Own w0 [] [] w ∧ (0 ≤ k) ∧ (k ≤ n) ∧ (SameTo k es es2)) ?_ ?_
    · have F : Has 26 [(0, .slice A n c), (1, .slice A2 n2 c2), (10, .bool false), (5, .int .i64 (0))] a := F.pick ⟨rfl, rfl, rfl, rfl, trivial⟩
      exact ⟨((n : Int) - 0).toNat, 0, rfl, F, O, by first | assumption | omega, by first | assumption | omega, by exact sameTo_zero⟩
    · rintro mm a w ⟨k, rfl, F, O, hi0a, hi0b, hi0c⟩
      refine c_seq fun K6 hK6 => c_seq fun K7 hK7 => c_region (sp F (p_move rfl) rfl rfl fun a F => sp F (p_move rfl) rfl rfl fun a F => sp F (p_len_l rfl Tryd.underlying22) rfl rfl fun a F => sp F (p_lss rfl rfl) rfl rfl fun a F => c_nil (hK7 _ _ (?_)))
      try clear hK7 K7
      by_cases c14 : k < (n : Int)
      · have F := F.setB (d := 14) rfl (decide_eq_true c14)
        refine c_ift F rfl (wp_skip (hK6 _ _ (?_)))
        try clear hK6 K6
        refine c_seq fun K8 hK8 => wp_block (c_seq fun K9 hK9 => ?_)
        obtain ⟨b19, o19, hp19, hb19, hc19⟩ := Arr.out hA (by omega)
        have hA19 := hA; rw [hp19] at hA19 F
        obtain ⟨e19, he19⟩ := get_some (l := es) (i := k) (by omega) (by first | omega | (simp; omega))
        obtain ⟨b23, o23, hp23, hb23, hc23⟩ := Arr.out hA2 (by omega)
        have hA23 := hA2; rw [hp23] at hA23 F
        obtain ⟨e23, he23⟩ := get_some (l := es2) (i := k) (by omega) (by first | omega | (simp; omega))
        refine c_draw Tryd.mixed (SC [(b19, o19 + (k : Int).toNat * 1, .int .i64 (e19)), (b23, o23 + (k : Int).toNat * 1, .int .i64 (e23))]) [] _ (fun a w h => h) ?_
        have O := O.drawn (w.drawn + 1)
        generalize { w with drawn := w.drawn + 1 } = w at O ⊢
        have hS : SC [(b19, o19 + (k : Int).toNat * 1, .int .i64 (e19)), (b23, o23 + (k : Int).toNat * 1, .int .i64 (e23))] w := (SC.cons (((O.old hb19 (by simp)).trans (hc19 _ _ he19 0 _ rfl))) (SC.cons (((O.old hb23 (by simp)).trans (hc23 _ _ he23 0 _ rfl))) SC.nil))
        refine d_take 0 rfl (by kernel_rfl) F (p_move rfl) rfl rfl hS fun a F => d_take 1 rfl (by kernel_rfl) F (p_move rfl) rfl rfl hS fun a F => d_take 2 rfl (by kernel_rfl) F (p_iaddr rfl rfl Tryd.underlying22 Tryd.sz_3 (by omega) (by omega)) rfl rfl hS fun a F => d_take 3 rfl (by kernel_rfl) F (p_load rfl Tryd.agg_3 (fun _ h => (SC.get h 0 rfl))) rfl rfl hS fun a F => d_take 4 rfl (by kernel_rfl) F (p_move rfl) rfl rfl hS fun a F => d_take 5 rfl (by kernel_rfl) F (p_move rfl) rfl rfl hS fun a F => d_take 6 rfl (by kernel_rfl) F (p_iaddr rfl rfl Tryd.underlying22 Tryd.sz_3 (by omega) (by omega)) rfl rfl hS fun a F => d_take 7 rfl (by kernel_rfl) F (p_load rfl Tryd.agg_3 (fun _ h => (SC.get h 1 rfl))) rfl rfl hS fun a F => d_take 8 rfl (by kernel_rfl) F (p_neq rfl rfl) rfl rfl hS fun a F => d_done (by kernel_rfl) (hK9 _ _ (?_))
        try clear hK9 K9
        by_cases c25 : e19 = e23
        · have F := F.setB (d := 25) rfl (decide_eq_false (fun h => h c25))
          refine c_iff F rfl (wp_skip (hK8 _ _ (?_)))
          try clear hK8 K8
          refine c_region (sp F (p_move rfl) rfl rfl fun a F => sp F (p_add rfl rfl (by omega) (by omega)) rfl rfl fun a F => sp F (p_assign rfl) rfl rfl fun a F => c_nil (?_))
          try rw [← hp23] at F
          try rw [← hp23] at O
          try rw [← hp19] at F
          try rw [← hp19] at O
          have F : Has 26 [(0, .slice A n c), (1, .slice A2 n2 c2), (10, .bool false), (5, .int .i64 (k + 1))] a := F.pick ⟨rfl, rfl, rfl, rfl, trivial⟩
          exact ⟨((n : Int) - (k + 1)).toNat, by omega, (k + 1), rfl, F, O, by first | assumption | omega, by first | assumption | omega, by exact sameTo_step hi0c hi0a he19 he23 (by omega)⟩
        · have F := F.setB (d := 25) rfl (decide_eq_true c25)
          refine c_ift F rfl (c_seq fun K10 hK10 => c_region (sp F (p_assign rfl) rfl rfl fun a F => c_nil (hK10 _ _ (?_))))
          try clear hK10 K10
          refine wp_ret (r_block (r_then (r_then (r_block (r_then (ret1 F rfl rfl (?_)))))))
          exact ⟨congrArg Ending.returned (show Value.bool false = .bool (decide (es = es2)) from by exact vbf (fun h => by subst h; first | omega | (rw [he19] at he23; injection he23; omega))), O⟩
      · have F := F.setB (d := 14) rfl (decide_eq_false c14)
        refine c_iff F rfl (wp_exit (e_then (e_then (e_here (hK4 _ _ (?_))))))
        try clear hK4 K4
        refine c_seq fun K8 hK8 => c_region (sp F (p_assign rfl) rfl rfl fun a F => c_nil (hK8 _ _ (?_)))
        try clear hK8 K8
        refine wp_ret (ret1 F rfl rfl (?_))
        exact ⟨congrArg Ending.returned (show Value.bool true = .bool (decide (es = es2)) from by exact vbt (same_ext hi0c (by omega) (by omega))), O⟩
  · have F := F.setB (d := 10) rfl (decide_eq_true c10)
    refine c_ift F rfl (c_seq fun K4 hK4 => c_region (sp F (p_assign rfl) rfl rfl fun a F => c_nil (hK4 _ _ (?_))))
    try clear hK4 K4
    refine wp_ret (r_then (ret1 F rfl rfl (?_)))
    exact ⟨congrArg Ending.returned (show Value.bool false = .bool (decide (es = es2)) from by exact vbf (fun h => by subst h; first | omega | (rw [he19] at he23; injection he23; omega))), O⟩

end Go.Proofs.YtilpbddeijolbaaDoor
