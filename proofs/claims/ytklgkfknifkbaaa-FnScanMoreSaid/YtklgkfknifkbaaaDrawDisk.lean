/- A disk drawn from a code: at most 121 bytes, its number between -1 and 129. No conditions but that the place is small. -/
import Derived.Test.YtklgkfknifkbaaaDisks
import Derived.Test.YtklgkfknifkbaaaDrawRec
namespace Go.Proofs.Ytklgkfknifkbaaa
open Go.ChangeShapes Go.WideShapes Go.ChangeAt Go.RowKit
set_option linter.unusedVariables false
set_option linter.unusedSimpArgs false


theorem apB_le {l : List UInt8} {n : Int} {r : List UInt8} (h : (l.length : Int) ≤ 120) : ((apB l n r).length : Int) ≤ 120 := by
  unfold apB
  split
  · split
    · rw [List.length_append]; have := frameL_length r; omega
    · exact h
  · simp
theorem apN_bd {l : List UInt8} {n : Int} {r : List UInt8} (h0 : 0 ≤ n) (h1 : n ≤ 120) : 0 ≤ apN l n r ∧ apN l n r ≤ 120 := by
  unfold apN
  split <;> omega
theorem syB_le {l : List UInt8} {n : Int} (h : (l.length : Int) ≤ 120) : ((syB l n).length : Int) ≤ 120 := by
  unfold syB
  split
  · exact h
  · simp
theorem syN_bd {l : List UInt8} {n : Int} : 0 ≤ syN l n ∧ syN l n ≤ 120 := by
  unfold syN
  split <;> omega
set_option maxRecDepth 100000 in
/-- spec.l91Disk -/
theorem l91Disk_ok (g : Nat) (A : Option Addr) (cn : Nat) (cc : Nat) (p : Int) (w0 : World) (hCode : Code w0 g A cn) (hp0 : 0 ≤ p) (hp : p ≤ 800000) (O : Own w0 [g] [.cells g [.slice A cn cc, .int .i64 (p)] 67] w0) :
    Calls Try.prog 60 #[.pointer (some ⟨g, 0, none⟩)] w0 fun e w => ∃ (L : List UInt8), ∃ (k : Int), ∃ (q : Int), e = .returned (.agg #[.string (bs (L)), .int .i64 (k)]) ∧ ((L.length : Int) ≤ 121) ∧ (-1 ≤ k) ∧ (k ≤ 129) ∧ (p ≤ q) ∧ (q ≤ p + 3000) ∧ Own w0 [g] [.cells g [.slice A cn cc, .int .i64 (q)] 67] w := by
  refine enterO (n := 57) Try.func60 rfl rfl rfl O fun a w F O => ?_
  refine c_seq fun K1 hK1 => c_region (so F rfl (o_alloc F O Try.zero_27 rfl fun b2 w O a F => ?_))
  have O : Own w0 [g] [.cells b2 [.string (bs ([])), .int .i64 (0)] 27, .cells g [.slice A cn cc, .int .i64 (p)] 67] w := O
  refine c_nil (hK1 _ _ (?_))
  try clear hK1 K1
  refine c_seq fun K2 hK2 => c_region (sp F (p_build (cs := [.string (bs ([])), .int .i64 (0)]) rfl Try.places_27 rfl) rfl rfl fun a F => so F rfl (o_alloc F O Try.zero_27 rfl fun b3 w O a F => ?_))
  have O : Own w0 [g] [.cells b3 [.string (bs ([])), .int .i64 (0)] 27, .cells b2 [.string (bs ([])), .int .i64 (0)] 27, .cells g [.slice A cn cc, .int .i64 (p)] 67] w := O
  refine so F rfl (o_storeA (vs := [.string (bs ([])), .int .i64 (0)]) F O rfl rfl Try.sz_27 (by simp [Value.oneCell']) 0 rfl rfl fun w O => ?_)
  have O : Own w0 [g] [.cells b3 [.string (bs ([])), .int .i64 (0)] 27, .cells b2 [.string (bs ([])), .int .i64 (0)] 27, .cells g [.slice A cn cc, .int .i64 (p)] 67] w := O
  refine c_nil (hK2 _ _ (?_))
  try clear hK2 K2
  refine c_seq fun K3 hK3 => c_region (sp F (p_move rfl) rfl rfl fun a F => ?_)
  have O := O.pull 2 rfl
  have O : Own w0 [g] [.cells g [.slice A cn cc, .int .i64 (p)] 67, .cells b3 [.string (bs ([])), .int .i64 (0)] 27, .cells b2 [.string (bs ([])), .int .i64 (0)] 27] w := O
  refine so F rfl (o_call (vs := #[.pointer (some ⟨g, 0, none⟩), .int .i64 (8)]) F Try.en_61 rfl rfl ((pick_ok g A cn cc p 8 67 w (hCode.keep O (by simp)) (by omega) (by omega) (by omega) (by omega) (O.hand1 rfl)).mono ?_))
  rintro e w ⟨r10, rfl, h10a, h10b, K⟩
  refine ⟨_, rfl, fun a F => ?_⟩
  have O : Own w0 [g] [.cells g [.slice A cn cc, .int .i64 (p + 1)] 67, .cells b3 [.string (bs ([])), .int .i64 (0)] 27, .cells b2 [.string (bs ([])), .int .i64 (0)] 27] w := O.call1 K rfl
  clear K
  have O : Own w0 [g] [.cells g [.slice A cn cc, .int .i64 (p + 1)] 67, .cells b3 [.string (bs ([])), .int .i64 (0)] 27, .cells b2 [.string (bs ([])), .int .i64 (0)] 27] w := O
  refine sp F (p_assign rfl) rfl rfl fun a F => c_nil (hK3 _ _ (?_))
  try clear hK3 K3
  refine c_mid (fun a w => ∃ (m : Int), ∃ (q : Int), Has 57 [(0, .pointer (some ⟨g, 0, none⟩)), (2, .pointer (some ⟨b2, 0, none⟩)), (3, .pointer (some ⟨b3, 0, none⟩)), (4, .int .i64 (m))] a ∧ Own w0 [g] [.cells g [.slice A cn cc, .int .i64 (q)] 67, .cells b3 [.string (bs ([])), .int .i64 (0)] 27, .cells b2 [.string (bs ([])), .int .i64 (0)] 27] w ∧ (0 ≤ m) ∧ (m ≤ 30) ∧ (p ≤ q) ∧ (q ≤ p + 2)) ?_ ?_
  · refine c_seq fun K4 hK4 => c_region (sp F (p_move rfl) rfl rfl fun a F => so F rfl (o_call (vs := #[.pointer (some ⟨g, 0, none⟩), .int .i64 (8)]) F Try.en_61 rfl rfl ((pick_ok g A cn cc (p + 1) 8 67 w (hCode.keep O (by simp)) (by omega) (by omega) (by omega) (by omega) (O.hand1 rfl)).mono ?_)))
    rintro e w ⟨r12, rfl, h12a, h12b, K⟩
    refine ⟨_, rfl, fun a F => ?_⟩
    have O : Own w0 [g] [.cells g [.slice A cn cc, .int .i64 ((p + 1) + 1)] 67, .cells b3 [.string (bs ([])), .int .i64 (0)] 27, .cells b2 [.string (bs ([])), .int .i64 (0)] 27] w := O.call1 K rfl
    clear K
    have O : Own w0 [g] [.cells g [.slice A cn cc, .int .i64 ((p + 1) + 1)] 67, .cells b3 [.string (bs ([])), .int .i64 (0)] 27, .cells b2 [.string (bs ([])), .int .i64 (0)] 27] w := O
    refine sp F (p_eql rfl rfl) rfl rfl fun a F => c_nil (hK4 _ _ (?_))
    try clear hK4 K4
    by_cases c13 : r12 = 0
    · have F := F.setB (d := 13) rfl (decide_eq_true c13)
      refine c_ift F rfl (c_region (sp F (p_assign rfl) rfl rfl fun a F => c_nil (?_)))
      have F : Has 57 [(0, .pointer (some ⟨g, 0, none⟩)), (2, .pointer (some ⟨b2, 0, none⟩)), (3, .pointer (some ⟨b3, 0, none⟩)), (4, .int .i64 (30))] a := F.pick ⟨rfl, rfl, rfl, rfl, trivial⟩
      exact ⟨30, ((p + 1) + 1), F, O, by first | assumption | omega, by first | assumption | omega, by first | assumption | omega, by first | assumption | omega⟩
    · have F := F.setB (d := 13) rfl (decide_eq_false c13)
      refine c_iff F rfl (wp_skip (?_))
      have F : Has 57 [(0, .pointer (some ⟨g, 0, none⟩)), (2, .pointer (some ⟨b2, 0, none⟩)), (3, .pointer (some ⟨b3, 0, none⟩)), (4, .int .i64 (r10))] a := F.pick ⟨rfl, rfl, rfl, rfl, trivial⟩
      exact ⟨r10, ((p + 1) + 1), F, O, by first | assumption | omega, by first | assumption | omega, by first | assumption | omega, by first | assumption | omega⟩
  · rintro a w ⟨m, q, F, O, hm13a, hm13b, hm13c, hm13d⟩
    refine c_seq fun K4 hK4 => c_seq fun K5 hK5 => c_region (sp F (p_assign rfl) rfl rfl fun a F => c_nil (hK5 _ _ (?_)))
    try clear hK5 K5
    refine wp_block (?_)
    refine c_loop (fun mm a w => ∃ (i : Int), ∃ (q : Int), ∃ (B5 : List UInt8), ∃ (c5 : Int), mm = (m - i).toNat ∧ Has 57 [(0, .pointer (some ⟨g, 0, none⟩)), (2, .pointer (some ⟨b2, 0, none⟩)), (3, .pointer (some ⟨b3, 0, none⟩)), (4, .int .i64 (m)), (5, .int .i64 (i))] a ∧ Own w0 [g] [.cells g [.slice A cn cc, .int .i64 (q)] 67, .cells b3 [.string (bs (B5)), .int .i64 (c5)] 27, .cells b2 [.string (bs ([])), .int .i64 (0)] 27] w ∧ (0 ≤ i) ∧ (i ≤ m) ∧ ((B5.length : Int) ≤ 120) ∧ (0 ≤ c5) ∧ (c5 ≤ 120) ∧ (p ≤ q) ∧ (q ≤ p + 2 + 42 * i)) ?_ ?_
    · have F : Has 57 [(0, .pointer (some ⟨g, 0, none⟩)), (2, .pointer (some ⟨b2, 0, none⟩)), (3, .pointer (some ⟨b3, 0, none⟩)), (4, .int .i64 (m)), (5, .int .i64 (0))] a := F.pick ⟨rfl, rfl, rfl, rfl, rfl, trivial⟩
      exact ⟨(m - 0).toNat, 0, q, ([]), 0, rfl, F, O, by first | assumption | omega, by first | assumption | omega, by simp, by first | assumption | omega, by first | assumption | omega, by first | assumption | omega, by first | assumption | omega⟩
    · rintro mm a w ⟨i, q, B5, c5, rfl, F, O, hi0a, hi0b, hi0c, hi0d, hi0e, hi0f, hi0g⟩
      refine c_seq fun K6 hK6 => c_seq fun K7 hK7 => c_region (sp F (p_move rfl) rfl rfl fun a F => sp F (p_move rfl) rfl rfl fun a F => sp F (p_lss rfl rfl) rfl rfl fun a F => c_nil (hK7 _ _ (?_)))
      try clear hK7 K7
      by_cases c16 : i < m
      · have F := F.setB (d := 16) rfl (decide_eq_true c16)
        refine c_ift F rfl (wp_skip (hK6 _ _ (?_)))
        try clear hK6 K6
        refine c_seq fun K8 hK8 => wp_block (c_seq fun K9 hK9 => ?_)
        refine c_draw Try.mixed (SC [(b3, 0, .string (bs (B5))), (b3, 0 + 1, .int .i64 (c5))]) [] (fun a w => ∃ (L22 : List UInt8), ∃ (q22 : Int), ∃ (b6 : Nat), Has 57 [(0, .pointer (some ⟨g, 0, none⟩)), (2, .pointer (some ⟨b2, 0, none⟩)), (3, .pointer (some ⟨b3, 0, none⟩)), (4, .int .i64 (m)), (5, .int .i64 (i)), (16, .bool true), (6, .pointer (some ⟨b6, 0, none⟩)), (7, .bool (decide (((B5.length : Int) ≤ 120 ∧ 0 ≤ c5 ∧ c5 ≤ (B5.length : Int)) ∧ (1 ≤ (L22.length : Int) ∧ (L22.length : Int) ≤ 12) ∧ (B5.length : Int) + L22.length + 2 ≤ 120)))] a ∧ Own w0 [g] [.cells b6 [.string (bs (apB B5 c5 L22)), .int .i64 (apN B5 c5 L22)] 27, .cells g [.slice A cn cc, .int .i64 (q22)] 67, .cells b3 [.string (bs (B5)), .int .i64 (c5)] 27, .cells b2 [.string (bs ([])), .int .i64 (0)] 27] w ∧ ((L22.length : Int) ≤ 13) ∧ (q ≤ q22) ∧ (q22 ≤ q + 40)) ?_ ?_
        · rintro a w ⟨L22, q22, b6, F, O, h22a, h22b, h22c⟩
          refine hK9 _ _ (?_)
          try clear hK9 K9
          refine c_mid (fun a w => ∃ (B6 : List UInt8), ∃ (c6 : Int), Has 57 [(0, .pointer (some ⟨g, 0, none⟩)), (2, .pointer (some ⟨b2, 0, none⟩)), (3, .pointer (some ⟨b3, 0, none⟩)), (4, .int .i64 (m)), (5, .int .i64 (i)), (16, .bool true), (6, .pointer (some ⟨b6, 0, none⟩)), (7, .bool (decide (((B5.length : Int) ≤ 120 ∧ 0 ≤ c5 ∧ c5 ≤ (B5.length : Int)) ∧ (1 ≤ (L22.length : Int) ∧ (L22.length : Int) ≤ 12) ∧ (B5.length : Int) + L22.length + 2 ≤ 120)))] a ∧ Own w0 [g] [.cells b6 [.string (bs (apB B5 c5 L22)), .int .i64 (apN B5 c5 L22)] 27, .cells g [.slice A cn cc, .int .i64 (q22)] 67, .cells b3 [.string (bs (B6)), .int .i64 (c6)] 27, .cells b2 [.string (bs ([])), .int .i64 (0)] 27] w ∧ ((B6.length : Int) ≤ 120) ∧ (0 ≤ c6) ∧ (c6 ≤ 120)) ?_ ?_
          · refine c_seq fun K10 hK10 => ?_
            have ha1 := apB_le (l := B5) (n := c5) (r := L22) (by omega)
            have ha2 := apN_bd (l := B5) (n := c5) (r := L22) (by omega) (by omega)
            refine c_region (sp F (p_move rfl) rfl rfl fun a F => c_nil (hK10 _ _ (?_)))
            try clear hK10 K10
            by_cases c26 : ((B5.length : Int) ≤ 120 ∧ 0 ≤ c5 ∧ c5 ≤ (B5.length : Int)) ∧ (1 ≤ (L22.length : Int) ∧ (L22.length : Int) ≤ 12) ∧ (B5.length : Int) + L22.length + 2 ≤ 120
            · have F := F.setB (d := 7) rfl (decide_eq_true c26)
              have F := F.setB (d := 26) rfl (decide_eq_true c26)
              refine c_ift F rfl (c_region (sp F (p_loadC (cs := [.string (bs (apB B5 c5 L22)), .int .i64 (apN B5 c5 L22)]) rfl Try.agg_27 Try.sz_27 (fun _ h => (CA.cons (ld1 (O.load 0 rfl rfl) h) (CA.cons (ld1 (O.load 0 rfl rfl) h) CA.nil)))) rfl rfl fun a F => so F rfl (o_storeA (vs := [.string (bs (apB B5 c5 L22)), .int .i64 (apN B5 c5 L22)]) F O rfl rfl Try.sz_27 (by simp [Value.oneCell']) 2 rfl rfl fun w O => ?_)))
              have O : Own w0 [g] [.cells b6 [.string (bs (apB B5 c5 L22)), .int .i64 (apN B5 c5 L22)] 27, .cells g [.slice A cn cc, .int .i64 (q22)] 67, .cells b3 [.string (bs (apB B5 c5 L22)), .int .i64 (apN B5 c5 L22)] 27, .cells b2 [.string (bs ([])), .int .i64 (0)] 27] w := O
              refine c_nil (?_)
              have F := F.setV (d := 7) rfl (show Value.bool true = .bool (decide (((B5.length : Int) ≤ 120 ∧ 0 ≤ c5 ∧ c5 ≤ (B5.length : Int)) ∧ (1 ≤ (L22.length : Int) ∧ (L22.length : Int) ≤ 12) ∧ (B5.length : Int) + L22.length + 2 ≤ 120)) from by exact vbt (by first | assumption | omega))
              have F : Has 57 [(0, .pointer (some ⟨g, 0, none⟩)), (2, .pointer (some ⟨b2, 0, none⟩)), (3, .pointer (some ⟨b3, 0, none⟩)), (4, .int .i64 (m)), (5, .int .i64 (i)), (16, .bool true), (6, .pointer (some ⟨b6, 0, none⟩)), (7, .bool (decide (((B5.length : Int) ≤ 120 ∧ 0 ≤ c5 ∧ c5 ≤ (B5.length : Int)) ∧ (1 ≤ (L22.length : Int) ∧ (L22.length : Int) ≤ 12) ∧ (B5.length : Int) + L22.length + 2 ≤ 120)))] a := F.pick ⟨rfl, rfl, rfl, rfl, rfl, rfl, rfl, rfl, trivial⟩
              exact ⟨(apB B5 c5 L22), (apN B5 c5 L22), F, O, by first | assumption | omega, by first | assumption | omega, by first | assumption | omega⟩
            · have F := F.setB (d := 7) rfl (decide_eq_false c26)
              have F := F.setB (d := 26) rfl (decide_eq_false c26)
              refine c_iff F rfl (wp_skip (?_))
              have F := F.setV (d := 7) rfl (show Value.bool false = .bool (decide (((B5.length : Int) ≤ 120 ∧ 0 ≤ c5 ∧ c5 ≤ (B5.length : Int)) ∧ (1 ≤ (L22.length : Int) ∧ (L22.length : Int) ≤ 12) ∧ (B5.length : Int) + L22.length + 2 ≤ 120)) from by exact vbf (by first | assumption | omega))
              have F : Has 57 [(0, .pointer (some ⟨g, 0, none⟩)), (2, .pointer (some ⟨b2, 0, none⟩)), (3, .pointer (some ⟨b3, 0, none⟩)), (4, .int .i64 (m)), (5, .int .i64 (i)), (16, .bool true), (6, .pointer (some ⟨b6, 0, none⟩)), (7, .bool (decide (((B5.length : Int) ≤ 120 ∧ 0 ≤ c5 ∧ c5 ≤ (B5.length : Int)) ∧ (1 ≤ (L22.length : Int) ∧ (L22.length : Int) ≤ 12) ∧ (B5.length : Int) + L22.length + 2 ≤ 120)))] a := F.pick ⟨rfl, rfl, rfl, rfl, rfl, rfl, rfl, rfl, trivial⟩
              exact ⟨B5, c5, F, O, by first | assumption | omega, by first | assumption | omega, by first | assumption | omega⟩
          · rintro a w ⟨B6, c6, F, O, hm26a, hm26b, hm26c⟩
            refine c_seq fun K10 hK10 => c_region (sp F (p_move rfl) rfl rfl fun a F => ?_)
            have O := O.pull 1 rfl
            have O : Own w0 [g] [.cells g [.slice A cn cc, .int .i64 (q22)] 67, .cells b6 [.string (bs (apB B5 c5 L22)), .int .i64 (apN B5 c5 L22)] 27, .cells b3 [.string (bs (B6)), .int .i64 (c6)] 27, .cells b2 [.string (bs ([])), .int .i64 (0)] 27] w := O
            refine so F rfl (o_call (vs := #[.pointer (some ⟨g, 0, none⟩), .int .i64 (3)]) F Try.en_61 rfl rfl ((pick_ok g A cn cc q22 3 67 w (hCode.keep O (by simp)) (by omega) (by omega) (by omega) (by omega) (O.hand1 rfl)).mono ?_))
            rintro e w ⟨r29, rfl, h29a, h29b, K⟩
            refine ⟨_, rfl, fun a F => ?_⟩
            have O : Own w0 [g] [.cells g [.slice A cn cc, .int .i64 (q22 + 1)] 67, .cells b6 [.string (bs (apB B5 c5 L22)), .int .i64 (apN B5 c5 L22)] 27, .cells b3 [.string (bs (B6)), .int .i64 (c6)] 27, .cells b2 [.string (bs ([])), .int .i64 (0)] 27] w := O.call1 K rfl
            clear K
            have O : Own w0 [g] [.cells g [.slice A cn cc, .int .i64 (q22 + 1)] 67, .cells b6 [.string (bs (apB B5 c5 L22)), .int .i64 (apN B5 c5 L22)] 27, .cells b3 [.string (bs (B6)), .int .i64 (c6)] 27, .cells b2 [.string (bs ([])), .int .i64 (0)] 27] w := O
            refine sp F (p_eql rfl rfl) rfl rfl fun a F => c_nil (hK10 _ _ (?_))
            try clear hK10 K10
            by_cases c30 : r29 = 0
            · have F := F.setB (d := 30) rfl (decide_eq_true c30)
              refine c_ift F rfl (c_region (sp F (p_loadC (cs := [.string (bs (B6)), .int .i64 (c6)]) rfl Try.agg_27 Try.sz_27 (fun _ h => (CA.cons (ld1 (O.load 2 rfl rfl) h) (CA.cons (ld1 (O.load 2 rfl rfl) h) CA.nil)))) rfl rfl fun a F => so F rfl (o_call (vs := #[.agg #[.string (bs (B6)), .int .i64 (c6)]]) F Try.en_31 rfl rfl ((sLogSync_ok B6 c6 w).mono ?_))))
              rintro e w ⟨rfl, K⟩
              refine ⟨_, rfl, fun a F => ?_⟩
              have O : Own w0 [g] [.cells g [.slice A cn cc, .int .i64 (q22 + 1)] 67, .cells b6 [.string (bs (apB B5 c5 L22)), .int .i64 (apN B5 c5 L22)] 27, .cells b3 [.string (bs (B6)), .int .i64 (c6)] 27, .cells b2 [.string (bs ([])), .int .i64 (0)] 27] w := O.call0 K
              clear K
              have hs1 := syB_le (l := B6) (n := c6) (by omega)
              have hs2 := syN_bd (l := B6) (n := c6)
              have O : Own w0 [g] [.cells g [.slice A cn cc, .int .i64 (q22 + 1)] 67, .cells b6 [.string (bs (apB B5 c5 L22)), .int .i64 (apN B5 c5 L22)] 27, .cells b3 [.string (bs (B6)), .int .i64 (c6)] 27, .cells b2 [.string (bs ([])), .int .i64 (0)] 27] w := O
              refine so F rfl (o_storeA (vs := [.string (bs (syB B6 c6)), .int .i64 (syN B6 c6)]) F O rfl rfl Try.sz_27 (by simp [Value.oneCell']) 2 rfl rfl fun w O => ?_)
              have O : Own w0 [g] [.cells g [.slice A cn cc, .int .i64 (q22 + 1)] 67, .cells b6 [.string (bs (apB B5 c5 L22)), .int .i64 (apN B5 c5 L22)] 27, .cells b3 [.string (bs (syB B6 c6)), .int .i64 (syN B6 c6)] 27, .cells b2 [.string (bs ([])), .int .i64 (0)] 27] w := O
              refine c_nil (hK8 _ _ (?_))
              try clear hK8 K8
              refine c_region (sp F (p_move rfl) rfl rfl fun a F => sp F (p_add rfl rfl (by omega) (by omega)) rfl rfl fun a F => sp F (p_assign rfl) rfl rfl fun a F => c_nil (?_))
              have F : Has 57 [(0, .pointer (some ⟨g, 0, none⟩)), (2, .pointer (some ⟨b2, 0, none⟩)), (3, .pointer (some ⟨b3, 0, none⟩)), (4, .int .i64 (m)), (5, .int .i64 (i + 1))] a := F.pick ⟨rfl, rfl, rfl, rfl, rfl, trivial⟩
              have O : Own w0 [g] [.cells g [.slice A cn cc, .int .i64 (q22 + 1)] 67, .cells b3 [.string (bs (syB B6 c6)), .int .i64 (syN B6 c6)] 27, .cells b2 [.string (bs ([])), .int .i64 (0)] 27] w := ((((O.pull 3 rfl).pull 3 rfl).pull 2 rfl).take 3)
              exact ⟨(m - (i + 1)).toNat, by omega, (i + 1), (q22 + 1), (syB B6 c6), (syN B6 c6), rfl, F, O, by first | assumption | omega, by first | assumption | omega, by first | assumption | omega, by first | assumption | omega, by first | assumption | omega, by first | assumption | omega, by first | assumption | omega⟩
            · have F := F.setB (d := 30) rfl (decide_eq_false c30)
              refine c_iff F rfl (wp_skip (hK8 _ _ (?_)))
              try clear hK8 K8
              refine c_region (sp F (p_move rfl) rfl rfl fun a F => sp F (p_add rfl rfl (by omega) (by omega)) rfl rfl fun a F => sp F (p_assign rfl) rfl rfl fun a F => c_nil (?_))
              have F : Has 57 [(0, .pointer (some ⟨g, 0, none⟩)), (2, .pointer (some ⟨b2, 0, none⟩)), (3, .pointer (some ⟨b3, 0, none⟩)), (4, .int .i64 (m)), (5, .int .i64 (i + 1))] a := F.pick ⟨rfl, rfl, rfl, rfl, rfl, trivial⟩
              have O : Own w0 [g] [.cells g [.slice A cn cc, .int .i64 (q22 + 1)] 67, .cells b3 [.string (bs (B6)), .int .i64 (c6)] 27, .cells b2 [.string (bs ([])), .int .i64 (0)] 27] w := ((((O.pull 3 rfl).pull 3 rfl).pull 2 rfl).take 3)
              exact ⟨(m - (i + 1)).toNat, by omega, (i + 1), (q22 + 1), B6, c6, rfl, F, O, by first | assumption | omega, by first | assumption | omega, by first | assumption | omega, by first | assumption | omega, by first | assumption | omega, by first | assumption | omega, by first | assumption | omega⟩
        · have O := O.drawn (w.drawn + 1)
          generalize { w with drawn := w.drawn + 1 } = w at O ⊢
          have hS : SC [(b3, 0, .string (bs (B5))), (b3, 0 + 1, .int .i64 (c5))] w := (SC.cons (O.load 1 rfl rfl) (SC.cons (O.load 1 rfl rfl) SC.nil))
          refine d_take 0 rfl (by kernel_rfl) F (p_loadC (cs := [.string (bs (B5)), .int .i64 (c5)]) rfl Try.agg_27 Try.sz_27 (fun _ h => (CA.cons (SC.get h 0 rfl) (CA.cons (SC.get h 1 rfl) CA.nil)))) rfl rfl hS fun a F => d_take 1 rfl (by kernel_rfl) F (p_move rfl) rfl rfl hS fun a F => ?_
          refine d_two 2 7 (by kernel_rfl) ?_ ?_
          · refine d_op rfl F rfl (o_call (vs := #[.pointer (some ⟨g, 0, none⟩)]) F Try.en_55 rfl rfl ((l91Record_ok g A cn cc q w (hCode.keep O (by simp)) (by omega) (by omega) (O.hand1 rfl)).mono ?_))
            rintro e w ⟨L22, q22, rfl, h22a, h22b, h22c, K⟩
            refine ⟨_, rfl, fun a F => ?_⟩
            have O : Own w0 [g] [.cells g [.slice A cn cc, .int .i64 (q22)] 67, .cells b3 [.string (bs (B5)), .int .i64 (c5)] 27, .cells b2 [.string (bs ([])), .int .i64 (0)] 27] w := O.call1 K rfl
            clear K
            have O : Own w0 [g] [.cells g [.slice A cn cc, .int .i64 (q22)] 67, .cells b3 [.string (bs (B5)), .int .i64 (c5)] 27, .cells b2 [.string (bs ([])), .int .i64 (0)] 27] w := O
            refine ⟨fun _ => (SC.cons (O.load 1 rfl rfl) (SC.cons (O.load 1 rfl rfl) SC.nil)), ?_⟩
            have hS : SC [(b3, 0, .string (bs (B5))), (b3, 0 + 1, .int .i64 (c5))] w := (SC.cons (O.load 1 rfl rfl) (SC.cons (O.load 1 rfl rfl) SC.nil))
            refine d_two 3 7 (by kernel_rfl) ?_ ?_
            · refine d_op rfl F rfl (o_call (vs := #[.agg #[.string (bs (B5)), .int .i64 (c5)], .string (bs (L22))]) F Try.en_35 rfl rfl ((sLogAppend_ok B5 c5 L22 w (by omega) (by omega)).mono ?_))
              rintro e w ⟨rfl, K⟩
              refine ⟨_, rfl, fun a F => ?_⟩
              have O : Own w0 [g] [.cells g [.slice A cn cc, .int .i64 (q22)] 67, .cells b3 [.string (bs (B5)), .int .i64 (c5)] 27, .cells b2 [.string (bs ([])), .int .i64 (0)] 27] w := O.call0 K
              clear K
              have O : Own w0 [g] [.cells g [.slice A cn cc, .int .i64 (q22)] 67, .cells b3 [.string (bs (B5)), .int .i64 (c5)] 27, .cells b2 [.string (bs ([])), .int .i64 (0)] 27] w := O
              refine ⟨fun _ => (SC.cons (O.load 1 rfl rfl) (SC.cons (O.load 1 rfl rfl) SC.nil)), ?_⟩
              have hS : SC [(b3, 0, .string (bs (B5))), (b3, 0 + 1, .int .i64 (c5))] w := (SC.cons (O.load 1 rfl rfl) (SC.cons (O.load 1 rfl rfl) SC.nil))
              refine d_take 4 rfl (by kernel_rfl) F (p_move rfl) rfl rfl hS fun a F => d_take 5 rfl (by kernel_rfl) F (p_extract rfl rfl) rfl rfl hS fun a F => d_take 6 rfl (by kernel_rfl) F (p_extract rfl rfl) rfl rfl hS fun a F => d_one 7 (by kernel_rfl) (d_op rfl F rfl (o_alloc F O Try.zero_27 rfl fun b6 w O a F => ?_))
              have O : Own w0 [g] [.cells b6 [.string (bs ([])), .int .i64 (0)] 27, .cells g [.slice A cn cc, .int .i64 (q22)] 67, .cells b3 [.string (bs (B5)), .int .i64 (c5)] 27, .cells b2 [.string (bs ([])), .int .i64 (0)] 27] w := O
              refine ⟨fun _ => (SC.cons (O.load 2 rfl rfl) (SC.cons (O.load 2 rfl rfl) SC.nil)), ?_⟩
              have hS : SC [(b3, 0, .string (bs (B5))), (b3, 0 + 1, .int .i64 (c5))] w := (SC.cons (O.load 2 rfl rfl) (SC.cons (O.load 2 rfl rfl) SC.nil))
              refine d_one 8 (by kernel_rfl) (d_op rfl F rfl (o_storeA (vs := [.string (bs (apB B5 c5 L22)), .int .i64 (apN B5 c5 L22)]) F O rfl rfl Try.sz_27 (by simp [Value.oneCell']) 0 rfl rfl fun w O => ?_))
              have O : Own w0 [g] [.cells b6 [.string (bs (apB B5 c5 L22)), .int .i64 (apN B5 c5 L22)] 27, .cells g [.slice A cn cc, .int .i64 (q22)] 67, .cells b3 [.string (bs (B5)), .int .i64 (c5)] 27, .cells b2 [.string (bs ([])), .int .i64 (0)] 27] w := O
              refine ⟨fun _ => (SC.cons (O.load 2 rfl rfl) (SC.cons (O.load 2 rfl rfl) SC.nil)), ?_⟩
              have hS : SC [(b3, 0, .string (bs (B5))), (b3, 0 + 1, .int .i64 (c5))] w := (SC.cons (O.load 2 rfl rfl) (SC.cons (O.load 2 rfl rfl) SC.nil))
              refine d_take 9 rfl (by kernel_rfl) F (p_assign rfl) rfl rfl hS fun a F => d_done (by kernel_rfl) (?_)
              have F : Has 57 [(0, .pointer (some ⟨g, 0, none⟩)), (2, .pointer (some ⟨b2, 0, none⟩)), (3, .pointer (some ⟨b3, 0, none⟩)), (4, .int .i64 (m)), (5, .int .i64 (i)), (16, .bool true), (6, .pointer (some ⟨b6, 0, none⟩)), (7, .bool (decide (((B5.length : Int) ≤ 120 ∧ 0 ≤ c5 ∧ c5 ≤ (B5.length : Int)) ∧ (1 ≤ (L22.length : Int) ∧ (L22.length : Int) ≤ 12) ∧ (B5.length : Int) + L22.length + 2 ≤ 120)))] a := F.pick ⟨rfl, rfl, rfl, rfl, rfl, rfl, rfl, rfl, trivial⟩
              exact ⟨L22, q22, b6, F, O, h22a, h22b, h22c⟩
            · refine d_op rfl F rfl (o_alloc F O Try.zero_27 rfl fun b6 w O a F => ?_)
              have O : Own w0 [g] [.cells b6 [.string (bs ([])), .int .i64 (0)] 27, .cells g [.slice A cn cc, .int .i64 (q22)] 67, .cells b3 [.string (bs (B5)), .int .i64 (c5)] 27, .cells b2 [.string (bs ([])), .int .i64 (0)] 27] w := O
              refine ⟨fun _ => (SC.cons (O.load 2 rfl rfl) (SC.cons (O.load 2 rfl rfl) SC.nil)), ?_⟩
              have hS : SC [(b3, 0, .string (bs (B5))), (b3, 0 + 1, .int .i64 (c5))] w := (SC.cons (O.load 2 rfl rfl) (SC.cons (O.load 2 rfl rfl) SC.nil))
              refine d_one 3 (by kernel_rfl) (d_op rfl F rfl (o_call (vs := #[.agg #[.string (bs (B5)), .int .i64 (c5)], .string (bs (L22))]) F Try.en_35 rfl rfl ((sLogAppend_ok B5 c5 L22 w (by omega) (by omega)).mono ?_)))
              rintro e w ⟨rfl, K⟩
              refine ⟨_, rfl, fun a F => ?_⟩
              have O : Own w0 [g] [.cells b6 [.string (bs ([])), .int .i64 (0)] 27, .cells g [.slice A cn cc, .int .i64 (q22)] 67, .cells b3 [.string (bs (B5)), .int .i64 (c5)] 27, .cells b2 [.string (bs ([])), .int .i64 (0)] 27] w := O.call0 K
              clear K
              have O : Own w0 [g] [.cells b6 [.string (bs ([])), .int .i64 (0)] 27, .cells g [.slice A cn cc, .int .i64 (q22)] 67, .cells b3 [.string (bs (B5)), .int .i64 (c5)] 27, .cells b2 [.string (bs ([])), .int .i64 (0)] 27] w := O
              refine ⟨fun _ => (SC.cons (O.load 2 rfl rfl) (SC.cons (O.load 2 rfl rfl) SC.nil)), ?_⟩
              have hS : SC [(b3, 0, .string (bs (B5))), (b3, 0 + 1, .int .i64 (c5))] w := (SC.cons (O.load 2 rfl rfl) (SC.cons (O.load 2 rfl rfl) SC.nil))
              refine d_take 4 rfl (by kernel_rfl) F (p_move rfl) rfl rfl hS fun a F => d_take 5 rfl (by kernel_rfl) F (p_extract rfl rfl) rfl rfl hS fun a F => d_take 6 rfl (by kernel_rfl) F (p_extract rfl rfl) rfl rfl hS fun a F => d_one 8 (by kernel_rfl) (d_op rfl F rfl (o_storeA (vs := [.string (bs (apB B5 c5 L22)), .int .i64 (apN B5 c5 L22)]) F O rfl rfl Try.sz_27 (by simp [Value.oneCell']) 0 rfl rfl fun w O => ?_))
              have O : Own w0 [g] [.cells b6 [.string (bs (apB B5 c5 L22)), .int .i64 (apN B5 c5 L22)] 27, .cells g [.slice A cn cc, .int .i64 (q22)] 67, .cells b3 [.string (bs (B5)), .int .i64 (c5)] 27, .cells b2 [.string (bs ([])), .int .i64 (0)] 27] w := O
              refine ⟨fun _ => (SC.cons (O.load 2 rfl rfl) (SC.cons (O.load 2 rfl rfl) SC.nil)), ?_⟩
              have hS : SC [(b3, 0, .string (bs (B5))), (b3, 0 + 1, .int .i64 (c5))] w := (SC.cons (O.load 2 rfl rfl) (SC.cons (O.load 2 rfl rfl) SC.nil))
              refine d_take 9 rfl (by kernel_rfl) F (p_assign rfl) rfl rfl hS fun a F => d_done (by kernel_rfl) (?_)
              have F : Has 57 [(0, .pointer (some ⟨g, 0, none⟩)), (2, .pointer (some ⟨b2, 0, none⟩)), (3, .pointer (some ⟨b3, 0, none⟩)), (4, .int .i64 (m)), (5, .int .i64 (i)), (16, .bool true), (6, .pointer (some ⟨b6, 0, none⟩)), (7, .bool (decide (((B5.length : Int) ≤ 120 ∧ 0 ≤ c5 ∧ c5 ≤ (B5.length : Int)) ∧ (1 ≤ (L22.length : Int) ∧ (L22.length : Int) ≤ 12) ∧ (B5.length : Int) + L22.length + 2 ≤ 120)))] a := F.pick ⟨rfl, rfl, rfl, rfl, rfl, rfl, rfl, rfl, trivial⟩
              exact ⟨L22, q22, b6, F, O, h22a, h22b, h22c⟩
          · refine d_op rfl F rfl (o_alloc F O Try.zero_27 rfl fun b6 w O a F => ?_)
            have O : Own w0 [g] [.cells b6 [.string (bs ([])), .int .i64 (0)] 27, .cells g [.slice A cn cc, .int .i64 (q)] 67, .cells b3 [.string (bs (B5)), .int .i64 (c5)] 27, .cells b2 [.string (bs ([])), .int .i64 (0)] 27] w := O
            refine ⟨fun _ => (SC.cons (O.load 2 rfl rfl) (SC.cons (O.load 2 rfl rfl) SC.nil)), ?_⟩
            have hS : SC [(b3, 0, .string (bs (B5))), (b3, 0 + 1, .int .i64 (c5))] w := (SC.cons (O.load 2 rfl rfl) (SC.cons (O.load 2 rfl rfl) SC.nil))
            refine d_one 2 (by kernel_rfl) (?_)
            have O := O.pull 1 rfl
            have O : Own w0 [g] [.cells g [.slice A cn cc, .int .i64 (q)] 67, .cells b6 [.string (bs ([])), .int .i64 (0)] 27, .cells b3 [.string (bs (B5)), .int .i64 (c5)] 27, .cells b2 [.string (bs ([])), .int .i64 (0)] 27] w := O
            refine d_op rfl F rfl (o_call (vs := #[.pointer (some ⟨g, 0, none⟩)]) F Try.en_55 rfl rfl ((l91Record_ok g A cn cc q w (hCode.keep O (by simp)) (by omega) (by omega) (O.hand1 rfl)).mono ?_))
            rintro e w ⟨L22, q22, rfl, h22a, h22b, h22c, K⟩
            refine ⟨_, rfl, fun a F => ?_⟩
            have O : Own w0 [g] [.cells g [.slice A cn cc, .int .i64 (q22)] 67, .cells b6 [.string (bs ([])), .int .i64 (0)] 27, .cells b3 [.string (bs (B5)), .int .i64 (c5)] 27, .cells b2 [.string (bs ([])), .int .i64 (0)] 27] w := O.call1 K rfl
            clear K
            have O : Own w0 [g] [.cells g [.slice A cn cc, .int .i64 (q22)] 67, .cells b6 [.string (bs ([])), .int .i64 (0)] 27, .cells b3 [.string (bs (B5)), .int .i64 (c5)] 27, .cells b2 [.string (bs ([])), .int .i64 (0)] 27] w := O
            refine ⟨fun _ => (SC.cons (O.load 2 rfl rfl) (SC.cons (O.load 2 rfl rfl) SC.nil)), ?_⟩
            have hS : SC [(b3, 0, .string (bs (B5))), (b3, 0 + 1, .int .i64 (c5))] w := (SC.cons (O.load 2 rfl rfl) (SC.cons (O.load 2 rfl rfl) SC.nil))
            refine d_one 3 (by kernel_rfl) (d_op rfl F rfl (o_call (vs := #[.agg #[.string (bs (B5)), .int .i64 (c5)], .string (bs (L22))]) F Try.en_35 rfl rfl ((sLogAppend_ok B5 c5 L22 w (by omega) (by omega)).mono ?_)))
            rintro e w ⟨rfl, K⟩
            refine ⟨_, rfl, fun a F => ?_⟩
            have O : Own w0 [g] [.cells g [.slice A cn cc, .int .i64 (q22)] 67, .cells b6 [.string (bs ([])), .int .i64 (0)] 27, .cells b3 [.string (bs (B5)), .int .i64 (c5)] 27, .cells b2 [.string (bs ([])), .int .i64 (0)] 27] w := O.call0 K
            clear K
            have O : Own w0 [g] [.cells g [.slice A cn cc, .int .i64 (q22)] 67, .cells b6 [.string (bs ([])), .int .i64 (0)] 27, .cells b3 [.string (bs (B5)), .int .i64 (c5)] 27, .cells b2 [.string (bs ([])), .int .i64 (0)] 27] w := O
            refine ⟨fun _ => (SC.cons (O.load 2 rfl rfl) (SC.cons (O.load 2 rfl rfl) SC.nil)), ?_⟩
            have hS : SC [(b3, 0, .string (bs (B5))), (b3, 0 + 1, .int .i64 (c5))] w := (SC.cons (O.load 2 rfl rfl) (SC.cons (O.load 2 rfl rfl) SC.nil))
            refine d_take 4 rfl (by kernel_rfl) F (p_move rfl) rfl rfl hS fun a F => d_take 5 rfl (by kernel_rfl) F (p_extract rfl rfl) rfl rfl hS fun a F => d_take 6 rfl (by kernel_rfl) F (p_extract rfl rfl) rfl rfl hS fun a F => d_one 8 (by kernel_rfl) (d_op rfl F rfl (o_storeA (vs := [.string (bs (apB B5 c5 L22)), .int .i64 (apN B5 c5 L22)]) F O rfl rfl Try.sz_27 (by simp [Value.oneCell']) 1 rfl rfl fun w O => ?_))
            have O : Own w0 [g] [.cells g [.slice A cn cc, .int .i64 (q22)] 67, .cells b6 [.string (bs (apB B5 c5 L22)), .int .i64 (apN B5 c5 L22)] 27, .cells b3 [.string (bs (B5)), .int .i64 (c5)] 27, .cells b2 [.string (bs ([])), .int .i64 (0)] 27] w := O
            refine ⟨fun _ => (SC.cons (O.load 2 rfl rfl) (SC.cons (O.load 2 rfl rfl) SC.nil)), ?_⟩
            have hS : SC [(b3, 0, .string (bs (B5))), (b3, 0 + 1, .int .i64 (c5))] w := (SC.cons (O.load 2 rfl rfl) (SC.cons (O.load 2 rfl rfl) SC.nil))
            refine d_take 9 rfl (by kernel_rfl) F (p_assign rfl) rfl rfl hS fun a F => d_done (by kernel_rfl) (?_)
            have F : Has 57 [(0, .pointer (some ⟨g, 0, none⟩)), (2, .pointer (some ⟨b2, 0, none⟩)), (3, .pointer (some ⟨b3, 0, none⟩)), (4, .int .i64 (m)), (5, .int .i64 (i)), (16, .bool true), (6, .pointer (some ⟨b6, 0, none⟩)), (7, .bool (decide (((B5.length : Int) ≤ 120 ∧ 0 ≤ c5 ∧ c5 ≤ (B5.length : Int)) ∧ (1 ≤ (L22.length : Int) ∧ (L22.length : Int) ≤ 12) ∧ (B5.length : Int) + L22.length + 2 ≤ 120)))] a := F.pick ⟨rfl, rfl, rfl, rfl, rfl, rfl, rfl, rfl, trivial⟩
            have O : Own w0 [g] [.cells b6 [.string (bs (apB B5 c5 L22)), .int .i64 (apN B5 c5 L22)] 27, .cells g [.slice A cn cc, .int .i64 (q22)] 67, .cells b3 [.string (bs (B5)), .int .i64 (c5)] 27, .cells b2 [.string (bs ([])), .int .i64 (0)] 27] w := ((((O.pull 3 rfl).pull 3 rfl).pull 2 rfl).pull 3 rfl)
            exact ⟨L22, q22, b6, F, O, h22a, h22b, h22c⟩
      · have F := F.setB (d := 16) rfl (decide_eq_false c16)
        refine c_iff F rfl (wp_exit (e_then (e_then (e_here (hK4 _ _ (?_))))))
        try clear hK4 K4
        refine c_mid (fun a w => ∃ (B7 : List UInt8), ∃ (c7 : Int), ∃ (q7 : Int), Has 57 [(0, .pointer (some ⟨g, 0, none⟩)), (2, .pointer (some ⟨b2, 0, none⟩)), (3, .pointer (some ⟨b3, 0, none⟩)), (4, .int .i64 (m)), (5, .int .i64 (i)), (16, .bool false)] a ∧ Own w0 [g] [.cells g [.slice A cn cc, .int .i64 (q7)] 67, .cells b3 [.string (bs (B7)), .int .i64 (c7)] 27, .cells b2 [.string (bs ([])), .int .i64 (0)] 27] w ∧ ((B7.length : Int) ≤ 121) ∧ (-1 ≤ c7) ∧ (c7 ≤ 129) ∧ (p ≤ q7) ∧ (q7 ≤ p + 2000)) ?_ ?_
        · refine c_seq fun K8 hK8 => c_region (sp F (p_move rfl) rfl rfl fun a F => so F rfl (o_call (vs := #[.pointer (some ⟨g, 0, none⟩), .int .i64 (16)]) F Try.en_61 rfl rfl ((pick_ok g A cn cc q 16 67 w (hCode.keep O (by simp)) (by omega) (by omega) (by omega) (by omega) (O.hand1 rfl)).mono ?_)))
          rintro e w ⟨r34, rfl, h34a, h34b, K⟩
          refine ⟨_, rfl, fun a F => ?_⟩
          have O : Own w0 [g] [.cells g [.slice A cn cc, .int .i64 (q + 1)] 67, .cells b3 [.string (bs (B5)), .int .i64 (c5)] 27, .cells b2 [.string (bs ([])), .int .i64 (0)] 27] w := O.call1 K rfl
          clear K
          have O : Own w0 [g] [.cells g [.slice A cn cc, .int .i64 (q + 1)] 67, .cells b3 [.string (bs (B5)), .int .i64 (c5)] 27, .cells b2 [.string (bs ([])), .int .i64 (0)] 27] w := O
          refine c_nil (hK8 _ _ (?_))
          try clear hK8 K8
          refine wp_block (c_seq fun K9 hK9 => c_region (sp F (p_eql rfl rfl) rfl rfl fun a F => sp F (p_assign rfl) rfl rfl fun a F => c_nil (hK9 _ _ (?_))))
          try clear hK9 K9
          by_cases c35 : r34 = 0
          · have F := F.setB (d := 36) rfl (decide_eq_true c35)
            have F := F.setB (d := 35) rfl (decide_eq_true c35)
            refine c_ift F rfl (c_seq fun K10 hK10 => c_region (sp F (p_faddr rfl Try.foff_27_0) rfl rfl fun a F => sp F (p_load rfl Try.agg_9 (fun _ h => (ld1 (O.load 1 rfl rfl) h))) rfl rfl fun a F => sp F (p_len_b rfl Try.underlying9) rfl rfl fun a F => sp F (p_lss rfl rfl) rfl rfl fun a F => c_nil (hK10 _ _ (?_))))
            try clear hK10 K10
            by_cases c40 : (B5.length : Int) < 120
            · have F := F.setB (d := 40) rfl (decide_eq_true c40)
              refine c_ift F rfl (?_)
              refine c_draw Try.mixed (SC [(b3, 0, .string (bs (B5)))]) [9] _ (fun a w h => h) ?_
              have O := O.drawn (w.drawn + 1)
              generalize { w with drawn := w.drawn + 1 } = w at O ⊢
              have hS : SC [(b3, 0, .string (bs (B5)))] w := (SC.cons (O.load 1 rfl rfl) SC.nil)
              refine d_take 0 rfl (by kernel_rfl) F (p_faddr rfl Try.foff_27_0) rfl rfl hS fun a F => d_take 1 rfl (by kernel_rfl) F (p_load rfl Try.agg_9 (fun _ h => (SC.get h 0 rfl))) rfl rfl hS fun a F => d_take 2 rfl (by kernel_rfl) F (p_move rfl) rfl rfl hS fun a F => d_one 3 (by kernel_rfl) (d_op rfl F rfl (o_call (vs := #[.pointer (some ⟨g, 0, none⟩), .int .i64 (16)]) F Try.en_61 rfl rfl ((pick_ok g A cn cc (q + 1) 16 67 w (hCode.keep O (by simp)) (by omega) (by omega) (by omega) (by omega) (O.hand1 rfl)).mono ?_)))
              rintro e w ⟨r44, rfl, h44a, h44b, K⟩
              refine ⟨_, rfl, fun a F => ?_⟩
              have O : Own w0 [g] [.cells g [.slice A cn cc, .int .i64 ((q + 1) + 1)] 67, .cells b3 [.string (bs (B5)), .int .i64 (c5)] 27, .cells b2 [.string (bs ([])), .int .i64 (0)] 27] w := O.call1 K rfl
              clear K
              have O : Own w0 [g] [.cells g [.slice A cn cc, .int .i64 ((q + 1) + 1)] 67, .cells b3 [.string (bs (B5)), .int .i64 (c5)] 27, .cells b2 [.string (bs ([])), .int .i64 (0)] 27] w := O
              refine ⟨fun _ => (SC.cons (O.load 1 rfl rfl) SC.nil), ?_⟩
              have hS : SC [(b3, 0, .string (bs (B5)))] w := (SC.cons (O.load 1 rfl rfl) SC.nil)
              refine d_take 4 rfl (by kernel_rfl) F (p_convu8s rfl (by rw [Try.underlying3]; rfl) Try.underlying5 (by omega) (by omega)) rfl rfl hS fun a F => d_one 5 (by kernel_rfl) (d_op rfl F rfl (o_bslice (cs := [.int .u8 (r44)]) F O rfl Try.underlying34 Try.sz_5 Try.zero_5 rfl rfl rfl fun b46 w O a F => ?_))
              have O : Own w0 [g] [.cells b46 [.int .u8 (r44)] 5, .cells g [.slice A cn cc, .int .i64 ((q + 1) + 1)] 67, .cells b3 [.string (bs (B5)), .int .i64 (c5)] 27, .cells b2 [.string (bs ([])), .int .i64 (0)] 27] w := O
              refine ⟨fun _ => (SC.cons (O.load 2 rfl rfl) SC.nil), ?_⟩
              have hS : SC [(b3, 0, .string (bs (B5)))] w := (SC.cons (O.load 2 rfl rfl) SC.nil)
              refine d_one 6 (by kernel_rfl) (d_op rfl F rfl (o_pure F (p_cbs1 rfl Try.underlying34 Try.underlying5 Try.underlying9 (by omega) (by omega) (fun _ h => ld1 (O.load 0 rfl rfl) h)) rfl fun a F => ?_))
              have O : Own w0 [g] [.cells b46 [.int .u8 (r44)] 5, .cells g [.slice A cn cc, .int .i64 ((q + 1) + 1)] 67, .cells b3 [.string (bs (B5)), .int .i64 (c5)] 27, .cells b2 [.string (bs ([])), .int .i64 (0)] 27] w := O
              refine ⟨fun _ => (SC.cons (O.load 2 rfl rfl) SC.nil), ?_⟩
              have hS : SC [(b3, 0, .string (bs (B5)))] w := (SC.cons (O.load 2 rfl rfl) SC.nil)
              refine d_take 7 rfl (by kernel_rfl) F (p_cat rfl rfl (by first | omega | (simp; done) | (simp; omega))) rfl rfl hS fun a F => d_take 8 rfl (by kernel_rfl) F (p_faddr rfl Try.foff_27_0) rfl rfl hS fun a F => d_one 9 (by kernel_rfl) (d_op rfl F rfl (o_store F O rfl rfl Try.sz_9 rfl rfl 2 rfl rfl fun w O => ?_))
              have O : Own w0 [g] [.cells b46 [.int .u8 (r44)] 5, .cells g [.slice A cn cc, .int .i64 ((q + 1) + 1)] 67, .cells b3 [.string (bs (B5 ++ ([UInt8.ofNat (r44 : Int).toNat]))), .int .i64 (c5)] 27, .cells b2 [.string (bs ([])), .int .i64 (0)] 27] w := O
              refine ⟨fun h => absurd h (by decide), ?_⟩
              refine d_done (by kernel_rfl) (?_)
              have F : Has 57 [(0, .pointer (some ⟨g, 0, none⟩)), (2, .pointer (some ⟨b2, 0, none⟩)), (3, .pointer (some ⟨b3, 0, none⟩)), (4, .int .i64 (m)), (5, .int .i64 (i)), (16, .bool false)] a := F.pick ⟨rfl, rfl, rfl, rfl, rfl, rfl, trivial⟩
              have O : Own w0 [g] [.cells g [.slice A cn cc, .int .i64 ((q + 1) + 1)] 67, .cells b3 [.string (bs (B5 ++ ([UInt8.ofNat (r44 : Int).toNat]))), .int .i64 (c5)] 27, .cells b2 [.string (bs ([])), .int .i64 (0)] 27] w := ((((O.pull 3 rfl).pull 3 rfl).pull 3 rfl).take 3)
              exact ⟨(B5 ++ ([UInt8.ofNat (r44 : Int).toNat])), c5, ((q + 1) + 1), F, O, by first | omega | (simp; omega), by first | assumption | omega, by first | assumption | omega, by first | assumption | omega, by first | assumption | omega⟩
            · have F := F.setB (d := 40) rfl (decide_eq_false c40)
              refine c_iff F rfl (wp_skip (?_))
              have F : Has 57 [(0, .pointer (some ⟨g, 0, none⟩)), (2, .pointer (some ⟨b2, 0, none⟩)), (3, .pointer (some ⟨b3, 0, none⟩)), (4, .int .i64 (m)), (5, .int .i64 (i)), (16, .bool false)] a := F.pick ⟨rfl, rfl, rfl, rfl, rfl, rfl, trivial⟩
              exact ⟨B5, c5, (q + 1), F, O, by first | omega | (simp; omega), by first | assumption | omega, by first | assumption | omega, by first | assumption | omega, by first | assumption | omega⟩
          · have F := F.setB (d := 36) rfl (decide_eq_false c35)
            have F := F.setB (d := 35) rfl (decide_eq_false c35)
            refine c_iff F rfl (c_seq fun K10 hK10 => c_region (sp F (p_eql rfl rfl) rfl rfl fun a F => sp F (p_assign rfl) rfl rfl fun a F => c_nil (hK10 _ _ (?_))))
            try clear hK10 K10
            by_cases c50 : r34 = 1
            · have F := F.setB (d := 51) rfl (decide_eq_true c50)
              have F := F.setB (d := 50) rfl (decide_eq_true c50)
              refine c_ift F rfl (c_region (sp F (p_move rfl) rfl rfl fun a F => so F rfl (o_call (vs := #[.pointer (some ⟨g, 0, none⟩), .int .i64 (130)]) F Try.en_61 rfl rfl ((pick_ok g A cn cc (q + 1) 130 67 w (hCode.keep O (by simp)) (by omega) (by omega) (by omega) (by omega) (O.hand1 rfl)).mono ?_))))
              rintro e w ⟨r53, rfl, h53a, h53b, K⟩
              refine ⟨_, rfl, fun a F => ?_⟩
              have O : Own w0 [g] [.cells g [.slice A cn cc, .int .i64 ((q + 1) + 1)] 67, .cells b3 [.string (bs (B5)), .int .i64 (c5)] 27, .cells b2 [.string (bs ([])), .int .i64 (0)] 27] w := O.call1 K rfl
              clear K
              have O : Own w0 [g] [.cells g [.slice A cn cc, .int .i64 ((q + 1) + 1)] 67, .cells b3 [.string (bs (B5)), .int .i64 (c5)] 27, .cells b2 [.string (bs ([])), .int .i64 (0)] 27] w := O
              refine sp F (p_sub rfl rfl (by omega) (by omega)) rfl rfl fun a F => sp F (p_faddr rfl Try.foff_27_1) rfl rfl fun a F => so F rfl (o_store F O rfl rfl Try.sz_3 rfl rfl 1 rfl rfl fun w O => ?_)
              have O : Own w0 [g] [.cells g [.slice A cn cc, .int .i64 ((q + 1) + 1)] 67, .cells b3 [.string (bs (B5)), .int .i64 (r53 - 1)] 27, .cells b2 [.string (bs ([])), .int .i64 (0)] 27] w := O
              refine c_nil (?_)
              have F : Has 57 [(0, .pointer (some ⟨g, 0, none⟩)), (2, .pointer (some ⟨b2, 0, none⟩)), (3, .pointer (some ⟨b3, 0, none⟩)), (4, .int .i64 (m)), (5, .int .i64 (i)), (16, .bool false)] a := F.pick ⟨rfl, rfl, rfl, rfl, rfl, rfl, trivial⟩
              exact ⟨B5, (r53 - 1), ((q + 1) + 1), F, O, by first | omega | (simp; omega), by first | assumption | omega, by first | assumption | omega, by first | assumption | omega, by first | assumption | omega⟩
            · have F := F.setB (d := 51) rfl (decide_eq_false c50)
              have F := F.setB (d := 50) rfl (decide_eq_false c50)
              refine c_iff F rfl (wp_skip (?_))
              have F : Has 57 [(0, .pointer (some ⟨g, 0, none⟩)), (2, .pointer (some ⟨b2, 0, none⟩)), (3, .pointer (some ⟨b3, 0, none⟩)), (4, .int .i64 (m)), (5, .int .i64 (i)), (16, .bool false)] a := F.pick ⟨rfl, rfl, rfl, rfl, rfl, rfl, trivial⟩
              exact ⟨B5, c5, (q + 1), F, O, by first | omega | (simp; omega), by first | assumption | omega, by first | assumption | omega, by first | assumption | omega, by first | assumption | omega⟩
        · rintro a w ⟨B7, c7, q7, F, O, hm2a, hm2b, hm2c, hm2d, hm2e⟩
          refine c_seq fun K8 hK8 => c_region (sp F (p_loadC (cs := [.string (bs (B7)), .int .i64 (c7)]) rfl Try.agg_27 Try.sz_27 (fun _ h => (CA.cons (ld1 (O.load 1 rfl rfl) h) (CA.cons (ld1 (O.load 1 rfl rfl) h) CA.nil)))) rfl rfl fun a F => so F rfl (o_storeA (vs := [.string (bs (B7)), .int .i64 (c7)]) F O rfl rfl Try.sz_27 (by simp [Value.oneCell']) 2 rfl rfl fun w O => ?_))
          have O : Own w0 [g] [.cells g [.slice A cn cc, .int .i64 (q7)] 67, .cells b3 [.string (bs (B7)), .int .i64 (c7)] 27, .cells b2 [.string (bs (B7)), .int .i64 (c7)] 27] w := O
          refine c_nil (hK8 _ _ (?_))
          try clear hK8 K8
          refine wp_ret (retC F O rfl rfl 2 rfl Try.agg_27 Try.sz_27 (?_))
          have O : Own w0 [g] [.cells g [.slice A cn cc, .int .i64 (q7)] 67] w := (O.take 1)
          exact ⟨B7, c7, q7, rfl, by first | assumption | omega, by first | assumption | omega, by first | assumption | omega, by first | assumption | omega, by first | assumption | omega, O⟩

end Go.Proofs.Ytklgkfknifkbaaa
