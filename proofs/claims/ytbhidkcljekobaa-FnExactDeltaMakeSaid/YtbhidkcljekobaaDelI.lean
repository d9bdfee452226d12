/- The contract of the program's DeltaMake. No conditions but those on lengths, and that the library's one variable holds a number. -/
import Derived.Test.YtbhidkcljekobaaDelO
namespace Go.Proofs.Ytbhidkcljekobaa
open Go.ChangeShapes Go.WideShapes Go.ChangeAt Go.RowKit
set_option linter.unusedVariables false
set_option linter.unusedSimpArgs false


def chR : List (Nat × Int × Int × List UInt8) → List Res
  | [] => []
  | x :: r => .cells x.1 [.int .i64 x.2.1, .int .i64 x.2.2.1, .string (bs x.2.2.2), chP r] 74 :: chR r
theorem ch_of {w0 w : World} {X : List Nat} : ∀ {M : List (Nat × Int × Int × List UInt8)}, Own w0 X (chR M) w → ChAt w M
  | [], _ => trivial
  | x :: r, O => ⟨World.block_lt_of_cell? w ⟨x.1, 0, none⟩ (O.load 0 rfl rfl), O.load 0 rfl rfl, O.load 0 rfl rfl, O.load 0 rfl rfl, O.load 0 rfl rfl, ch_of (M := r) O.drop⟩
section
variable {b t t0 : List UInt8} {M r : List (Nat × Int × Int × List UInt8)} {nd : Nat × Int × Int × List UInt8}
theorem mk_copy {k : Nat} {z : Int} (h : MkAt b t0 t ((M.map (·.2)).reverse)) (ht : 0 < t.length) (hz : z = longZ b t) (h2 : 2 ≤ z) : MkAt b t0 (t.drop z.toNat) ((((k, longA b t, z, ([] : List UInt8)) :: M).map (·.2)).reverse) := by
  have := mkAt_copy h ht hz h2
  simpa using this
theorem mk_more (h : MkAt b t0 t (((nd :: r).map (·.2)).reverse)) (ht : 0 < t.length) (h2 : ¬ 2 ≤ longZ b t) (hs : nd.2.2.1 = 0) : MkAt b t0 (t.drop 1) ((((nd.1, nd.2.1, nd.2.2.1, nd.2.2.2 ++ t.take 1) :: r).map (·.2)).reverse) := by
  have := mkAt_more (k := (r.length : Int)) (e := nd.2) h ht h2 (by simp) (by omega) (by simp) hs
  simpa using this
theorem mk_new {k : Nat} (h : MkAt b t0 t ((M.map (·.2)).reverse)) (ht : 0 < t.length) (h2 : ¬ 2 ≤ longZ b t) (hs : M = [] ∨ ∃ nd r, M = nd :: r ∧ ¬ nd.2.2.1 = 0) : MkAt b t0 (t.drop 1) ((((k, (0 : Int), (0 : Int), t.take 1) :: M).map (·.2)).reverse) := by
  have := mkAt_new h ht h2 (by
    rcases hs with rfl | ⟨nd, r, rfl, hs⟩
    · simp [lastOp]
    · rw [last_get (k := (r.length : Int)) (e := nd.2) (by simp) (by omega) (by simp)]; exact hs)
  simpa using this
end
set_option maxRecDepth 100000 in
/-- impl.DeltaMake -/
theorem iDeltaMake_ok (x : List UInt8) (y : List UInt8) (m0 : Int) (w0 : World) (hx : (x.length : Int) ≤ 9223372036854775807) (hy : (y.length : Int) ≤ 9223372036854775807) (hl_0 : 0 < w0.heap.size) (hm_0_0 : w0.cell? ⟨0, 0, none⟩ = some (.int .i64 (m0))) :
    Calls Try.prog 24 #[.string (bs (x)), .string (bs (y))] w0 fun e w => ∃ (P : Option Addr), ∃ (N : Nat), ∃ (C : Nat), e = .returned (.slice P N C) ∧ ((N : Int) = (makeD x y).length) ∧ ((N : Int) ≤ 1048600) ∧ Own w0 [] [.row 43 3 (.slice P N C) N ((makeD x y).flatMap encOp)] w := by
  have O := Own.start w0
  refine enterO (n := 67) Try.func24 rfl rfl rfl O fun a w F O => ?_
  refine c_seq fun K1 hK1 => c_region (sp F (p_assign rfl) rfl rfl fun a F => c_nil (hK1 _ _ (?_)))
  try clear hK1 K1
  refine c_seq fun K2 hK2 => c_seq fun K3 hK3 => c_region (sp F (p_move rfl) rfl rfl fun a F => sp F (p_len_b rfl Try.underlying9) rfl rfl fun a F => sp F (p_gtr rfl rfl) rfl rfl fun a F => sp F (p_move rfl) rfl rfl fun a F => ?_)
  by_cases c11 : 8 < (x.length : Int)
  · have F := F.setB (d := 10) rfl (decide_eq_true c11)
    have F := F.setB (d := 11) rfl (decide_eq_true c11)
    refine ss F rfl rfl fun a F => ss F rfl rfl fun a F => ss F rfl rfl fun a F => sp F (p_pick (t := true) rfl rfl) rfl rfl fun a F => c_nil (hK3 _ _ (?_))
    try clear hK3 K3
    refine c_ift F rfl (c_seq fun K4 hK4 => c_region (sp F (p_assign rfl) rfl rfl fun a F => c_nil (hK4 _ _ (?_))))
    try clear hK4 K4
    refine wp_ret (r_then (ret1 F rfl rfl (?_)))
    have O := O.addNil 43 3
    have O : Own w0 [] [.row 43 3 (.slice none 0 0) 0 ([])] w := O
    have O := O.setR 0 rfl (show Res.row 43 3 (.slice none 0 0) 0 ([]) = .row 43 3 (.slice none 0 0) 0 ((makeD x y).flatMap encOp) from by first | (rw [makeD_bad (by omega)]; done) | (rw [makeD_bad (by omega)]; rfl) | (rw [makeD_ok ⟨by omega, by omega⟩, ← mkAt_end hi0b (List.length_eq_zero_iff.1 (by omega))]))
    have O : Own w0 [] [.row 43 3 (.slice none 0 0) 0 ((makeD x y).flatMap encOp)] w := O
    exact ⟨none, 0, 0, rfl, by first | (rw [makeD_bad (by omega)]; done) | (rw [makeD_bad (by omega)]; rfl) | (rw [makeD_ok ⟨by omega, by omega⟩, ← mkAt_end hi0b (List.length_eq_zero_iff.1 (by omega))]; omega), by first | assumption | omega, O⟩
  · have F := F.setB (d := 10) rfl (decide_eq_false c11)
    have F := F.setB (d := 11) rfl (decide_eq_false c11)
    refine sp F (p_move rfl) rfl rfl fun a F => sp F (p_len_b rfl Try.underlying9) rfl rfl fun a F => sp F (p_gtr rfl rfl) rfl rfl fun a F => sp F (p_pick (t := false) rfl rfl) rfl rfl fun a F => c_nil (hK3 _ _ (?_))
    try clear hK3 K3
    by_cases c15 : 8 < (y.length : Int)
    · have F := F.setB (d := 14) rfl (decide_eq_true c15)
      have F := F.setB (d := 15) rfl (decide_eq_true c15)
      refine c_ift F rfl (c_seq fun K4 hK4 => c_region (sp F (p_assign rfl) rfl rfl fun a F => c_nil (hK4 _ _ (?_))))
      try clear hK4 K4
      refine wp_ret (r_then (ret1 F rfl rfl (?_)))
      have O := O.addNil 43 3
      have O : Own w0 [] [.row 43 3 (.slice none 0 0) 0 ([])] w := O
      have O := O.setR 0 rfl (show Res.row 43 3 (.slice none 0 0) 0 ([]) = .row 43 3 (.slice none 0 0) 0 ((makeD x y).flatMap encOp) from by first | (rw [makeD_bad (by omega)]; done) | (rw [makeD_bad (by omega)]; rfl) | (rw [makeD_ok ⟨by omega, by omega⟩, ← mkAt_end hi0b (List.length_eq_zero_iff.1 (by omega))]))
      have O : Own w0 [] [.row 43 3 (.slice none 0 0) 0 ((makeD x y).flatMap encOp)] w := O
      exact ⟨none, 0, 0, rfl, by first | (rw [makeD_bad (by omega)]; done) | (rw [makeD_bad (by omega)]; rfl) | (rw [makeD_ok ⟨by omega, by omega⟩, ← mkAt_end hi0b (List.length_eq_zero_iff.1 (by omega))]; omega), by first | assumption | omega, O⟩
    · have F := F.setB (d := 14) rfl (decide_eq_false c15)
      have F := F.setB (d := 15) rfl (decide_eq_false c15)
      refine c_iff F rfl (wp_skip (hK2 _ _ (?_)))
      try clear hK2 K2
      refine c_seq fun K4 hK4 => c_region (sp F (p_assign rfl) rfl rfl fun a F => c_nil (hK4 _ _ (?_)))
      try clear hK4 K4
      refine c_seq fun K5 hK5 => wp_block (?_)
      refine c_loop (fun mm a w => ∃ (M : List (Nat × Int × Int × List UInt8)), ∃ (t : List UInt8), mm = (t.length : Int).toNat ∧ Has 67 [(0, .string (bs (x))), (4, .slice none 0 0), (15, .bool false), (1, .string (bs (t))), (5, chP M)] a ∧ Own w0 [] ([] ++ chR M) w ∧ ((M.length : Int) + t.length ≤ 8) ∧ (MkAt x y t ((M.map (·.2)).reverse)) ∧ (∀ o ∈ M, (o.2.2.2.length : Int) ≤ 8 - t.length)) ?_ ?_
      · have O : Own w0 [] ([] ++ chR ([])) w := O
        have F : Has 67 [(0, .string (bs (x))), (4, .slice none 0 0), (15, .bool false), (1, .string (bs (y))), (5, chP ([]))] a := F.pick ⟨rfl, rfl, rfl, rfl, rfl, trivial⟩
        exact ⟨(y.length : Int).toNat, ([]), y, rfl, F, O, by simp; omega, by exact mkAt_zero, by simp⟩
      · rintro mm a w ⟨M, t, rfl, F, O, hi0a, hi0b, hi0c⟩
        refine c_seq fun K6 hK6 => c_seq fun K7 hK7 => c_region (sp F (p_move rfl) rfl rfl fun a F => sp F (p_len_b rfl Try.underlying9) rfl rfl fun a F => sp F (p_gtr rfl rfl) rfl rfl fun a F => c_nil (hK7 _ _ (?_)))
        try clear hK7 K7
        by_cases c18 : 0 < (t.length : Int)
        · have F := F.setB (d := 18) rfl (decide_eq_true c18)
          refine c_ift F rfl (wp_skip (hK6 _ _ (?_)))
          try clear hK6 K6
          refine wp_block (c_seq fun K8 hK8 => c_region (sp F (p_move rfl) rfl rfl fun a F => sp F (p_move rfl) rfl rfl fun a F => so F rfl (o_call (vs := #[.string (bs (x)), .string (bs (t))]) F Try.en_44 rfl rfl ((longest_ok x t m0 w (by omega) (by omega) (Nat.lt_of_lt_of_le hl_0 O.size) (((O.old hl_0 (by simp)).trans hm_0_0))).mono ?_))))
          rintro e w ⟨rfl, K⟩
          refine ⟨_, rfl, fun a F => ?_⟩
          have O : Own w0 [] ([] ++ chR M) w := O.call0 K
          clear K
          have O : Own w0 [] ([] ++ chR M) w := O
          refine sp F (p_move rfl) rfl rfl fun a F => sp F (p_extract rfl rfl) rfl rfl fun a F => sp F (p_extract rfl rfl) rfl rfl fun a F => sp F (p_assign rfl) rfl rfl fun a F => sp F (p_assign rfl) rfl rfl fun a F => c_nil (hK8 _ _ (?_))
          try clear hK8 K8
          refine c_seq fun K9 hK9 => wp_block (c_seq fun K10 hK10 => ?_)
          have hZ := longZ_le (b := x) (t := t)
          have hdl : ((t.drop (longZ x t : Int).toNat).length : Int) = t.length - longZ x t := by rw [List.length_drop]; omega
          have hd1 : ((t.drop (1 : Int).toNat).length : Int) = t.length - 1 := by rw [List.length_drop]; omega
          have htk : ((t.take (1 : Int).toNat).length : Int) = 1 := by rw [List.length_take]; omega
          refine c_region (sp F (p_move rfl) rfl rfl fun a F => sp F (p_geq rfl rfl) rfl rfl fun a F => sp F (p_assign rfl) rfl rfl fun a F => c_nil (hK10 _ _ (?_)))
          try clear hK10 K10
          by_cases c31 : 2 ≤ (longZ x t)
          · have F := F.setB (d := 33) rfl (decide_eq_true c31)
            have F := F.setB (d := 31) rfl (decide_eq_true c31)
            refine c_ift F rfl (?_)
            by_cases cs9 : M = []
            · subst cs9
              have O : Own w0 [] [] w := O
              refine c_region (sp F (p_move rfl) rfl rfl fun a F => sp F (p_move rfl) rfl rfl fun a F => sp F (p_build (cs := [.int .i64 (longA x t), .int .i64 (longZ x t), .string (bs ([]))]) rfl Try.places_43 rfl) rfl rfl fun a F => sp F (p_move rfl) rfl rfl fun a F => sp F (p_build (cs := [.int .i64 (longA x t), .int .i64 (longZ x t), .string (bs ([])), .pointer none]) rfl Try.places_74 rfl) rfl rfl fun a F => so F rfl (o_box F O rfl rfl fun b39 w O a F => ?_))
              have O : Own w0 [] [.cells b39 [.int .i64 (longA x t), .int .i64 (longZ x t), .string (bs ([])), .pointer none] 74] w := O
              refine sp F (p_assign rfl) rfl rfl fun a F => c_nil (hK9 _ _ (?_))
              try clear hK9 K9
              refine c_region (sp F (p_move rfl) rfl rfl fun a F => sp F (p_move rfl) rfl rfl fun a F => sp F (p_sfrom rfl rfl Try.underlying9 (by omega) (by omega)) rfl rfl fun a F => sp F (p_assign rfl) rfl rfl fun a F => c_nil (?_))
              have O : Own w0 [] ([] ++ chR ((b39, longA x t, longZ x t, []) :: [])) w := O
              have F : Has 67 [(0, .string (bs (x))), (4, .slice none 0 0), (15, .bool false), (1, .string (bs (t.drop (longZ x t : Int).toNat))), (5, chP ((b39, longA x t, longZ x t, []) :: []))] a := F.pick ⟨rfl, rfl, rfl, rfl, rfl, trivial⟩
              exact ⟨((t.drop (longZ x t : Int).toNat).length : Int).toNat, by omega, ((b39, longA x t, longZ x t, []) :: []), (t.drop (longZ x t : Int).toNat), rfl, F, O, by first | (simp only [List.length_cons, List.length_nil] at hi0a ⊢; omega) | (simp only [List.length_cons]; omega), by first | exact mk_copy hi0b (by omega) rfl c31 | exact mk_more hi0b (by omega) c31 c40 | exact mk_new hi0b (by omega) c31 (.inl rfl) | exact mk_new (M := nd :: r) hi0b (by omega) c31 (.inr ⟨nd, r, rfl, c40⟩), by intro o ho; rcases List.mem_cons.1 ho with rfl | ho <;> first | (simp only [List.length_append]; omega) | (simp; omega) | (have h9 := hi0c o ho; omega) | (have h9 := hi0c o (List.mem_cons_of_mem _ ho); omega) | (exact absurd ho (by simp)) | (rcases List.mem_cons.1 ho with rfl | ho <;> first | (simp only []; omega) | omega | (have h9 := hi0c o (List.mem_cons_of_mem _ ho); omega))⟩
            · obtain ⟨nd, r, rfl⟩ : ∃ nd r, M = nd :: r := by cases M with | nil => exact absurd rfl cs9 | cons x y => exact ⟨x, y, rfl⟩
              have hln : (nd :: r).length = r.length + 1 := List.length_cons
              have hlt := hi0c nd (List.mem_cons_self ..)
              have O : Own w0 [] ([.cells nd.1 [.int .i64 (nd.2.1), .int .i64 (nd.2.2.1), .string (bs (nd.2.2.2)), chP r] 74] ++ chR r) w := O
              refine c_region (sp F (p_move rfl) rfl rfl fun a F => sp F (p_move rfl) rfl rfl fun a F => sp F (p_build (cs := [.int .i64 (longA x t), .int .i64 (longZ x t), .string (bs ([]))]) rfl Try.places_43 rfl) rfl rfl fun a F => sp F (p_move rfl) rfl rfl fun a F => sp F (p_build (cs := [.int .i64 (longA x t), .int .i64 (longZ x t), .string (bs ([])), .pointer (some ⟨nd.1, 0, none⟩)]) rfl Try.places_74 rfl) rfl rfl fun a F => so F rfl (o_box F O rfl rfl fun b39 w O a F => ?_))
              have O : Own w0 [] ([.cells b39 [.int .i64 (longA x t), .int .i64 (longZ x t), .string (bs ([])), .pointer (some ⟨nd.1, 0, none⟩)] 74, .cells nd.1 [.int .i64 (nd.2.1), .int .i64 (nd.2.2.1), .string (bs (nd.2.2.2)), chP r] 74] ++ chR r) w := O
              refine sp F (p_assign rfl) rfl rfl fun a F => c_nil (hK9 _ _ (?_))
              try clear hK9 K9
              refine c_region (sp F (p_move rfl) rfl rfl fun a F => sp F (p_move rfl) rfl rfl fun a F => sp F (p_sfrom rfl rfl Try.underlying9 (by omega) (by omega)) rfl rfl fun a F => sp F (p_assign rfl) rfl rfl fun a F => c_nil (?_))
              have O : Own w0 [] ([] ++ chR ((b39, longA x t, longZ x t, []) :: ((nd.1, nd.2.1, nd.2.2.1, nd.2.2.2) :: r))) w := O
              have F : Has 67 [(0, .string (bs (x))), (4, .slice none 0 0), (15, .bool false), (1, .string (bs (t.drop (longZ x t : Int).toNat))), (5, chP ((b39, longA x t, longZ x t, []) :: ((nd.1, nd.2.1, nd.2.2.1, nd.2.2.2) :: r)))] a := F.pick ⟨rfl, rfl, rfl, rfl, rfl, trivial⟩
              exact ⟨((t.drop (longZ x t : Int).toNat).length : Int).toNat, by omega, ((b39, longA x t, longZ x t, []) :: ((nd.1, nd.2.1, nd.2.2.1, nd.2.2.2) :: r)), (t.drop (longZ x t : Int).toNat), rfl, F, O, by first | (simp only [List.length_cons, List.length_nil] at hi0a ⊢; omega) | (simp only [List.length_cons]; omega), by first | exact mk_copy hi0b (by omega) rfl c31 | exact mk_more hi0b (by omega) c31 c40 | exact mk_new hi0b (by omega) c31 (.inl rfl) | exact mk_new (M := nd :: r) hi0b (by omega) c31 (.inr ⟨nd, r, rfl, c40⟩), by intro o ho; rcases List.mem_cons.1 ho with rfl | ho <;> first | (simp only [List.length_append]; omega) | (simp; omega) | (have h9 := hi0c o ho; omega) | (have h9 := hi0c o (List.mem_cons_of_mem _ ho); omega) | (exact absurd ho (by simp)) | (rcases List.mem_cons.1 ho with rfl | ho <;> first | (simp only []; omega) | omega | (have h9 := hi0c o (List.mem_cons_of_mem _ ho); omega))⟩
          · have F := F.setB (d := 33) rfl (decide_eq_false c31)
            have F := F.setB (d := 31) rfl (decide_eq_false c31)
            refine c_iff F rfl (c_seq fun K11 hK11 => ?_)
            by_cases cs10 : M = []
            · subst cs10
              have O : Own w0 [] [] w := O
              refine c_region (sp F (p_move rfl) rfl rfl fun a F => sp F (p_pneN rfl (by kernel_rfl)) rfl rfl fun a F => sp F (p_move rfl) rfl rfl fun a F => ss F rfl rfl fun a F => ss F rfl rfl fun a F => ss F rfl rfl fun a F => ss F rfl rfl fun a F => ss F rfl rfl fun a F => ss F rfl rfl fun a F => sp F (p_pick (t := false) rfl rfl) rfl rfl fun a F => sp F (p_assign rfl) rfl rfl fun a F => c_nil (?_))
              refine hK11 _ _ (?_)
              try clear hK11 K11
              refine c_iff F rfl (c_seq fun K12 hK12 => c_region (sp F (p_assign rfl) rfl rfl fun a F => c_nil (hK12 _ _ (?_))))
              try clear hK12 K12
              refine c_region (sp F (p_move rfl) rfl rfl fun a F => sp F (p_sto rfl rfl Try.underlying9 (by omega) (by omega)) rfl rfl fun a F => sp F (p_build (cs := [.int .i64 (0), .int .i64 (0), .string (bs (t.take (1 : Int).toNat))]) rfl Try.places_43 rfl) rfl rfl fun a F => sp F (p_move rfl) rfl rfl fun a F => sp F (p_build (cs := [.int .i64 (0), .int .i64 (0), .string (bs (t.take (1 : Int).toNat)), .pointer none]) rfl Try.places_74 rfl) rfl rfl fun a F => so F rfl (o_box F O rfl rfl fun b30 w O a F => ?_))
              have O : Own w0 [] [.cells b30 [.int .i64 (0), .int .i64 (0), .string (bs (t.take (1 : Int).toNat)), .pointer none] 74] w := O
              refine sp F (p_assign rfl) rfl rfl fun a F => c_nil (hK9 _ _ (?_))
              try clear hK9 K9
              refine c_region (sp F (p_move rfl) rfl rfl fun a F => sp F (p_move rfl) rfl rfl fun a F => sp F (p_sfrom rfl rfl Try.underlying9 (by omega) (by omega)) rfl rfl fun a F => sp F (p_assign rfl) rfl rfl fun a F => c_nil (?_))
              have O : Own w0 [] ([] ++ chR ((b30, 0, 0, t.take (1 : Int).toNat) :: [])) w := O
              have F : Has 67 [(0, .string (bs (x))), (4, .slice none 0 0), (15, .bool false), (1, .string (bs (t.drop (1 : Int).toNat))), (5, chP ((b30, 0, 0, t.take (1 : Int).toNat) :: []))] a := F.pick ⟨rfl, rfl, rfl, rfl, rfl, trivial⟩
              exact ⟨((t.drop (1 : Int).toNat).length : Int).toNat, by omega, ((b30, 0, 0, t.take (1 : Int).toNat) :: []), (t.drop (1 : Int).toNat), rfl, F, O, by first | (simp only [List.length_cons, List.length_nil] at hi0a ⊢; omega) | (simp only [List.length_cons]; omega), by first | exact mk_copy hi0b (by omega) rfl c31 | exact mk_more hi0b (by omega) c31 c40 | exact mk_new hi0b (by omega) c31 (.inl rfl) | exact mk_new (M := nd :: r) hi0b (by omega) c31 (.inr ⟨nd, r, rfl, c40⟩), by intro o ho; rcases List.mem_cons.1 ho with rfl | ho <;> first | (simp only [List.length_append]; omega) | (simp; omega) | (have h9 := hi0c o ho; omega) | (have h9 := hi0c o (List.mem_cons_of_mem _ ho); omega) | (exact absurd ho (by simp)) | (rcases List.mem_cons.1 ho with rfl | ho <;> first | (simp only []; omega) | omega | (have h9 := hi0c o (List.mem_cons_of_mem _ ho); omega))⟩
            · obtain ⟨nd, r, rfl⟩ : ∃ nd r, M = nd :: r := by cases M with | nil => exact absurd rfl cs10 | cons x y => exact ⟨x, y, rfl⟩
              have hln : (nd :: r).length = r.length + 1 := List.length_cons
              have hlt := hi0c nd (List.mem_cons_self ..)
              have O : Own w0 [] ([.cells nd.1 [.int .i64 (nd.2.1), .int .i64 (nd.2.2.1), .string (bs (nd.2.2.2)), chP r] 74] ++ chR r) w := O
              refine c_region (sp F (p_move rfl) rfl rfl fun a F => sp F (p_pneS rfl (by kernel_rfl)) rfl rfl fun a F => sp F (p_move rfl) rfl rfl fun a F => sp F (p_move rfl) rfl rfl fun a F => sp F (p_nil rfl) rfl rfl fun a F => sp F (p_faddr rfl Try.foff_74_0) rfl rfl fun a F => sp F (p_faddr rfl Try.foff_43_1) rfl rfl fun a F => sp F (p_load rfl Try.agg_3 (fun _ h => (ld1 (O.load 0 rfl rfl) h))) rfl rfl fun a F => sp F (p_eql rfl rfl) rfl rfl fun a F => sp F (p_pick (t := true) rfl rfl) rfl rfl fun a F => sp F (p_assign rfl) rfl rfl fun a F => c_nil (?_))
              refine hK11 _ _ (?_)
              try clear hK11 K11
              by_cases c40 : nd.2.2.1 = 0
              · have F := F.setB (d := 49) rfl (decide_eq_true c40)
                have F := F.setB (d := 50) rfl (decide_eq_true c40)
                have F := F.setB (d := 40) rfl (decide_eq_true c40)
                refine c_ift F rfl (c_seq fun K12 hK12 => c_region (sp F (p_assign rfl) rfl rfl fun a F => c_nil (hK12 _ _ (?_))))
                try clear hK12 K12
                refine c_draw Try.mixed (SC [(nd.1, 0 + 2, .string (bs (nd.2.2.2)))]) [11] _ (fun a w h => h) ?_
                have O := O.drawn (w.drawn + 1)
                generalize { w with drawn := w.drawn + 1 } = w at O ⊢
                have hS : SC [(nd.1, 0 + 2, .string (bs (nd.2.2.2)))] w := (SC.cons (O.load 0 rfl rfl) SC.nil)
                refine d_take 0 rfl (by kernel_rfl) F (p_move rfl) rfl rfl hS fun a F => d_take 1 rfl (by kernel_rfl) F (p_nil rfl) rfl rfl hS fun a F => d_take 2 rfl (by kernel_rfl) F (p_faddr rfl Try.foff_74_0) rfl rfl hS fun a F => d_take 3 rfl (by kernel_rfl) F (p_faddr rfl Try.foff_43_2) rfl rfl hS fun a F => d_take 4 rfl (by kernel_rfl) F (p_load rfl Try.agg_9 (fun _ h => (SC.get h 0 rfl))) rfl rfl hS fun a F => d_take 5 rfl (by kernel_rfl) F (p_move rfl) rfl rfl hS fun a F => d_take 6 rfl (by kernel_rfl) F (p_sto rfl rfl Try.underlying9 (by omega) (by omega)) rfl rfl hS fun a F => d_take 7 rfl (by kernel_rfl) F (p_cat rfl rfl (by first | omega | (simp; done) | (simp; omega))) rfl rfl hS fun a F => d_alone 8 rfl (by kernel_rfl) F (p_nil rfl) rfl rfl hS fun a F => d_alone 9 rfl (by kernel_rfl) F (p_faddr rfl Try.foff_74_0) rfl rfl hS fun a F => d_take 10 rfl (by kernel_rfl) F (p_faddr rfl Try.foff_43_2) rfl rfl hS fun a F => d_one 11 (by kernel_rfl) (d_op rfl F rfl (o_store F O rfl rfl Try.sz_9 rfl rfl 0 rfl rfl fun w O => ?_))
                have O : Own w0 [] ([.cells nd.1 [.int .i64 (nd.2.1), .int .i64 (nd.2.2.1), .string (bs (nd.2.2.2 ++ (t.take (1 : Int).toNat))), chP r] 74] ++ chR r) w := O
                refine ⟨fun h => absurd h (by decide), ?_⟩
                refine d_done (by kernel_rfl) (hK9 _ _ (?_))
                try clear hK9 K9
                refine c_region (sp F (p_move rfl) rfl rfl fun a F => sp F (p_move rfl) rfl rfl fun a F => sp F (p_sfrom rfl rfl Try.underlying9 (by omega) (by omega)) rfl rfl fun a F => sp F (p_assign rfl) rfl rfl fun a F => c_nil (?_))
                have O : Own w0 [] ([] ++ chR ((nd.1, nd.2.1, nd.2.2.1, nd.2.2.2 ++ (t.take (1 : Int).toNat)) :: r)) w := O
                have F : Has 67 [(0, .string (bs (x))), (4, .slice none 0 0), (15, .bool false), (1, .string (bs (t.drop (1 : Int).toNat))), (5, chP ((nd.1, nd.2.1, nd.2.2.1, nd.2.2.2 ++ (t.take (1 : Int).toNat)) :: r))] a := F.pick ⟨rfl, rfl, rfl, rfl, rfl, trivial⟩
                exact ⟨((t.drop (1 : Int).toNat).length : Int).toNat, by omega, ((nd.1, nd.2.1, nd.2.2.1, nd.2.2.2 ++ (t.take (1 : Int).toNat)) :: r), (t.drop (1 : Int).toNat), rfl, F, O, by first | (simp only [List.length_cons, List.length_nil] at hi0a ⊢; omega) | (simp only [List.length_cons]; omega), by first | exact mk_copy hi0b (by omega) rfl c31 | exact mk_more hi0b (by omega) c31 c40 | exact mk_new hi0b (by omega) c31 (.inl rfl) | exact mk_new (M := nd :: r) hi0b (by omega) c31 (.inr ⟨nd, r, rfl, c40⟩), by intro o ho; rcases List.mem_cons.1 ho with rfl | ho <;> first | (simp only [List.length_append]; omega) | (simp; omega) | (have h9 := hi0c o ho; omega) | (have h9 := hi0c o (List.mem_cons_of_mem _ ho); omega) | (exact absurd ho (by simp)) | (rcases List.mem_cons.1 ho with rfl | ho <;> first | (simp only []; omega) | omega | (have h9 := hi0c o (List.mem_cons_of_mem _ ho); omega))⟩
              · have F := F.setB (d := 49) rfl (decide_eq_false c40)
                have F := F.setB (d := 50) rfl (decide_eq_false c40)
                have F := F.setB (d := 40) rfl (decide_eq_false c40)
                refine c_iff F rfl (c_seq fun K12 hK12 => c_region (sp F (p_assign rfl) rfl rfl fun a F => c_nil (hK12 _ _ (?_))))
                try clear hK12 K12
                refine c_region (sp F (p_move rfl) rfl rfl fun a F => sp F (p_sto rfl rfl Try.underlying9 (by omega) (by omega)) rfl rfl fun a F => sp F (p_build (cs := [.int .i64 (0), .int .i64 (0), .string (bs (t.take (1 : Int).toNat))]) rfl Try.places_43 rfl) rfl rfl fun a F => sp F (p_move rfl) rfl rfl fun a F => sp F (p_build (cs := [.int .i64 (0), .int .i64 (0), .string (bs (t.take (1 : Int).toNat)), .pointer (some ⟨nd.1, 0, none⟩)]) rfl Try.places_74 rfl) rfl rfl fun a F => so F rfl (o_box F O rfl rfl fun b30 w O a F => ?_))
                have O : Own w0 [] ([.cells b30 [.int .i64 (0), .int .i64 (0), .string (bs (t.take (1 : Int).toNat)), .pointer (some ⟨nd.1, 0, none⟩)] 74, .cells nd.1 [.int .i64 (nd.2.1), .int .i64 (nd.2.2.1), .string (bs (nd.2.2.2)), chP r] 74] ++ chR r) w := O
                refine sp F (p_assign rfl) rfl rfl fun a F => c_nil (hK9 _ _ (?_))
                try clear hK9 K9
                refine c_region (sp F (p_move rfl) rfl rfl fun a F => sp F (p_move rfl) rfl rfl fun a F => sp F (p_sfrom rfl rfl Try.underlying9 (by omega) (by omega)) rfl rfl fun a F => sp F (p_assign rfl) rfl rfl fun a F => c_nil (?_))
                have O : Own w0 [] ([] ++ chR ((b30, 0, 0, t.take (1 : Int).toNat) :: ((nd.1, nd.2.1, nd.2.2.1, nd.2.2.2) :: r))) w := O
                have F : Has 67 [(0, .string (bs (x))), (4, .slice none 0 0), (15, .bool false), (1, .string (bs (t.drop (1 : Int).toNat))), (5, chP ((b30, 0, 0, t.take (1 : Int).toNat) :: ((nd.1, nd.2.1, nd.2.2.1, nd.2.2.2) :: r)))] a := F.pick ⟨rfl, rfl, rfl, rfl, rfl, trivial⟩
                exact ⟨((t.drop (1 : Int).toNat).length : Int).toNat, by omega, ((b30, 0, 0, t.take (1 : Int).toNat) :: ((nd.1, nd.2.1, nd.2.2.1, nd.2.2.2) :: r)), (t.drop (1 : Int).toNat), rfl, F, O, by first | (simp only [List.length_cons, List.length_nil] at hi0a ⊢; omega) | (simp only [List.length_cons]; omega), by first | exact mk_copy hi0b (by omega) rfl c31 | exact mk_more hi0b (by omega) c31 c40 | exact mk_new hi0b (by omega) c31 (.inl rfl) | exact mk_new (M := nd :: r) hi0b (by omega) c31 (.inr ⟨nd, r, rfl, c40⟩), by intro o ho; rcases List.mem_cons.1 ho with rfl | ho <;> first | (simp only [List.length_append]; omega) | (simp; omega) | (have h9 := hi0c o ho; omega) | (have h9 := hi0c o (List.mem_cons_of_mem _ ho); omega) | (exact absurd ho (by simp)) | (rcases List.mem_cons.1 ho with rfl | ho <;> first | (simp only []; omega) | omega | (have h9 := hi0c o (List.mem_cons_of_mem _ ho); omega))⟩
        · have F := F.setB (d := 18) rfl (decide_eq_false c18)
          refine c_iff F rfl (wp_exit (e_then (e_then (e_here (hK5 _ _ (?_))))))
          try clear hK5 K5
          refine c_seq fun K8 hK8 => ?_
          have hch := ch_of O
          refine c_region (sp F (p_move rfl) rfl rfl fun a F => so F rfl (o_call (vs := #[chP M]) F Try.en_45 rfl rfl ((ops_ok M w (by omega) (by omega)).mono ?_)))
          rintro e w ⟨P66, N66, C66, rfl, h66a, h66b, K⟩
          refine ⟨_, rfl, fun a F => ?_⟩
          have O : Own w0 [] ([.row 43 3 (.slice P66 N66 C66) N66 (((M.map (·.2)).reverse).flatMap encOp)] ++ chR M) w := O.call0 K
          clear K
          have O : Own w0 [] ([.row 43 3 (.slice P66 N66 C66) N66 (((M.map (·.2)).reverse).flatMap encOp)] ++ chR M) w := O
          refine sp F (p_assign rfl) rfl rfl fun a F => c_nil (hK8 _ _ (?_))
          try clear hK8 K8
          refine wp_ret (ret1 F rfl rfl (?_))
          have O := O.setR 0 rfl (show Res.row 43 3 (.slice P66 N66 C66) N66 (((M.map (·.2)).reverse).flatMap encOp) = .row 43 3 (.slice P66 N66 C66) N66 ((makeD x y).flatMap encOp) from by first | (rw [makeD_bad (by omega)]; done) | (rw [makeD_bad (by omega)]; rfl) | (rw [makeD_ok ⟨by omega, by omega⟩, ← mkAt_end hi0b (List.length_eq_zero_iff.1 (by omega))]))
          have O : Own w0 [] ([.row 43 3 (.slice P66 N66 C66) N66 ((makeD x y).flatMap encOp)] ++ chR M) w := O
          have O : Own w0 [] [.row 43 3 (.slice P66 N66 C66) N66 ((makeD x y).flatMap encOp)] w := (O.take 1)
          exact ⟨P66, N66, C66, rfl, by first | (rw [makeD_bad (by omega)]; done) | (rw [makeD_bad (by omega)]; rfl) | (rw [makeD_ok ⟨by omega, by omega⟩, ← mkAt_end hi0b (List.length_eq_zero_iff.1 (by omega))]; omega), by first | assumption | omega, O⟩

end Go.Proofs.Ytbhidkcljekobaa
