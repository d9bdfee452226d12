/- Contracts of the functions that look for the longest common part. No conditions but those on lengths, and that the library's one variable holds a number. -/
import Derived.Test.YtbhidkcljekobaaLibI
namespace Go.Proofs.Ytbhidkcljekobaa
open Go.ChangeShapes Go.WideShapes Go.ChangeAt Go.RowKit
set_option linter.unusedVariables false
set_option linter.unusedSimpArgs false


section
variable {x y : List UInt8} {k n i : Int} {z : Int}
theorem byteAt_some {l : List UInt8} (h0 : 0 ≤ k) (hk : k < l.length) : ∃ c, l[k.toNat]? = some c ∧ byteAt l k = (c.toNat : Int) := by
  refine ⟨l[k.toNat], List.getElem?_eq_getElem (by omega), ?_⟩
  unfold byteAt; rw [List.getD_eq_getElem?_getD, List.getElem?_eq_getElem (by omega)]; rfl
theorem cp_go (h : n ≤ (cp (x.drop k.toNat) y : Int)) (h0 : 0 ≤ k) (h1 : 0 ≤ n) (h2 : k + n < x.length) (h3 : n < y.length) (h4 : byteAt x (k + n) = byteAt y n) : n + 1 ≤ (cp (x.drop k.toNat) y : Int) := by
  obtain ⟨c, hc, hb⟩ := byteAt_some (l := x) (k := k + n) (by omega) h2
  obtain ⟨d, hd, he⟩ := byteAt_some (l := y) (k := n) h1 h3
  have hcd : c = d := UInt8.toNat_inj.1 (by rw [hb, he] at h4; omega)
  subst hcd
  have := (cp_next (l := x.drop k.toNat) (m := y) (n := n.toNat) (by omega)).2 ⟨c, by rw [List.getElem?_drop, ← hc]; congr 1; omega, hd⟩
  omega
theorem cp_end (h : n ≤ (cp (x.drop k.toNat) y : Int)) (h0 : 0 ≤ k) (h1 : 0 ≤ n) (h2 : ¬ (k + n < x.length ∧ n < y.length ∧ byteAt x (k + n) = byteAt y n)) : n = (cp (x.drop k.toNat) y : Int) := by
  by_cases h3 : n < (cp (x.drop k.toNat) y : Int)
  · exfalso
    obtain ⟨c, hc, hd⟩ := (cp_next (l := x.drop k.toNat) (m := y) (n := n.toNat) (by omega)).1 (by omega)
    rw [List.getElem?_drop] at hc
    have l1 := (List.getElem?_eq_some_iff.1 hc).1
    have l2 := (List.getElem?_eq_some_iff.1 hd).1
    refine h2 ⟨by omega, by omega, ?_⟩
    unfold byteAt
    rw [show (k + n).toNat = k.toNat + n.toNat by omega, List.getD_eq_getElem?_getD, List.getD_eq_getElem?_getD, hc, hd]
  · omega
theorem longF_step (h0 : 0 ≤ k) : longF x y (k + 1).toNat = if (longF x y k.toNat).2 < (cp (x.drop k.toNat) y : Int) then (k, (cp (x.drop k.toNat) y : Int)) else longF x y k.toNat := by
  rw [show (k + 1).toNat = k.toNat + 1 by omega]
  show (if _ then ((k.toNat : Int), _) else _) = _
  rw [Int.toNat_of_nonneg h0]
theorem long_hit (h1 : 1 ≤ z) (h2 : z ≤ y.length) (hb : ∀ i, (cp (x.drop i) y : Int) ≤ z) (hr : 0 ≤ Lib.index x (y.take z.toNat)) : Lib.index x (y.take z.toNat) = longA x y ∧ z = longZ x y := by
  rcases index_spec (sub := y.take z.toNat) (by rw [List.length_take]; omega) x with ⟨h, _⟩ | ⟨r, h, h3, h4, h5⟩
  · omega
  · rw [cp_pre (by omega)] at h4
    have e := long_uniq (longF_is x y x.length) (q := ((r : Int), z)) ⟨by simp only; omega, fun i _ => hb i, .inr ⟨r, rfl, h3, by simp only; have := hb r; omega, by simp only; omega, fun i hi => by
      have := h5 i hi
      rw [Bool.eq_false_iff, ne_eq, cp_pre (by omega)] at this
      simp only; omega⟩⟩
    unfold longA longZ
    rw [e]; exact ⟨h, rfl⟩
theorem long_miss (h1 : 1 ≤ z) (h2 : z ≤ y.length) (hb : ∀ i, (cp (x.drop i) y : Int) ≤ z) (hr : ¬ 0 ≤ Lib.index x (y.take z.toNat)) : ∀ i, (cp (x.drop i) y : Int) ≤ z - 1 := by
  rcases index_spec (sub := y.take z.toNat) (by rw [List.length_take]; omega) x with ⟨_, h⟩ | ⟨r, h, _⟩
  · intro i
    have := h i
    rw [Bool.eq_false_iff, ne_eq, cp_pre (by omega)] at this
    have := hb i
    omega
  · omega
theorem long_none (hb : ∀ i, (cp (x.drop i) y : Int) ≤ 0) : longA x y = 0 ∧ longZ x y = 0 := by
  have e := long_uniq (longF_is x y x.length) (q := (0, 0)) ⟨by simp, fun i _ => hb i, .inl ⟨rfl, rfl⟩⟩
  unfold longA longZ
  rw [e]; exact ⟨rfl, rfl⟩
theorem cp_min (i : Nat) : (cp (x.drop i) y : Int) ≤ min (x.length : Int) (y.length : Int) := by
  have h1 := cp_le (x.drop i) y
  have h2 := cp_le' (x.drop i) y
  rw [List.length_drop] at h2
  omega
theorem vpair {a b c d : Int} (h : a = c ∧ b = d) : Value.tuple #[.int .i64 a, .int .i64 b] = .tuple #[.int .i64 c, .int .i64 d] := by rw [h.1, h.2]
end
set_option maxRecDepth 100000 in
/-- impl.longest -/
theorem longest_ok (x : List UInt8) (y : List UInt8) (m0 : Int) (w0 : World) (hx : (x.length : Int) ≤ 1000) (hy : (y.length : Int) ≤ 1000) (hl_0 : 0 < w0.heap.size) (hm_0_0 : w0.cell? ⟨0, 0, none⟩ = some (.int .i64 (m0))) :
    Calls Try.prog 44 #[.string (bs (x)), .string (bs (y))] w0 fun e w => e = .returned (.tuple #[.int .i64 (longA x y), .int .i64 (longZ x y)]) ∧ Own w0 [] [] w := by
  have O := Own.start w0
  refine enterO (n := 26) Try.func44 rfl rfl rfl O fun a w F O => ?_
  refine c_seq fun K1 hK1 => c_region (sp F (p_assign rfl) rfl rfl fun a F => sp F (p_assign rfl) rfl rfl fun a F => c_nil (hK1 _ _ (?_)))
  try clear hK1 K1
  refine c_seq fun K2 hK2 => c_seq fun K3 hK3 => c_region (sp F (p_move rfl) rfl rfl fun a F => sp F (p_len_b rfl Try.underlying9) rfl rfl fun a F => sp F (p_move rfl) rfl rfl fun a F => sp F (p_len_b rfl Try.underlying9) rfl rfl fun a F => sp F (p_min rfl rfl) rfl rfl fun a F => sp F (p_assign rfl) rfl rfl fun a F => c_nil (hK3 _ _ (?_)))
  try clear hK3 K3
  refine wp_block (?_)
  refine c_loop (fun mm a w => ∃ (z : Int), mm = (z).toNat ∧ Has 26 [(0, .string (bs (x))), (1, .string (bs (y))), (6, .int .i64 (z))] a ∧ Own w0 [] [] w ∧ (0 ≤ z) ∧ (z ≤ y.length) ∧ (∀ i, (cp (x.drop i) y : Int) ≤ z)) ?_ ?_
  · have F : Has 26 [(0, .string (bs (x))), (1, .string (bs (y))), (6, .int .i64 (min (x.length : Int) (y.length : Int)))] a := F.pick ⟨rfl, rfl, rfl, trivial⟩
    exact ⟨((min (x.length : Int) (y.length : Int))).toNat, (min (x.length : Int) (y.length : Int)), rfl, F, O, by first | assumption | omega, by first | assumption | omega, by exact fun i => by have := cp_min (x := x) (y := y) i; omega⟩
  · rintro mm a w ⟨z, rfl, F, O, hi0a, hi0b, hi0c⟩
    refine c_seq fun K4 hK4 => c_seq fun K5 hK5 => c_region (sp F (p_move rfl) rfl rfl fun a F => sp F (p_gtr rfl rfl) rfl rfl fun a F => c_nil (hK5 _ _ (?_)))
    try clear hK5 K5
    by_cases c14 : 0 < z
    · have F := F.setB (d := 14) rfl (decide_eq_true c14)
      refine c_ift F rfl (wp_skip (hK4 _ _ (?_)))
      try clear hK4 K4
      refine c_seq fun K6 hK6 => wp_block (c_seq fun K7 hK7 => c_region (sp F (p_move rfl) rfl rfl fun a F => sp F (p_move rfl) rfl rfl fun a F => sp F (p_move rfl) rfl rfl fun a F => sp F (p_sto rfl rfl Try.underlying9 (by omega) (by omega)) rfl rfl fun a F => so F rfl (o_call (vs := #[.string (bs (x)), .string (bs (y.take (z : Int).toNat))]) F Try.en_51 rfl rfl ((index_ok x (y.take (z : Int).toNat) m0 w (by omega) (Nat.lt_of_lt_of_le hl_0 O.size) (((O.old hl_0 (by simp)).trans hm_0_0))).mono ?_))))
      rintro e w ⟨rfl, K⟩
      refine ⟨_, rfl, fun a F => ?_⟩
      have O : Own w0 [] [] w := O.call0 K
      clear K
      have O : Own w0 [] [] w := O
      refine sp F (p_assign rfl) rfl rfl fun a F => c_nil (hK7 _ _ (?_))
      try clear hK7 K7
      refine c_seq fun K8 hK8 => c_region (sp F (p_move rfl) rfl rfl fun a F => sp F (p_geq rfl rfl) rfl rfl fun a F => c_nil (hK8 _ _ (?_)))
      try clear hK8 K8
      by_cases c23 : 0 ≤ (Lib.index x (y.take (z : Int).toNat))
      · have F := F.setB (d := 23) rfl (decide_eq_true c23)
        refine c_ift F rfl (c_seq fun K9 hK9 => c_region (sp F (p_move rfl) rfl rfl fun a F => sp F (p_move rfl) rfl rfl fun a F => sp F (p_assign rfl) rfl rfl fun a F => sp F (p_assign rfl) rfl rfl fun a F => c_nil (hK9 _ _ (?_))))
        try clear hK9 K9
        refine wp_ret (r_block (r_then (r_then (r_block (r_then (ret2 F rfl rfl rfl (?_)))))))
        exact ⟨congrArg Ending.returned (show Value.tuple #[.int .i64 (Lib.index x (y.take (z : Int).toNat)), .int .i64 (z)] = .tuple #[.int .i64 (longA x y), .int .i64 (longZ x y)] from by exact vpair (long_hit (by omega) (by omega) hi0c (by omega))), O⟩
      · have F := F.setB (d := 23) rfl (decide_eq_false c23)
        refine c_iff F rfl (wp_skip (hK6 _ _ (?_)))
        try clear hK6 K6
        refine c_region (sp F (p_move rfl) rfl rfl fun a F => sp F (p_sub rfl rfl (by omega) (by omega)) rfl rfl fun a F => sp F (p_assign rfl) rfl rfl fun a F => c_nil (?_))
        have F : Has 26 [(0, .string (bs (x))), (1, .string (bs (y))), (6, .int .i64 (z - 1))] a := F.pick ⟨rfl, rfl, rfl, trivial⟩
        exact ⟨((z - 1)).toNat, by omega, (z - 1), rfl, F, O, by first | assumption | omega, by first | assumption | omega, by exact long_miss (by omega) (by omega) hi0c (by omega)⟩
    · have F := F.setB (d := 14) rfl (decide_eq_false c14)
      refine c_iff F rfl (wp_exit (e_then (e_then (e_here (hK2 _ _ (?_))))))
      try clear hK2 K2
      refine c_seq fun K6 hK6 => c_region (sp F (p_assign rfl) rfl rfl fun a F => sp F (p_assign rfl) rfl rfl fun a F => c_nil (hK6 _ _ (?_)))
      try clear hK6 K6
      refine wp_ret (ret2 F rfl rfl rfl (?_))
      exact ⟨congrArg Ending.returned (show Value.tuple #[.int .i64 (0), .int .i64 (0)] = .tuple #[.int .i64 (longA x y), .int .i64 (longZ x y)] from by exact vpair ⟨(long_none (fun i => by have := hi0c i; omega)).1.symm, (long_none (fun i => by have := hi0c i; omega)).2.symm⟩), O⟩

set_option maxRecDepth 100000 in
/-- spec.l2Longest -/
theorem l2Longest_ok (x : List UInt8) (y : List UInt8) (w0 : World) (hx : (x.length : Int) ≤ 1000) (hy : (y.length : Int) ≤ 1000) :
    Calls Try.prog 46 #[.string (bs (x)), .string (bs (y))] w0 fun e w => e = .returned (.tuple #[.int .i64 (longA x y), .int .i64 (longZ x y)]) ∧ Own w0 [] [] w := by
  have O := Own.start w0
  refine enterO (n := 48) Try.func46 rfl rfl rfl O fun a w F O => ?_
  refine c_seq fun K1 hK1 => c_region (sp F (p_assign rfl) rfl rfl fun a F => sp F (p_assign rfl) rfl rfl fun a F => c_nil (hK1 _ _ (?_)))
  try clear hK1 K1
  refine c_seq fun K2 hK2 => c_region (sp F (p_assign rfl) rfl rfl fun a F => c_nil (hK2 _ _ (?_)))
  try clear hK2 K2
  refine c_seq fun K3 hK3 => c_region (sp F (p_assign rfl) rfl rfl fun a F => c_nil (hK3 _ _ (?_)))
  try clear hK3 K3
  refine c_seq fun K4 hK4 => c_seq fun K5 hK5 => c_region (sp F (p_assign rfl) rfl rfl fun a F => c_nil (hK5 _ _ (?_)))
  try clear hK5 K5
  refine wp_block (?_)
  refine c_loop (fun mm a w => ∃ (k : Int), ∃ (u : Int), ∃ (z : Int), mm = ((x.length : Int) - k).toNat ∧ Has 48 [(0, .string (bs (x))), (1, .string (bs (y))), (4, .int .i64 (0)), (5, .int .i64 (0)), (8, .int .i64 (k)), (6, .int .i64 (u)), (7, .int .i64 (z))] a ∧ Own w0 [] [] w ∧ (0 ≤ k) ∧ (k ≤ x.length) ∧ (longF x y (k : Int).toNat = (u, z))) ?_ ?_
  · have F : Has 48 [(0, .string (bs (x))), (1, .string (bs (y))), (4, .int .i64 (0)), (5, .int .i64 (0)), (8, .int .i64 (0)), (6, .int .i64 (0)), (7, .int .i64 (0))] a := F.pick ⟨rfl, rfl, rfl, rfl, rfl, rfl, rfl, trivial⟩
    exact ⟨((x.length : Int) - 0).toNat, 0, 0, 0, rfl, F, O, by first | assumption | omega, by first | assumption | omega, by rfl⟩
  · rintro mm a w ⟨k, u, z, rfl, F, O, hi0a, hi0b, hi0c⟩
    refine c_seq fun K6 hK6 => c_seq fun K7 hK7 => c_region (sp F (p_move rfl) rfl rfl fun a F => sp F (p_move rfl) rfl rfl fun a F => sp F (p_len_b rfl Try.underlying9) rfl rfl fun a F => sp F (p_lss rfl rfl) rfl rfl fun a F => c_nil (hK7 _ _ (?_)))
    try clear hK7 K7
    by_cases c13 : k < (x.length : Int)
    · have F := F.setB (d := 13) rfl (decide_eq_true c13)
      refine c_ift F rfl (wp_skip (hK6 _ _ (?_)))
      try clear hK6 K6
      refine c_seq fun K8 hK8 => wp_block (c_seq fun K9 hK9 => c_region (sp F (p_assign rfl) rfl rfl fun a F => c_nil (hK9 _ _ (?_))))
      try clear hK9 K9
      refine c_seq fun K10 hK10 => wp_block (?_)
      refine c_loop (fun mm a w => ∃ (n : Int), mm = ((y.length : Int) - n).toNat ∧ Has 48 [(0, .string (bs (x))), (1, .string (bs (y))), (4, .int .i64 (0)), (5, .int .i64 (0)), (8, .int .i64 (k)), (6, .int .i64 (u)), (7, .int .i64 (z)), (13, .bool true), (9, .int .i64 (n))] a ∧ Own w0 [] [] w ∧ (0 ≤ n) ∧ (n ≤ y.length) ∧ (n ≤ (cp (x.drop (k : Int).toNat) y : Int))) ?_ ?_
      · have F : Has 48 [(0, .string (bs (x))), (1, .string (bs (y))), (4, .int .i64 (0)), (5, .int .i64 (0)), (8, .int .i64 (k)), (6, .int .i64 (u)), (7, .int .i64 (z)), (13, .bool true), (9, .int .i64 (0))] a := F.pick ⟨rfl, rfl, rfl, rfl, rfl, rfl, rfl, rfl, rfl, trivial⟩
        exact ⟨((y.length : Int) - 0).toNat, 0, rfl, F, O, by first | assumption | omega, by first | assumption | omega, by omega⟩
      · rintro mm a w ⟨n, rfl, F, O, hi2a, hi2b, hi2c⟩
        refine c_seq fun K11 hK11 => c_seq fun K12 hK12 => ?_
        by_cases cc1 : n < (y.length : Int)
        · by_cases cc2 : (k + n) < (x.length : Int)
          · refine c_draw Try.mixed (SC []) [] _ (fun a w h => h) ?_
            have O := O.drawn (w.drawn + 1)
            generalize { w with drawn := w.drawn + 1 } = w at O ⊢
            have hS : SC [] w := SC.nil
            refine d_take 0 rfl (by kernel_rfl) F (p_move rfl) rfl rfl hS fun a F => d_take 1 rfl (by kernel_rfl) F (p_move rfl) rfl rfl hS fun a F => d_take 2 rfl (by kernel_rfl) F (p_len_b rfl Try.underlying9) rfl rfl hS fun a F => d_take 3 rfl (by kernel_rfl) F (p_lss rfl rfl) rfl rfl hS fun a F => ?_
            have F := F.setB (d := 19) rfl (decide_eq_true cc1)
            refine d_take 4 rfl (by kernel_rfl) F (p_move rfl) rfl rfl hS fun a F => d_take 5 rfl (by kernel_rfl) F (p_move rfl) rfl rfl hS fun a F => d_take 6 rfl (by kernel_rfl) F (p_move rfl) rfl rfl hS fun a F => d_take 7 rfl (by kernel_rfl) F (p_add rfl rfl (by omega) (by omega)) rfl rfl hS fun a F => d_take 8 rfl (by kernel_rfl) F (p_move rfl) rfl rfl hS fun a F => d_take 9 rfl (by kernel_rfl) F (p_len_b rfl Try.underlying9) rfl rfl hS fun a F => d_take 10 rfl (by kernel_rfl) F (p_lss rfl rfl) rfl rfl hS fun a F => ?_
            have F := F.setB (d := 26) rfl (decide_eq_true cc2)
            refine d_take 11 rfl (by kernel_rfl) F (p_pick (t := true) rfl rfl) rfl rfl hS fun a F => d_take 12 rfl (by kernel_rfl) F (p_move rfl) rfl rfl hS fun a F => d_take 13 rfl (by kernel_rfl) F (p_move rfl) rfl rfl hS fun a F => d_take 14 rfl (by kernel_rfl) F (p_move rfl) rfl rfl hS fun a F => d_take 15 rfl (by kernel_rfl) F (p_move rfl) rfl rfl hS fun a F => d_take 16 rfl (by kernel_rfl) F (p_add rfl rfl (by omega) (by omega)) rfl rfl hS fun a F => d_take 17 rfl (by kernel_rfl) F (p_index rfl rfl Try.underlying9 (by omega) (by omega)) rfl rfl hS fun a F => d_take 18 rfl (by kernel_rfl) F (p_move rfl) rfl rfl hS fun a F => d_take 19 rfl (by kernel_rfl) F (p_move rfl) rfl rfl hS fun a F => d_take 20 rfl (by kernel_rfl) F (p_index rfl rfl Try.underlying9 (by omega) (by omega)) rfl rfl hS fun a F => d_take 21 rfl (by kernel_rfl) F (p_eql rfl rfl) rfl rfl hS fun a F => d_take 22 rfl (by kernel_rfl) F (p_pick (t := true) rfl rfl) rfl rfl hS fun a F => d_done (by kernel_rfl) (?_)
            refine hK12 _ _ (?_)
            try clear hK12 K12
            by_cases c38 : (byteAt x (k + n)) = (byteAt y n)
            · have F := F.setB (d := 37) rfl (decide_eq_true c38)
              have F := F.setB (d := 38) rfl (decide_eq_true c38)
              refine c_ift F rfl (wp_skip (hK11 _ _ (?_)))
              try clear hK11 K11
              refine wp_block (c_region (sp F (p_move rfl) rfl rfl fun a F => sp F (p_add rfl rfl (by omega) (by omega)) rfl rfl fun a F => sp F (p_assign rfl) rfl rfl fun a F => c_nil (?_)))
              have F : Has 48 [(0, .string (bs (x))), (1, .string (bs (y))), (4, .int .i64 (0)), (5, .int .i64 (0)), (8, .int .i64 (k)), (6, .int .i64 (u)), (7, .int .i64 (z)), (13, .bool true), (9, .int .i64 (n + 1))] a := F.pick ⟨rfl, rfl, rfl, rfl, rfl, rfl, rfl, rfl, rfl, trivial⟩
              exact ⟨((y.length : Int) - (n + 1)).toNat, by omega, (n + 1), rfl, F, O, by first | assumption | omega, by first | assumption | omega, by exact cp_go hi2c hi0a hi2a (by omega) (by omega) (by omega)⟩
            · have F := F.setB (d := 37) rfl (decide_eq_false c38)
              have F := F.setB (d := 38) rfl (decide_eq_false c38)
              refine c_iff F rfl (wp_exit (e_then (e_then (e_here (hK10 _ _ (?_))))))
              try clear hK10 K10
              refine c_seq fun K13 hK13 => ?_
              have hcp := cp_end hi2c hi0a hi2a (by omega)
              refine c_region (sp F (p_move rfl) rfl rfl fun a F => sp F (p_move rfl) rfl rfl fun a F => sp F (p_gtr rfl rfl) rfl rfl fun a F => c_nil (hK13 _ _ (?_)))
              try clear hK13 K13
              by_cases c43 : z < n
              · have F := F.setB (d := 43) rfl (decide_eq_true c43)
                refine c_ift F rfl (c_seq fun K14 hK14 => c_region (sp F (p_move rfl) rfl rfl fun a F => sp F (p_assign rfl) rfl rfl fun a F => c_nil (hK14 _ _ (?_))))
                try clear hK14 K14
                refine c_region (sp F (p_move rfl) rfl rfl fun a F => sp F (p_assign rfl) rfl rfl fun a F => c_nil (hK8 _ _ (?_)))
                try clear hK8 K8
                refine c_region (sp F (p_move rfl) rfl rfl fun a F => sp F (p_add rfl rfl (by omega) (by omega)) rfl rfl fun a F => sp F (p_assign rfl) rfl rfl fun a F => c_nil (?_))
                have F : Has 48 [(0, .string (bs (x))), (1, .string (bs (y))), (4, .int .i64 (0)), (5, .int .i64 (0)), (8, .int .i64 (k + 1)), (6, .int .i64 (k)), (7, .int .i64 (n))] a := F.pick ⟨rfl, rfl, rfl, rfl, rfl, rfl, rfl, trivial⟩
                exact ⟨((x.length : Int) - (k + 1)).toNat, by omega, (k + 1), k, n, rfl, F, O, by first | assumption | omega, by first | assumption | omega, by rw [longF_step hi0a, hi0c, ← hcp]; first | exact if_pos c43 | exact if_neg c43⟩
              · have F := F.setB (d := 43) rfl (decide_eq_false c43)
                refine c_iff F rfl (wp_skip (hK8 _ _ (?_)))
                try clear hK8 K8
                refine c_region (sp F (p_move rfl) rfl rfl fun a F => sp F (p_add rfl rfl (by omega) (by omega)) rfl rfl fun a F => sp F (p_assign rfl) rfl rfl fun a F => c_nil (?_))
                have F : Has 48 [(0, .string (bs (x))), (1, .string (bs (y))), (4, .int .i64 (0)), (5, .int .i64 (0)), (8, .int .i64 (k + 1)), (6, .int .i64 (u)), (7, .int .i64 (z))] a := F.pick ⟨rfl, rfl, rfl, rfl, rfl, rfl, rfl, trivial⟩
                exact ⟨((x.length : Int) - (k + 1)).toNat, by omega, (k + 1), u, z, rfl, F, O, by first | assumption | omega, by first | assumption | omega, by rw [longF_step hi0a, hi0c, ← hcp]; first | exact if_pos c43 | exact if_neg c43⟩
          · refine c_draw Try.mixed (SC []) [] _ (fun a w h => h) ?_
            have O := O.drawn (w.drawn + 1)
            generalize { w with drawn := w.drawn + 1 } = w at O ⊢
            have hS : SC [] w := SC.nil
            refine d_take 0 rfl (by kernel_rfl) F (p_move rfl) rfl rfl hS fun a F => d_take 1 rfl (by kernel_rfl) F (p_move rfl) rfl rfl hS fun a F => d_take 2 rfl (by kernel_rfl) F (p_len_b rfl Try.underlying9) rfl rfl hS fun a F => d_take 3 rfl (by kernel_rfl) F (p_lss rfl rfl) rfl rfl hS fun a F => ?_
            have F := F.setB (d := 19) rfl (decide_eq_true cc1)
            refine d_take 4 rfl (by kernel_rfl) F (p_move rfl) rfl rfl hS fun a F => d_take 5 rfl (by kernel_rfl) F (p_move rfl) rfl rfl hS fun a F => d_take 6 rfl (by kernel_rfl) F (p_move rfl) rfl rfl hS fun a F => d_take 7 rfl (by kernel_rfl) F (p_add rfl rfl (by omega) (by omega)) rfl rfl hS fun a F => d_take 8 rfl (by kernel_rfl) F (p_move rfl) rfl rfl hS fun a F => d_take 9 rfl (by kernel_rfl) F (p_len_b rfl Try.underlying9) rfl rfl hS fun a F => d_take 10 rfl (by kernel_rfl) F (p_lss rfl rfl) rfl rfl hS fun a F => ?_
            have F := F.setB (d := 26) rfl (decide_eq_false cc2)
            refine d_take 11 rfl (by kernel_rfl) F (p_pick (t := true) rfl rfl) rfl rfl hS fun a F => d_take 12 rfl (by kernel_rfl) F (p_move rfl) rfl rfl hS fun a F => d_skip 13 rfl (by kernel_rfl) F rfl rfl hS fun a F => d_skip 14 rfl (by kernel_rfl) F rfl rfl hS fun a F => d_skip 15 rfl (by kernel_rfl) F rfl rfl hS fun a F => d_skip 16 rfl (by kernel_rfl) F rfl rfl hS fun a F => d_skip 17 rfl (by kernel_rfl) F rfl rfl hS fun a F => d_skip 18 rfl (by kernel_rfl) F rfl rfl hS fun a F => d_skip 19 rfl (by kernel_rfl) F rfl rfl hS fun a F => d_skip 20 rfl (by kernel_rfl) F rfl rfl hS fun a F => d_skip 21 rfl (by kernel_rfl) F rfl rfl hS fun a F => d_take 22 rfl (by kernel_rfl) F (p_pick (t := false) rfl rfl) rfl rfl hS fun a F => d_done (by kernel_rfl) (?_)
            refine hK12 _ _ (?_)
            try clear hK12 K12
            refine c_iff F rfl (wp_exit (e_then (e_then (e_here (hK10 _ _ (?_))))))
            try clear hK10 K10
            refine c_seq fun K13 hK13 => ?_
            have hcp := cp_end hi2c hi0a hi2a (by omega)
            refine c_region (sp F (p_move rfl) rfl rfl fun a F => sp F (p_move rfl) rfl rfl fun a F => sp F (p_gtr rfl rfl) rfl rfl fun a F => c_nil (hK13 _ _ (?_)))
            try clear hK13 K13
            by_cases c43 : z < n
            · have F := F.setB (d := 43) rfl (decide_eq_true c43)
              refine c_ift F rfl (c_seq fun K14 hK14 => c_region (sp F (p_move rfl) rfl rfl fun a F => sp F (p_assign rfl) rfl rfl fun a F => c_nil (hK14 _ _ (?_))))
              try clear hK14 K14
              refine c_region (sp F (p_move rfl) rfl rfl fun a F => sp F (p_assign rfl) rfl rfl fun a F => c_nil (hK8 _ _ (?_)))
              try clear hK8 K8
              refine c_region (sp F (p_move rfl) rfl rfl fun a F => sp F (p_add rfl rfl (by omega) (by omega)) rfl rfl fun a F => sp F (p_assign rfl) rfl rfl fun a F => c_nil (?_))
              have F : Has 48 [(0, .string (bs (x))), (1, .string (bs (y))), (4, .int .i64 (0)), (5, .int .i64 (0)), (8, .int .i64 (k + 1)), (6, .int .i64 (k)), (7, .int .i64 (n))] a := F.pick ⟨rfl, rfl, rfl, rfl, rfl, rfl, rfl, trivial⟩
              exact ⟨((x.length : Int) - (k + 1)).toNat, by omega, (k + 1), k, n, rfl, F, O, by first | assumption | omega, by first | assumption | omega, by rw [longF_step hi0a, hi0c, ← hcp]; first | exact if_pos c43 | exact if_neg c43⟩
            · have F := F.setB (d := 43) rfl (decide_eq_false c43)
              refine c_iff F rfl (wp_skip (hK8 _ _ (?_)))
              try clear hK8 K8
              refine c_region (sp F (p_move rfl) rfl rfl fun a F => sp F (p_add rfl rfl (by omega) (by omega)) rfl rfl fun a F => sp F (p_assign rfl) rfl rfl fun a F => c_nil (?_))
              have F : Has 48 [(0, .string (bs (x))), (1, .string (bs (y))), (4, .int .i64 (0)), (5, .int .i64 (0)), (8, .int .i64 (k + 1)), (6, .int .i64 (u)), (7, .int .i64 (z))] a := F.pick ⟨rfl, rfl, rfl, rfl, rfl, rfl, rfl, trivial⟩
              exact ⟨((x.length : Int) - (k + 1)).toNat, by omega, (k + 1), u, z, rfl, F, O, by first | assumption | omega, by first | assumption | omega, by rw [longF_step hi0a, hi0c, ← hcp]; first | exact if_pos c43 | exact if_neg c43⟩
        · refine c_draw Try.mixed (SC []) [] _ (fun a w h => h) ?_
          have O := O.drawn (w.drawn + 1)
          generalize { w with drawn := w.drawn + 1 } = w at O ⊢
          have hS : SC [] w := SC.nil
          refine d_take 0 rfl (by kernel_rfl) F (p_move rfl) rfl rfl hS fun a F => d_take 1 rfl (by kernel_rfl) F (p_move rfl) rfl rfl hS fun a F => d_take 2 rfl (by kernel_rfl) F (p_len_b rfl Try.underlying9) rfl rfl hS fun a F => d_take 3 rfl (by kernel_rfl) F (p_lss rfl rfl) rfl rfl hS fun a F => ?_
          have F := F.setB (d := 19) rfl (decide_eq_false cc1)
          refine d_take 4 rfl (by kernel_rfl) F (p_move rfl) rfl rfl hS fun a F => d_skip 5 rfl (by kernel_rfl) F rfl rfl hS fun a F => d_skip 6 rfl (by kernel_rfl) F rfl rfl hS fun a F => d_skip 7 rfl (by kernel_rfl) F rfl rfl hS fun a F => d_skip 8 rfl (by kernel_rfl) F rfl rfl hS fun a F => d_skip 9 rfl (by kernel_rfl) F rfl rfl hS fun a F => d_skip 10 rfl (by kernel_rfl) F rfl rfl hS fun a F => d_take 11 rfl (by kernel_rfl) F (p_pick (t := false) rfl rfl) rfl rfl hS fun a F => d_take 12 rfl (by kernel_rfl) F (p_move rfl) rfl rfl hS fun a F => d_skip 13 rfl (by kernel_rfl) F rfl rfl hS fun a F => d_skip 14 rfl (by kernel_rfl) F rfl rfl hS fun a F => d_skip 15 rfl (by kernel_rfl) F rfl rfl hS fun a F => d_skip 16 rfl (by kernel_rfl) F rfl rfl hS fun a F => ?_
          refine d_skip 17 rfl (by kernel_rfl) F rfl rfl hS fun a F => d_skip 18 rfl (by kernel_rfl) F rfl rfl hS fun a F => d_skip 19 rfl (by kernel_rfl) F rfl rfl hS fun a F => d_skip 20 rfl (by kernel_rfl) F rfl rfl hS fun a F => d_skip 21 rfl (by kernel_rfl) F rfl rfl hS fun a F => d_take 22 rfl (by kernel_rfl) F (p_pick (t := false) rfl rfl) rfl rfl hS fun a F => d_done (by kernel_rfl) (hK12 _ _ (?_))
          try clear hK12 K12
          refine c_iff F rfl (wp_exit (e_then (e_then (e_here (hK10 _ _ (?_))))))
          try clear hK10 K10
          refine c_seq fun K13 hK13 => ?_
          have hcp := cp_end hi2c hi0a hi2a (by omega)
          refine c_region (sp F (p_move rfl) rfl rfl fun a F => sp F (p_move rfl) rfl rfl fun a F => sp F (p_gtr rfl rfl) rfl rfl fun a F => c_nil (hK13 _ _ (?_)))
          try clear hK13 K13
          by_cases c43 : z < n
          · have F := F.setB (d := 43) rfl (decide_eq_true c43)
            refine c_ift F rfl (c_seq fun K14 hK14 => c_region (sp F (p_move rfl) rfl rfl fun a F => sp F (p_assign rfl) rfl rfl fun a F => c_nil (hK14 _ _ (?_))))
            try clear hK14 K14
            refine c_region (sp F (p_move rfl) rfl rfl fun a F => sp F (p_assign rfl) rfl rfl fun a F => c_nil (hK8 _ _ (?_)))
            try clear hK8 K8
            refine c_region (sp F (p_move rfl) rfl rfl fun a F => sp F (p_add rfl rfl (by omega) (by omega)) rfl rfl fun a F => sp F (p_assign rfl) rfl rfl fun a F => c_nil (?_))
            have F : Has 48 [(0, .string (bs (x))), (1, .string (bs (y))), (4, .int .i64 (0)), (5, .int .i64 (0)), (8, .int .i64 (k + 1)), (6, .int .i64 (k)), (7, .int .i64 (n))] a := F.pick ⟨rfl, rfl, rfl, rfl, rfl, rfl, rfl, trivial⟩
            exact ⟨((x.length : Int) - (k + 1)).toNat, by omega, (k + 1), k, n, rfl, F, O, by first | assumption | omega, by first | assumption | omega, by rw [longF_step hi0a, hi0c, ← hcp]; first | exact if_pos c43 | exact if_neg c43⟩
          · have F := F.setB (d := 43) rfl (decide_eq_false c43)
            refine c_iff F rfl (wp_skip (hK8 _ _ (?_)))
            try clear hK8 K8
            refine c_region (sp F (p_move rfl) rfl rfl fun a F => sp F (p_add rfl rfl (by omega) (by omega)) rfl rfl fun a F => sp F (p_assign rfl) rfl rfl fun a F => c_nil (?_))
            have F : Has 48 [(0, .string (bs (x))), (1, .string (bs (y))), (4, .int .i64 (0)), (5, .int .i64 (0)), (8, .int .i64 (k + 1)), (6, .int .i64 (u)), (7, .int .i64 (z))] a := F.pick ⟨rfl, rfl, rfl, rfl, rfl, rfl, rfl, trivial⟩
            exact ⟨((x.length : Int) - (k + 1)).toNat, by omega, (k + 1), u, z, rfl, F, O, by first | assumption | omega, by first | assumption | omega, by rw [longF_step hi0a, hi0c, ← hcp]; first | exact if_pos c43 | exact if_neg c43⟩
    · have F := F.setB (d := 13) rfl (decide_eq_false c13)
      refine c_iff F rfl (wp_exit (e_then (e_then (e_here (hK4 _ _ (?_))))))
      try clear hK4 K4
      refine c_seq fun K8 hK8 => c_region (sp F (p_move rfl) rfl rfl fun a F => sp F (p_move rfl) rfl rfl fun a F => sp F (p_assign rfl) rfl rfl fun a F => sp F (p_assign rfl) rfl rfl fun a F => c_nil (hK8 _ _ (?_)))
      try clear hK8 K8
      refine wp_ret (ret2 F rfl rfl rfl (?_))
      exact ⟨congrArg Ending.returned (show Value.tuple #[.int .i64 (u), .int .i64 (z)] = .tuple #[.int .i64 (longA x y), .int .i64 (longZ x y)] from by exact vpair (by unfold longA longZ; rw [show x.length = k.toNat by omega, hi0c]; exact ⟨rfl, rfl⟩)), O⟩

end Go.Proofs.Ytbhidkcljekobaa
