/- Contracts of the functions that make deltas. No conditions but those on lengths. -/
import Derived.Test.YtbhidkcljekobaaDelL
import Derived.Test.YtbhidkcljekobaaDelD
namespace Go.Proofs.Ytbhidkcljekobaa
open Go.ChangeShapes Go.WideShapes Go.ChangeAt Go.RowKit
set_option linter.unusedVariables false
set_option linter.unusedSimpArgs false


theorem d_alone {P : Program} {n : Nat} {Fr : List (Nat × Value)} {a : Act} {w : World} {S : World → Prop} {ops : Array Oper} {listed : Array Bool} {ex : List Nat} {fuel : Nat} {J : Act → World → Prop} {op : Op} {ty d : Nat} {pos : String} {aft : Array Edge} {g : Option (Nat × Bool)} {v : Value}
    (i : Nat) (hi : ops[i]? = some ⟨some d, op, ty, pos, aft, g⟩) (hr : Region.ready .any ops listed = [i]) (F : Has n Fr a) (hp : PureIf P S op ty Fr v) (hw : wants ops Fr g = some true) (hd : Nat.blt d n = true) (hS : S w)
    (k : ∀ a', Has n ((d, v) :: Fr) a' → wpAnyN P ops (Qn J) S ex fuel (listed.setIfInBounds i true) a' w) : wpAnyN P ops (Qn J) S ex (fuel + 1) listed a w := by
  refine d_one i hr (d_op hi F hw ?_)
  unfold Oper.wp
  rw [hp n a w (some d) pos aft g F hS]
  exact ⟨fun _ => hS, k _ (F.put (lt_of_blt hd) v)⟩
abbrev Op3 := Int × Int × List UInt8
def lastOp (acc : List Op3) : Op3 := acc.getD (acc.length - 1) (0, 1, [])
def mkStep (b t : List UInt8) (acc : List Op3) : List Op3 := if 2 ≤ longZ b t then acc ++ [(longA b t, longZ b t, [])] else if (lastOp acc).2.1 = 0 then acc.set (acc.length - 1) ((lastOp acc).1, (lastOp acc).2.1, (lastOp acc).2.2 ++ t.take 1) else acc ++ [(0, 0, t.take 1)]
def mkLen (b t : List UInt8) : Nat := if 2 ≤ longZ b t then (longZ b t).toNat else 1
def mkD (b : List UInt8) : Nat → List UInt8 → List Op3 → List Op3
  | 0, _, acc => acc
  | f + 1, t, acc => if t = [] then acc else mkD b f (t.drop (mkLen b t)) (mkStep b t acc)
def makeD (b t : List UInt8) : List Op3 := if (b.length : Int) ≤ 8 ∧ (t.length : Int) ≤ 8 then mkD b t.length t [] else []
def MkAt (b t0 t : List UInt8) (acc : List Op3) : Prop := ∃ f, t.length ≤ f ∧ mkD b f t acc = mkD b t0.length t0 []
section
variable {b t t0 : List UInt8} {acc : List Op3} {e : Op3}
theorem mkAt_zero : MkAt b t0 t0 [] := ⟨t0.length, Nat.le_refl _, rfl⟩
theorem mkAt_step (h : MkAt b t0 t acc) (ht : 0 < t.length) : MkAt b t0 (t.drop (mkLen b t)) (mkStep b t acc) := by
  obtain ⟨f, hf, he⟩ := h
  obtain ⟨g, rfl⟩ : ∃ g, f = g + 1 := ⟨f - 1, by omega⟩
  have hm : 1 ≤ mkLen b t := by unfold mkLen; split <;> omega
  refine ⟨g, by rw [List.length_drop]; omega, ?_⟩
  rw [← he, mkD, if_neg (fun h => by rw [h] at ht; simp at ht)]
theorem mkAt_end (h : MkAt b t0 t acc) (ht : t = []) : acc = mkD b t0.length t0 [] := by
  obtain ⟨f, _, he⟩ := h
  rw [← he]
  cases f with
  | zero => rfl
  | succ f => rw [mkD, if_pos ht]
theorem last_get {k : Int} (hk : k = (acc.length : Int) - 1) (h0 : 0 ≤ k) (he : acc[k.toNat]? = some e) : lastOp acc = e := by
  unfold lastOp
  rw [show acc.length - 1 = k.toNat by omega, List.getD_eq_getElem?_getD, he]; rfl
theorem last_none (h : acc.length = 0) : (lastOp acc).2.1 = 1 := by
  have : acc = [] := List.length_eq_zero_iff.1 h
  subst this; rfl
theorem longZ_le : 0 ≤ longZ b t ∧ longZ b t ≤ t.length := by
  have h := longF_is b t b.length
  unfold longZ
  refine ⟨h.1, ?_⟩
  rcases h.2.2 with h1 | ⟨a, _, _, h3, _⟩
  · rw [h1.1]; omega
  · have := cp_le (b.drop a) t; omega
theorem longA_le : 0 ≤ longA b t ∧ longA b t ≤ b.length := by
  have h := longF_is b t b.length
  unfold longA
  rcases h.2.2 with h1 | ⟨a, h1, h2, _⟩
  · rw [h1.2]; omega
  · rw [h1]; omega
theorem mkAt_copy {z : Int} (h : MkAt b t0 t acc) (ht : 0 < t.length) (hz : z = longZ b t) (h2 : 2 ≤ z) : MkAt b t0 (t.drop z.toNat) (acc ++ [(longA b t, z, [])]) := by
  have := mkAt_step h ht
  unfold mkStep mkLen at this
  subst hz
  rwa [if_pos h2, if_pos h2] at this
theorem mkAt_more {k : Int} (h : MkAt b t0 t acc) (ht : 0 < t.length) (h2 : ¬ 2 ≤ longZ b t) (hk : k = (acc.length : Int) - 1) (h0 : 0 ≤ k) (he : acc[k.toNat]? = some e) (hs : e.2.1 = 0) : MkAt b t0 (t.drop 1) (acc.set k.toNat (e.1, e.2.1, e.2.2 ++ t.take 1)) := by
  have := mkAt_step h ht
  unfold mkStep mkLen at this
  rw [if_neg h2, if_neg h2, last_get hk h0 he, if_pos hs] at this
  rwa [show acc.length - 1 = k.toNat by omega] at this
theorem mkAt_new (h : MkAt b t0 t acc) (ht : 0 < t.length) (h2 : ¬ 2 ≤ longZ b t) (hs : ¬ (lastOp acc).2.1 = 0) : MkAt b t0 (t.drop 1) (acc ++ [(0, 0, t.take 1)]) := by
  have := mkAt_step h ht
  unfold mkStep mkLen at this
  rwa [if_neg h2, if_neg h2, if_neg hs] at this
theorem makeD_ok (h : (b.length : Int) ≤ 8 ∧ (t.length : Int) ≤ 8) : makeD b t = mkD b t.length t [] := if_pos h
theorem makeD_bad (h : ¬ ((b.length : Int) ≤ 8 ∧ (t.length : Int) ≤ 8)) : makeD b t = [] := if_neg h
end
set_option maxRecDepth 100000 in
/-- spec.DeltaMake -/
theorem sDeltaMake_ok (x : List UInt8) (y : List UInt8) (w0 : World) (hx : (x.length : Int) ≤ 9223372036854775807) (hy : (y.length : Int) ≤ 9223372036854775807) :
    Calls Try.prog 25 #[.string (bs (x)), .string (bs (y))] w0 fun e w => ∃ (P : Option Addr), ∃ (N : Nat), ∃ (C : Nat), e = .returned (.slice P N C) ∧ ((N : Int) = (makeD x y).length) ∧ ((N : Int) ≤ 1048600) ∧ Own w0 [] [.row 43 3 (.slice P N C) N ((makeD x y).flatMap encOp)] w := by
  have O := Own.start w0
  refine enterO (n := 75) Try.func25 rfl rfl rfl O fun a w F O => ?_
  refine c_seq fun K1 hK1 => c_region (sp F (p_assign rfl) rfl rfl fun a F => c_nil (hK1 _ _ (?_)))
  try clear hK1 K1
  refine c_seq fun K2 hK2 => c_region (so F rfl (o_bslice (cs := []) F O rfl Try.underlying23 Try.sz_43 Try.zero_43 rfl rfl rfl fun b9 w O a F => ?_))
  have O : Own w0 [] [.cells b9 [] 43] w := O
  refine sp F (p_assign rfl) rfl rfl fun a F => c_nil (hK2 _ _ (?_))
  try clear hK2 K2
  refine c_seq fun K3 hK3 => c_seq fun K4 hK4 => c_region (sp F (p_move rfl) rfl rfl fun a F => sp F (p_len_b rfl Try.underlying9) rfl rfl fun a F => sp F (p_gtr rfl rfl) rfl rfl fun a F => sp F (p_move rfl) rfl rfl fun a F => ?_)
  by_cases c13 : 8 < (x.length : Int)
  · have F := F.setB (d := 12) rfl (decide_eq_true c13)
    have F := F.setB (d := 13) rfl (decide_eq_true c13)
    refine ss F rfl rfl fun a F => ss F rfl rfl fun a F => ss F rfl rfl fun a F => sp F (p_pick (t := true) rfl rfl) rfl rfl fun a F => c_nil (hK4 _ _ (?_))
    try clear hK4 K4
    refine c_ift F rfl (c_seq fun K5 hK5 => c_region (sp F (p_move rfl) rfl rfl fun a F => sp F (p_assign rfl) rfl rfl fun a F => c_nil (hK5 _ _ (?_))))
    try clear hK5 K5
    refine wp_ret (r_then (ret1 F rfl rfl (?_)))
    have O := O.asRow 0 (q := 0) (sz := 3) rfl rfl (by unfold maxLen; omega)
    have O : Own w0 [] [.row 43 3 (.slice (some ⟨b9, 0, none⟩) 0 0) 0 ([])] w := O
    have O := O.setR 0 rfl (show Res.row 43 3 (.slice (some ⟨b9, 0, none⟩) 0 0) 0 ([]) = .row 43 3 (.slice (some ⟨b9, 0, none⟩) 0 0) 0 ((makeD x y).flatMap encOp) from by first | (rw [makeD_bad (by omega)]; done) | (rw [makeD_bad (by omega)]; rfl) | (rw [makeD_ok ⟨by omega, by omega⟩, ← mkAt_end hi0c (List.length_eq_zero_iff.1 (by omega))]))
    have O : Own w0 [] [.row 43 3 (.slice (some ⟨b9, 0, none⟩) 0 0) 0 ((makeD x y).flatMap encOp)] w := O
    exact ⟨(some ⟨b9, 0, none⟩), 0, 0, rfl, by first | (rw [makeD_bad (by omega)]; done) | (rw [makeD_bad (by omega)]; rfl) | (rw [makeD_ok ⟨by omega, by omega⟩, ← mkAt_end hi0c (List.length_eq_zero_iff.1 (by omega))]; omega), by first | assumption | omega, O⟩
  · have F := F.setB (d := 12) rfl (decide_eq_false c13)
    have F := F.setB (d := 13) rfl (decide_eq_false c13)
    refine sp F (p_move rfl) rfl rfl fun a F => sp F (p_len_b rfl Try.underlying9) rfl rfl fun a F => sp F (p_gtr rfl rfl) rfl rfl fun a F => sp F (p_pick (t := false) rfl rfl) rfl rfl fun a F => c_nil (hK4 _ _ (?_))
    try clear hK4 K4
    by_cases c17 : 8 < (y.length : Int)
    · have F := F.setB (d := 16) rfl (decide_eq_true c17)
      have F := F.setB (d := 17) rfl (decide_eq_true c17)
      refine c_ift F rfl (c_seq fun K5 hK5 => c_region (sp F (p_move rfl) rfl rfl fun a F => sp F (p_assign rfl) rfl rfl fun a F => c_nil (hK5 _ _ (?_))))
      try clear hK5 K5
      refine wp_ret (r_then (ret1 F rfl rfl (?_)))
      have O := O.asRow 0 (q := 0) (sz := 3) rfl rfl (by unfold maxLen; omega)
      have O : Own w0 [] [.row 43 3 (.slice (some ⟨b9, 0, none⟩) 0 0) 0 ([])] w := O
      have O := O.setR 0 rfl (show Res.row 43 3 (.slice (some ⟨b9, 0, none⟩) 0 0) 0 ([]) = .row 43 3 (.slice (some ⟨b9, 0, none⟩) 0 0) 0 ((makeD x y).flatMap encOp) from by first | (rw [makeD_bad (by omega)]; done) | (rw [makeD_bad (by omega)]; rfl) | (rw [makeD_ok ⟨by omega, by omega⟩, ← mkAt_end hi0c (List.length_eq_zero_iff.1 (by omega))]))
      have O : Own w0 [] [.row 43 3 (.slice (some ⟨b9, 0, none⟩) 0 0) 0 ((makeD x y).flatMap encOp)] w := O
      exact ⟨(some ⟨b9, 0, none⟩), 0, 0, rfl, by first | (rw [makeD_bad (by omega)]; done) | (rw [makeD_bad (by omega)]; rfl) | (rw [makeD_ok ⟨by omega, by omega⟩, ← mkAt_end hi0c (List.length_eq_zero_iff.1 (by omega))]; omega), by first | assumption | omega, O⟩
    · have F := F.setB (d := 16) rfl (decide_eq_false c17)
      have F := F.setB (d := 17) rfl (decide_eq_false c17)
      refine c_iff F rfl (wp_skip (hK3 _ _ (?_)))
      try clear hK3 K3
      refine c_seq fun K5 hK5 => wp_block (?_)
      refine c_loop (fun mm a w => ∃ (t : List UInt8), ∃ (P : Option Addr), ∃ (N : Nat), ∃ (C : Nat), ∃ (L1 : List (Int × Int × List UInt8)), mm = (t.length : Int).toNat ∧ Has 75 [(0, .string (bs (x))), (4, .slice none 0 0), (17, .bool false), (1, .string (bs (t))), (5, .slice P N C)] a ∧ Own w0 [] [.row 43 3 (.slice P N C) N (L1.flatMap encOp)] w ∧ ((N : Int) = L1.length) ∧ ((N : Int) + t.length ≤ 8) ∧ (MkAt x y t L1) ∧ (∀ o ∈ L1, (o.2.2.length : Int) ≤ 8 - t.length)) ?_ ?_
      · have F : Has 75 [(0, .string (bs (x))), (4, .slice none 0 0), (17, .bool false), (1, .string (bs (y))), (5, .slice (some ⟨b9, 0, none⟩) 0 0)] a := F.pick ⟨rfl, rfl, rfl, rfl, rfl, trivial⟩
        have O := O.asRow 0 (q := 0) (sz := 3) rfl rfl (by unfold maxLen; omega)
        have O : Own w0 [] [.row 43 3 (.slice (some ⟨b9, 0, none⟩) 0 0) 0 ([])] w := O
        have O := O.setR 0 rfl (show Res.row 43 3 (.slice (some ⟨b9, 0, none⟩) 0 0) 0 ([]) = .row 43 3 (.slice (some ⟨b9, 0, none⟩) 0 0) 0 (([]).flatMap encOp) from by rfl)
        have O : Own w0 [] [.row 43 3 (.slice (some ⟨b9, 0, none⟩) 0 0) 0 (([]).flatMap encOp)] w := O
        exact ⟨(y.length : Int).toNat, y, (some ⟨b9, 0, none⟩), 0, 0, ([]), rfl, F, O, by rfl, by first | assumption | omega, by exact mkAt_zero, by simp⟩
      · rintro mm a w ⟨t, P, N, C, L1, rfl, F, O, hi0a, hi0b, hi0c, hi0d⟩
        refine c_seq fun K6 hK6 => c_seq fun K7 hK7 => c_region (sp F (p_move rfl) rfl rfl fun a F => sp F (p_len_b rfl Try.underlying9) rfl rfl fun a F => sp F (p_gtr rfl rfl) rfl rfl fun a F => c_nil (hK7 _ _ (?_)))
        try clear hK7 K7
        by_cases c21 : 0 < (t.length : Int)
        · have F := F.setB (d := 21) rfl (decide_eq_true c21)
          refine c_ift F rfl (wp_skip (hK6 _ _ (?_)))
          try clear hK6 K6
          refine wp_block (c_seq fun K8 hK8 => c_region (sp F (p_move rfl) rfl rfl fun a F => sp F (p_move rfl) rfl rfl fun a F => so F rfl (o_call (vs := #[.string (bs (x)), .string (bs (t))]) F Try.en_46 rfl rfl ((l2Longest_ok x t w (by omega) (by omega)).mono ?_))))
          rintro e w ⟨rfl, K⟩
          refine ⟨_, rfl, fun a F => ?_⟩
          have O : Own w0 [] [.row 43 3 (.slice P N C) N (L1.flatMap encOp)] w := O.call0 K
          clear K
          have O : Own w0 [] [.row 43 3 (.slice P N C) N (L1.flatMap encOp)] w := O
          refine sp F (p_move rfl) rfl rfl fun a F => sp F (p_extract rfl rfl) rfl rfl fun a F => sp F (p_extract rfl rfl) rfl rfl fun a F => sp F (p_assign rfl) rfl rfl fun a F => sp F (p_assign rfl) rfl rfl fun a F => c_nil (hK8 _ _ (?_))
          try clear hK8 K8
          refine c_seq fun K9 hK9 => ?_
          have hZ := longZ_le (b := x) (t := t)
          have hdl : ((t.drop (longZ x t : Int).toNat).length : Int) = t.length - longZ x t := by rw [List.length_drop]; omega
          have hd1 : ((t.drop (1 : Int).toNat).length : Int) = t.length - 1 := by rw [List.length_drop]; omega
          have htk : ((t.take (1 : Int).toNat).length : Int) = 1 := by rw [List.length_take]; omega
          refine c_region (sp F (p_move rfl) rfl rfl fun a F => sp F (p_len_l rfl Try.underlying23) rfl rfl fun a F => sp F (p_sub rfl rfl (by omega) (by omega)) rfl rfl fun a F => sp F (p_assign rfl) rfl rfl fun a F => c_nil (hK9 _ _ (?_)))
          try clear hK9 K9
          refine c_seq fun K10 hK10 => wp_block (c_seq fun K11 hK11 => c_region (sp F (p_move rfl) rfl rfl fun a F => sp F (p_geq rfl rfl) rfl rfl fun a F => sp F (p_assign rfl) rfl rfl fun a F => c_nil (hK11 _ _ (?_))))
          try clear hK11 K11
          by_cases c37 : 2 ≤ (longZ x t)
          · have F := F.setB (d := 39) rfl (decide_eq_true c37)
            have F := F.setB (d := 37) rfl (decide_eq_true c37)
            refine c_ift F rfl (c_seq fun K12 hK12 => c_region (sp F (p_move rfl) rfl rfl fun a F => sp F (p_move rfl) rfl rfl fun a F => sp F (p_move rfl) rfl rfl fun a F => sp F (p_build (cs := [.int .i64 (longA x t), .int .i64 (longZ x t), .string (bs ([]))]) rfl Try.places_43 rfl) rfl rfl fun a F => so F rfl (o_bslice (cs := [.int .i64 (longA x t), .int .i64 (longZ x t), .string (bs ([]))]) F O rfl Try.underlying23 Try.sz_43 Try.zero_43 rfl rfl rfl fun b44 w O a F => ?_)))
            have O : Own w0 [] [.cells b44 [.int .i64 (longA x t), .int .i64 (longZ x t), .string (bs ([]))] 43, .row 43 3 (.slice P N C) N (L1.flatMap encOp)] w := O
            refine so F rfl (o_append F O rfl rfl Try.underlying23 Try.elem_43 (by decide) 1 0 rfl rfl rfl rfl (by unfold maxLen; omega) (by omega) rfl fun p45 k45 w O a F => ?_)
            have O : Own w0 [] [.cells b44 [.int .i64 (longA x t), .int .i64 (longZ x t), .string (bs ([]))] 43, .row 43 3 (.slice p45 (N + 1) k45) (N + 1) ((L1.flatMap encOp) ++ [.int .i64 (longA x t), .int .i64 (longZ x t), .string (bs ([]))])] w := O
            have O := O.setR 1 rfl (show Res.row 43 3 (.slice p45 (N + 1) k45) (N + 1) ((L1.flatMap encOp) ++ [.int .i64 (longA x t), .int .i64 (longZ x t), .string (bs ([]))]) = .row 43 3 (.slice p45 (N + 1) k45) (N + 1) ((L1 ++ [(longA x t, longZ x t, [])]).flatMap encOp) from by simp [encOp])
            have O : Own w0 [] [.cells b44 [.int .i64 (longA x t), .int .i64 (longZ x t), .string (bs ([]))] 43, .row 43 3 (.slice p45 (N + 1) k45) (N + 1) ((L1 ++ [(longA x t, longZ x t, [])]).flatMap encOp)] w := O
            refine sp F (p_assign rfl) rfl rfl fun a F => c_nil (hK12 _ _ (?_))
            try clear hK12 K12
            refine c_seq fun K13 hK13 => c_region (sp F (p_move rfl) rfl rfl fun a F => sp F (p_move rfl) rfl rfl fun a F => sp F (p_sfrom rfl rfl Try.underlying9 (by omega) (by omega)) rfl rfl fun a F => sp F (p_assign rfl) rfl rfl fun a F => c_nil (hK13 _ _ (?_)))
            try clear hK13 K13
            refine wp_exit (e_pass (by decide) (e_then (e_here (?_))))
            have F : Has 75 [(0, .string (bs (x))), (4, .slice none 0 0), (17, .bool false), (1, .string (bs (t.drop (longZ x t : Int).toNat))), (5, .slice p45 (N + 1) k45)] a := F.pick ⟨rfl, rfl, rfl, rfl, rfl, trivial⟩
            have O : Own w0 [] [.row 43 3 (.slice p45 (N + 1) k45) (N + 1) ((L1 ++ [(longA x t, longZ x t, [])]).flatMap encOp)] w := ((O.pull 1 rfl).take 1)
            exact ⟨((t.drop (longZ x t : Int).toNat).length : Int).toNat, by omega, (t.drop (longZ x t : Int).toNat), p45, (N + 1), k45, (L1 ++ [(longA x t, longZ x t, [])]), rfl, F, O, by first | omega | (simp; done) | (simp; omega), by omega, by first | exact mkAt_copy hi0c (by omega) rfl c37 | exact mkAt_more hi0c (by omega) c37 (by omega) (by omega) he55 c49 | exact mkAt_new hi0c (by omega) c37 (by rw [last_get (k := (N : Int) - 1) (by omega) (by omega) he55]; exact c49) | exact mkAt_new hi0c (by omega) c37 (by rw [last_none (by omega)]; decide), by intro o ho; first | (rcases List.mem_append.1 ho with ho | ho <;> first | (have h9 := hi0d o ho; omega) | (have h9 := List.mem_singleton.1 ho; subst h9; first | (simp; omega) | (simp only []; omega))) | (rcases List.mem_or_eq_of_mem_set ho with ho | ho <;> first | (have h9 := hi0d o ho; omega) | (subst ho; have h9 := hi0d e55 (List.mem_of_getElem? he55); simp only [List.length_append]; omega))⟩
          · have F := F.setB (d := 39) rfl (decide_eq_false c37)
            have F := F.setB (d := 37) rfl (decide_eq_false c37)
            refine c_iff F rfl (c_seq fun K12 hK12 => c_region (sp F (p_move rfl) rfl rfl fun a F => sp F (p_geq rfl rfl) rfl rfl fun a F => sp F (p_move rfl) rfl rfl fun a F => ?_))
            by_cases c52 : 0 ≤ ((N : Int) - 1)
            · have F := F.setB (d := 51) rfl (decide_eq_true c52)
              have F := F.setB (d := 52) rfl (decide_eq_true c52)
              refine sp F (p_move rfl) rfl rfl fun a F => sp F (p_move rfl) rfl rfl fun a F => ?_
              obtain ⟨b55, hp55⟩ := O.rowSome 0 rfl (by omega)
              rw [hp55] at O
              try rw [hp55] at F
              obtain ⟨e55, he55⟩ := get_some (l := L1) (i := (N : Int) - 1) (by omega) (by first | omega | (simp; omega))
              have hl55 := hi0d e55 (List.mem_of_getElem? he55)
              refine sp F (p_iaddr rfl rfl Try.underlying23 Try.sz_43 (by omega) (by omega)) rfl rfl fun a F => sp F (p_faddr rfl Try.foff_43_1) rfl rfl fun a F => sp F (p_load rfl Try.agg_3 (fun _ h => (ld1 ((O.loadRow 0 rfl (flat_get encOp_len he55 (j := 1) rfl))) h))) rfl rfl fun a F => sp F (p_eql rfl rfl) rfl rfl fun a F => sp F (p_pick (t := true) rfl rfl) rfl rfl fun a F => sp F (p_assign rfl) rfl rfl fun a F => c_nil (hK12 _ _ (?_))
              try clear hK12 K12
              by_cases c49 : e55.2.1 = 0
              · have F := F.setB (d := 58) rfl (decide_eq_true c49)
                have F := F.setB (d := 59) rfl (decide_eq_true c49)
                have F := F.setB (d := 49) rfl (decide_eq_true c49)
                refine c_ift F rfl (?_)
                have hl55 := hi0d e55 (List.mem_of_getElem? he55)
                have hl55 := hi0d e55 (List.mem_of_getElem? he55)
                refine c_draw Try.mixed (SC [(b55, 0 + ((N : Int) - 1 : Int).toNat * 3 + 2, .string (bs (e55.2.2)))]) [12] _ (fun a w h => h) ?_
                have O := O.drawn (w.drawn + 1)
                generalize { w with drawn := w.drawn + 1 } = w at O ⊢
                have hS : SC [(b55, 0 + ((N : Int) - 1 : Int).toNat * 3 + 2, .string (bs (e55.2.2)))] w := (SC.cons ((O.loadRow 0 rfl (flat_get encOp_len he55 (j := 2) rfl))) SC.nil)
                refine d_take 0 rfl (by kernel_rfl) F (p_move rfl) rfl rfl hS fun a F => d_take 1 rfl (by kernel_rfl) F (p_move rfl) rfl rfl hS fun a F => d_take 2 rfl (by kernel_rfl) F (p_move rfl) rfl rfl hS fun a F => d_take 3 rfl (by kernel_rfl) F (p_move rfl) rfl rfl hS fun a F => d_take 4 rfl (by kernel_rfl) F (p_iaddr rfl rfl Try.underlying23 Try.sz_43 (by omega) (by omega)) rfl rfl hS fun a F => d_take 5 rfl (by kernel_rfl) F (p_faddr rfl Try.foff_43_2) rfl rfl hS fun a F => d_take 6 rfl (by kernel_rfl) F (p_load rfl Try.agg_9 (fun _ h => (SC.get h 0 rfl))) rfl rfl hS fun a F => d_take 7 rfl (by kernel_rfl) F (p_move rfl) rfl rfl hS fun a F => d_take 8 rfl (by kernel_rfl) F (p_sto rfl rfl Try.underlying9 (by omega) (by omega)) rfl rfl hS fun a F => d_take 9 rfl (by kernel_rfl) F (p_cat rfl rfl (by first | omega | (simp; done) | (simp; omega))) rfl rfl hS fun a F => d_alone 10 rfl (by kernel_rfl) F (p_iaddr rfl rfl Try.underlying23 Try.sz_43 (by omega) (by omega)) rfl rfl hS fun a F => d_take 11 rfl (by kernel_rfl) F (p_faddr rfl Try.foff_43_2) rfl rfl hS fun a F => d_one 12 (by kernel_rfl) (?_)
                refine d_op rfl F rfl (o_storeRow F O rfl rfl Try.sz_9 rfl rfl 0 rfl (by rw [flat_len encOp_len]; first | omega | (simp; omega)) fun w O => ?_)
                have hst : (L1.flatMap encOp).set (0 + ((N : Int) - 1 : Int).toNat * 3 + 2) (.string (bs (e55.2.2 ++ (t.take (1 : Int).toNat)))) = (L1.set ((N : Int) - 1 : Int).toNat (e55.1, e55.2.1, e55.2.2 ++ (t.take (1 : Int).toNat))).flatMap encOp := flat_set encOp_len he55 (j := 2) rfl (by decide)
                have O := O.setR 0 rfl (congrArg (Res.row 43 3 (.slice (some ⟨b55, 0, none⟩) N C) N) hst)
                have O : Own w0 [] [.row 43 3 (.slice (some ⟨b55, 0, none⟩) N C) N ((L1.set ((N : Int) - 1 : Int).toNat (e55.1, e55.2.1, e55.2.2 ++ (t.take (1 : Int).toNat))).flatMap encOp)] w := O
                refine ⟨fun h => absurd h (by decide), ?_⟩
                refine d_done (by kernel_rfl) (hK10 _ _ (?_))
                try clear hK10 K10
                refine c_region (sp F (p_move rfl) rfl rfl fun a F => sp F (p_sfrom rfl rfl Try.underlying9 (by omega) (by omega)) rfl rfl fun a F => sp F (p_assign rfl) rfl rfl fun a F => c_nil (?_))
                have F : Has 75 [(0, .string (bs (x))), (4, .slice none 0 0), (17, .bool false), (1, .string (bs (t.drop (1 : Int).toNat))), (5, .slice (some ⟨b55, 0, none⟩) N C)] a := F.pick ⟨rfl, rfl, rfl, rfl, rfl, trivial⟩
                exact ⟨((t.drop (1 : Int).toNat).length : Int).toNat, by omega, (t.drop (1 : Int).toNat), (some ⟨b55, 0, none⟩), N, C, (L1.set ((N : Int) - 1 : Int).toNat (e55.1, e55.2.1, e55.2.2 ++ (t.take (1 : Int).toNat))), rfl, F, O, by first | omega | (simp; done) | (simp; omega), by omega, by first | exact mkAt_copy hi0c (by omega) rfl c37 | exact mkAt_more hi0c (by omega) c37 (by omega) (by omega) he55 c49 | exact mkAt_new hi0c (by omega) c37 (by rw [last_get (k := (N : Int) - 1) (by omega) (by omega) he55]; exact c49) | exact mkAt_new hi0c (by omega) c37 (by rw [last_none (by omega)]; decide), by intro o ho; first | (rcases List.mem_append.1 ho with ho | ho <;> first | (have h9 := hi0d o ho; omega) | (have h9 := List.mem_singleton.1 ho; subst h9; first | (simp; omega) | (simp only []; omega))) | (rcases List.mem_or_eq_of_mem_set ho with ho | ho <;> first | (have h9 := hi0d o ho; omega) | (subst ho; have h9 := hi0d e55 (List.mem_of_getElem? he55); simp only [List.length_append]; omega))⟩
              · have F := F.setB (d := 58) rfl (decide_eq_false c49)
                have F := F.setB (d := 59) rfl (decide_eq_false c49)
                have F := F.setB (d := 49) rfl (decide_eq_false c49)
                refine c_iff F rfl (c_region (sp F (p_move rfl) rfl rfl fun a F => sp F (p_move rfl) rfl rfl fun a F => sp F (p_sto rfl rfl Try.underlying9 (by omega) (by omega)) rfl rfl fun a F => sp F (p_build (cs := [.int .i64 (0), .int .i64 (0), .string (bs (t.take (1 : Int).toNat))]) rfl Try.places_43 rfl) rfl rfl fun a F => so F rfl (o_bslice (cs := [.int .i64 (0), .int .i64 (0), .string (bs (t.take (1 : Int).toNat))]) F O rfl Try.underlying23 Try.sz_43 Try.zero_43 rfl rfl rfl fun b35 w O a F => ?_)))
                have O : Own w0 [] [.cells b35 [.int .i64 (0), .int .i64 (0), .string (bs (t.take (1 : Int).toNat))] 43, .row 43 3 (.slice (some ⟨b55, 0, none⟩) N C) N (L1.flatMap encOp)] w := O
                refine so F rfl (o_append F O rfl rfl Try.underlying23 Try.elem_43 (by decide) 1 0 rfl rfl rfl rfl (by unfold maxLen; omega) (by omega) rfl fun p36 k36 w O a F => ?_)
                have O : Own w0 [] [.cells b35 [.int .i64 (0), .int .i64 (0), .string (bs (t.take (1 : Int).toNat))] 43, .row 43 3 (.slice p36 (N + 1) k36) (N + 1) ((L1.flatMap encOp) ++ [.int .i64 (0), .int .i64 (0), .string (bs (t.take (1 : Int).toNat))])] w := O
                have O := O.setR 1 rfl (show Res.row 43 3 (.slice p36 (N + 1) k36) (N + 1) ((L1.flatMap encOp) ++ [.int .i64 (0), .int .i64 (0), .string (bs (t.take (1 : Int).toNat))]) = .row 43 3 (.slice p36 (N + 1) k36) (N + 1) ((L1 ++ [(0, 0, t.take (1 : Int).toNat)]).flatMap encOp) from by simp [encOp])
                have O : Own w0 [] [.cells b35 [.int .i64 (0), .int .i64 (0), .string (bs (t.take (1 : Int).toNat))] 43, .row 43 3 (.slice p36 (N + 1) k36) (N + 1) ((L1 ++ [(0, 0, t.take (1 : Int).toNat)]).flatMap encOp)] w := O
                refine sp F (p_assign rfl) rfl rfl fun a F => c_nil (hK10 _ _ (?_))
                try clear hK10 K10
                refine c_region (sp F (p_move rfl) rfl rfl fun a F => sp F (p_sfrom rfl rfl Try.underlying9 (by omega) (by omega)) rfl rfl fun a F => sp F (p_assign rfl) rfl rfl fun a F => c_nil (?_))
                try rw [← hp55] at F
                try rw [← hp55] at O
                have F : Has 75 [(0, .string (bs (x))), (4, .slice none 0 0), (17, .bool false), (1, .string (bs (t.drop (1 : Int).toNat))), (5, .slice p36 (N + 1) k36)] a := F.pick ⟨rfl, rfl, rfl, rfl, rfl, trivial⟩
                have O : Own w0 [] [.row 43 3 (.slice p36 (N + 1) k36) (N + 1) ((L1 ++ [(0, 0, t.take (1 : Int).toNat)]).flatMap encOp)] w := ((O.pull 1 rfl).take 1)
                exact ⟨((t.drop (1 : Int).toNat).length : Int).toNat, by omega, (t.drop (1 : Int).toNat), p36, (N + 1), k36, (L1 ++ [(0, 0, t.take (1 : Int).toNat)]), rfl, F, O, by first | omega | (simp; done) | (simp; omega), by omega, by first | exact mkAt_copy hi0c (by omega) rfl c37 | exact mkAt_more hi0c (by omega) c37 (by omega) (by omega) he55 c49 | exact mkAt_new hi0c (by omega) c37 (by rw [last_get (k := (N : Int) - 1) (by omega) (by omega) he55]; exact c49) | exact mkAt_new hi0c (by omega) c37 (by rw [last_none (by omega)]; decide), by intro o ho; first | (rcases List.mem_append.1 ho with ho | ho <;> first | (have h9 := hi0d o ho; omega) | (have h9 := List.mem_singleton.1 ho; subst h9; first | (simp; omega) | (simp only []; omega))) | (rcases List.mem_or_eq_of_mem_set ho with ho | ho <;> first | (have h9 := hi0d o ho; omega) | (subst ho; have h9 := hi0d e55 (List.mem_of_getElem? he55); simp only [List.length_append]; omega))⟩
            · have F := F.setB (d := 51) rfl (decide_eq_false c52)
              have F := F.setB (d := 52) rfl (decide_eq_false c52)
              refine ss F rfl rfl fun a F => ss F rfl rfl fun a F => ss F rfl rfl fun a F => ss F rfl rfl fun a F => ss F rfl rfl fun a F => ss F rfl rfl fun a F => sp F (p_pick (t := false) rfl rfl) rfl rfl fun a F => sp F (p_assign rfl) rfl rfl fun a F => c_nil (hK12 _ _ (?_))
              try clear hK12 K12
              refine c_iff F rfl (c_region (sp F (p_move rfl) rfl rfl fun a F => sp F (p_move rfl) rfl rfl fun a F => sp F (p_sto rfl rfl Try.underlying9 (by omega) (by omega)) rfl rfl fun a F => sp F (p_build (cs := [.int .i64 (0), .int .i64 (0), .string (bs (t.take (1 : Int).toNat))]) rfl Try.places_43 rfl) rfl rfl fun a F => so F rfl (o_bslice (cs := [.int .i64 (0), .int .i64 (0), .string (bs (t.take (1 : Int).toNat))]) F O rfl Try.underlying23 Try.sz_43 Try.zero_43 rfl rfl rfl fun b35 w O a F => ?_)))
              have O : Own w0 [] [.cells b35 [.int .i64 (0), .int .i64 (0), .string (bs (t.take (1 : Int).toNat))] 43, .row 43 3 (.slice P N C) N (L1.flatMap encOp)] w := O
              refine so F rfl (o_append F O rfl rfl Try.underlying23 Try.elem_43 (by decide) 1 0 rfl rfl rfl rfl (by unfold maxLen; omega) (by omega) rfl fun p36 k36 w O a F => ?_)
              have O : Own w0 [] [.cells b35 [.int .i64 (0), .int .i64 (0), .string (bs (t.take (1 : Int).toNat))] 43, .row 43 3 (.slice p36 (N + 1) k36) (N + 1) ((L1.flatMap encOp) ++ [.int .i64 (0), .int .i64 (0), .string (bs (t.take (1 : Int).toNat))])] w := O
              have O := O.setR 1 rfl (show Res.row 43 3 (.slice p36 (N + 1) k36) (N + 1) ((L1.flatMap encOp) ++ [.int .i64 (0), .int .i64 (0), .string (bs (t.take (1 : Int).toNat))]) = .row 43 3 (.slice p36 (N + 1) k36) (N + 1) ((L1 ++ [(0, 0, t.take (1 : Int).toNat)]).flatMap encOp) from by simp [encOp])
              have O : Own w0 [] [.cells b35 [.int .i64 (0), .int .i64 (0), .string (bs (t.take (1 : Int).toNat))] 43, .row 43 3 (.slice p36 (N + 1) k36) (N + 1) ((L1 ++ [(0, 0, t.take (1 : Int).toNat)]).flatMap encOp)] w := O
              refine sp F (p_assign rfl) rfl rfl fun a F => c_nil (hK10 _ _ (?_))
              try clear hK10 K10
              refine c_region (sp F (p_move rfl) rfl rfl fun a F => sp F (p_sfrom rfl rfl Try.underlying9 (by omega) (by omega)) rfl rfl fun a F => sp F (p_assign rfl) rfl rfl fun a F => c_nil (?_))
              have F : Has 75 [(0, .string (bs (x))), (4, .slice none 0 0), (17, .bool false), (1, .string (bs (t.drop (1 : Int).toNat))), (5, .slice p36 (N + 1) k36)] a := F.pick ⟨rfl, rfl, rfl, rfl, rfl, trivial⟩
              have O : Own w0 [] [.row 43 3 (.slice p36 (N + 1) k36) (N + 1) ((L1 ++ [(0, 0, t.take (1 : Int).toNat)]).flatMap encOp)] w := ((O.pull 1 rfl).take 1)
              exact ⟨((t.drop (1 : Int).toNat).length : Int).toNat, by omega, (t.drop (1 : Int).toNat), p36, (N + 1), k36, (L1 ++ [(0, 0, t.take (1 : Int).toNat)]), rfl, F, O, by first | omega | (simp; done) | (simp; omega), by omega, by first | exact mkAt_copy hi0c (by omega) rfl c37 | exact mkAt_more hi0c (by omega) c37 (by omega) (by omega) he55 c49 | exact mkAt_new hi0c (by omega) c37 (by rw [last_get (k := (N : Int) - 1) (by omega) (by omega) he55]; exact c49) | exact mkAt_new hi0c (by omega) c37 (by rw [last_none (by omega)]; decide), by intro o ho; first | (rcases List.mem_append.1 ho with ho | ho <;> first | (have h9 := hi0d o ho; omega) | (have h9 := List.mem_singleton.1 ho; subst h9; first | (simp; omega) | (simp only []; omega))) | (rcases List.mem_or_eq_of_mem_set ho with ho | ho <;> first | (have h9 := hi0d o ho; omega) | (subst ho; have h9 := hi0d e55 (List.mem_of_getElem? he55); simp only [List.length_append]; omega))⟩
        · have F := F.setB (d := 21) rfl (decide_eq_false c21)
          refine c_iff F rfl (wp_exit (e_then (e_then (e_here (hK5 _ _ (?_))))))
          try clear hK5 K5
          refine c_seq fun K8 hK8 => c_region (sp F (p_move rfl) rfl rfl fun a F => sp F (p_assign rfl) rfl rfl fun a F => c_nil (hK8 _ _ (?_)))
          try clear hK8 K8
          refine wp_ret (ret1 F rfl rfl (?_))
          have O := O.setR 0 rfl (show Res.row 43 3 (.slice P N C) N (L1.flatMap encOp) = .row 43 3 (.slice P N C) N ((makeD x y).flatMap encOp) from by first | (rw [makeD_bad (by omega)]; done) | (rw [makeD_bad (by omega)]; rfl) | (rw [makeD_ok ⟨by omega, by omega⟩, ← mkAt_end hi0c (List.length_eq_zero_iff.1 (by omega))]))
          have O : Own w0 [] [.row 43 3 (.slice P N C) N ((makeD x y).flatMap encOp)] w := O
          exact ⟨P, N, C, rfl, by first | (rw [makeD_bad (by omega)]; done) | (rw [makeD_bad (by omega)]; rfl) | (rw [makeD_ok ⟨by omega, by omega⟩, ← mkAt_end hi0c (List.length_eq_zero_iff.1 (by omega))]; omega), by first | assumption | omega, O⟩

end Go.Proofs.Ytbhidkcljekobaa
