/- The contract of the LogScan of the reference. No conditions but the length of the text. -/
import Derived.Test.YtklgkfknifkbaaaDraws
import Derived.Test.YtklgkfknifkbaaaUsedLe
namespace Go.Proofs.Ytklgkfknifkbaaa
open Go.ChangeShapes Go.WideShapes Go.ChangeAt Go.RowKit
set_option linter.unusedVariables false
set_option linter.unusedSimpArgs false


section
variable {l : List UInt8} {k : Int} {rs : List (List UInt8)}
theorem byteAt_get (h0 : 0 ≤ k) (hk : k < l.length) : byteAt l k = ((l[k.toNat]'(by omega)).toNat : Int) := by
  unfold byteAt; rw [List.getD_eq_getElem?_getD, List.getElem?_eq_getElem (by omega)]; rfl
theorem sub_rec {n : Nat} (h0 : 0 ≤ k) : sub l (k + 1) ((k + 1) + n) = (l.drop (k.toNat + 1)).take n := by
  unfold sub
  rw [show (k + 1 + (n : Int)).toNat = k.toNat + 1 + n by omega, show (k + 1).toNat = k.toNat + 1 by omega, List.drop_take]
  congr 1; omega
theorem scan_stop (hA : At l k.toNat rs) (h0 : 0 ≤ k) (h : headRec (l.drop k.toNat) = none) : scan l = rs ∧ (used (scan l) : Int) = k := by
  obtain ⟨h1, h2⟩ := hA.stop h
  exact ⟨h1, by rw [h2]; omega⟩
theorem scan_end (hA : At l k.toNat rs) (h0 : 0 ≤ k) (h : (l.length : Int) ≤ k) : scan l = rs ∧ (used (scan l) : Int) = k := scan_stop hA h0 (head_end (by omega))
theorem scan_bad (hA : At l k.toNat rs) (h0 : 0 ≤ k) (hk : k < l.length) (hn : ¬ (1 ≤ byteAt l k ∧ byteAt l k ≤ 12)) : scan l = rs ∧ (used (scan l) : Int) = k :=
  scan_stop hA h0 (head_bad (by omega) (fun h => hn (by rw [byteAt_get h0 hk]; omega)))
theorem scan_short (hA : At l k.toNat rs) (h0 : 0 ≤ k) (hk : k < l.length) (hn : (l.length : Int) < k + byteAt l k + 2) : scan l = rs ∧ (used (scan l) : Int) = k :=
  scan_stop hA h0 (head_short (k := k.toNat) (by omega) (by rw [byteAt_get h0 hk] at hn; omega))
theorem byteAt_end (h0 : 0 ≤ k) (hk : k < l.length) (hf : k + byteAt l k + 2 ≤ l.length) : byteAt l ((k + 1) + byteAt l k) = ((l[k.toNat + 1 + (l[k.toNat]'(by omega)).toNat]'(by rw [byteAt_get h0 hk] at hf; omega)).toNat : Int) := by
  have e := byteAt_get h0 hk
  rw [byteAt_get (by rw [e]; omega) (by omega)]
  congr 2
  simp only [e]
  congr 1
  omega
theorem scan_wrong (hA : At l k.toNat rs) (h0 : 0 ≤ k) (hk : k < l.length) (hf : k + byteAt l k + 2 ≤ l.length) (hn : ¬ byteAt l ((k + 1) + byteAt l k) = (chk (sub l (k + 1) ((k + 1) + byteAt l k)) : Int)) : scan l = rs ∧ (used (scan l) : Int) = k := by
  have e := byteAt_get h0 hk
  have e2 : sub l (k + 1) ((k + 1) + byteAt l k) = (l.drop (k.toNat + 1)).take (l[k.toNat]'(by omega)).toNat := by rw [e, sub_rec h0]
  rw [byteAt_end h0 hk hf, e2] at hn
  exact scan_stop hA h0 (head_wrong (k := k.toNat) (by omega) (by rw [e] at hf; omega) (fun h => hn (by rw [h])))
theorem scan_next (hA : At l k.toNat rs) (h0 : 0 ≤ k) (hk : k < l.length) (hb : 1 ≤ byteAt l k ∧ byteAt l k ≤ 12) (hf : k + byteAt l k + 2 ≤ l.length) (hn : byteAt l ((k + 1) + byteAt l k) = (chk (sub l (k + 1) ((k + 1) + byteAt l k)) : Int)) : At l ((k + byteAt l k) + 2).toNat (rs ++ [sub l (k + 1) ((k + 1) + byteAt l k)]) := by
  have e := byteAt_get h0 hk
  have e2 : sub l (k + 1) ((k + 1) + byteAt l k) = (l.drop (k.toNat + 1)).take (l[k.toNat]'(by omega)).toNat := by rw [e, sub_rec h0]
  rw [byteAt_end h0 hk hf, e2] at hn
  have hr := head_right (l := l) (k := k.toNat) (by omega) (by omega) (by omega) (by rw [e] at hf; omega) (by exact_mod_cast hn)
  have h := hA.next hr
  have h3 := (headRec_some hr).2.1
  rw [e2]
  have hlen : ((l.drop (k.toNat + 1)).take (l[k.toNat]'(by omega)).toNat).length = (l[k.toNat]'(by omega)).toNat := by
    rw [List.length_take, List.length_drop]; rw [e] at hf; omega
  rw [hlen] at h
  have e3 : ((k + byteAt l k) + 2).toNat = k.toNat + (l[k.toNat]'(by omega)).toNat + 2 := by rw [e]; omega
  rw [e3]; exact h
end
section
variable {α : Type} {k : Int} {es es1 es2 : List α} {e e1 e2 : α}
def SameTo (k : Int) (es es2 : List α) : Prop := ∀ i : Nat, (i : Int) < k → es[i]? = es2[i]?
theorem sameTo_zero : SameTo 0 es es2 := fun i h => by omega
theorem sameTo_step (h : SameTo k es es2) (h0 : 0 ≤ k) (he : es[k.toNat]? = some e1) (he2 : es2[k.toNat]? = some e2) (hh : e1 = e2) : SameTo (k + 1) es es2 := fun i hi => by
  by_cases hik : (i : Int) < k
  · exact h i hik
  · have : i = k.toNat := by omega
    subst this; rw [he, he2, hh]
theorem sameTo_set (h : SameTo k es1 es) (h0 : 0 ≤ k) (he : es[k.toNat]? = some e) (hl : k < es1.length) : SameTo (k + 1) (es1.set k.toNat e) es := fun i hi => by
  by_cases hik : i = k.toNat
  · subst hik
    rw [List.getElem?_set_self (by omega), he]
  · rw [List.getElem?_set_ne (by omega)]
    exact h i (by omega)
theorem same_ext (h : SameTo k es es2) (hk : (es.length : Int) ≤ k) (hl : (es.length : Int) = es2.length) : es = es2 := by
  apply List.ext_getElem?
  intro i
  by_cases hi : i < es.length
  · exact h i (by omega)
  · rw [List.getElem?_eq_none (by omega), List.getElem?_eq_none (by omega)]
end
set_option maxRecDepth 100000 in
/-- spec.LogScan -/
theorem sLogScan_ok (l : List UInt8) (w0 : World) (hl : (l.length : Int) ≤ 1048576) :
    Calls Try.prog 38 #[.string (bs (l))] w0 fun e w => ∃ (P : Option Addr), ∃ (N : Nat), ∃ (C : Nat), e = .returned (.tuple #[.slice P N C, .int .i64 ((used (scan l) : Int))]) ∧ ((N : Int) = (scan l).length) ∧ ((N : Int) ≤ l.length) ∧ ((used (scan l) : Int) ≤ l.length) ∧ Own w0 [] [.row 9 1 (.slice P N C) N ((scan l).flatMap encStr)] w := by
  have O := Own.start w0
  refine enterO (n := 60) Try.func38 rfl rfl rfl O fun a w F O => ?_
  refine c_seq fun K1 hK1 => c_region (sp F (p_assign rfl) rfl rfl fun a F => sp F (p_assign rfl) rfl rfl fun a F => c_nil (hK1 _ _ (?_)))
  try clear hK1 K1
  refine c_seq fun K2 hK2 => c_region (so F rfl (o_bslice (cs := []) F O rfl Try.underlying40 Try.sz_9 Try.zero_9 rfl rfl rfl fun b8 w O a F => ?_))
  have O : Own w0 [] [.cells b8 [] 9] w := O
  refine sp F (p_assign rfl) rfl rfl fun a F => c_nil (hK2 _ _ (?_))
  try clear hK2 K2
  refine c_seq fun K3 hK3 => c_region (sp F (p_assign rfl) rfl rfl fun a F => c_nil (hK3 _ _ (?_)))
  try clear hK3 K3
  refine c_seq fun K4 hK4 => wp_block (?_)
  refine c_loop (fun mm a w => ∃ (k : Int), ∃ (P : Option Addr), ∃ (N : Nat), ∃ (C : Nat), ∃ (rs : List (List UInt8)), mm = ((l.length : Int) - k).toNat ∧ Has 60 [(0, .string (bs (l))), (5, .int .i64 (k)), (4, .slice P N C)] a ∧ Own w0 [] [.row 9 1 (.slice P N C) N (rs.flatMap encStr)] w ∧ (0 ≤ k) ∧ (k ≤ l.length) ∧ ((N : Int) = rs.length) ∧ ((N : Int) ≤ k) ∧ (At l (k : Int).toNat rs)) ?_ ?_
  · have F : Has 60 [(0, .string (bs (l))), (5, .int .i64 (0)), (4, .slice (some ⟨b8, 0, none⟩) 0 0)] a := F.pick ⟨rfl, rfl, rfl, trivial⟩
    have O := O.asRow 0 (q := 0) (sz := 1) rfl rfl (by unfold maxLen; omega)
    have O : Own w0 [] [.row 9 1 (.slice (some ⟨b8, 0, none⟩) 0 0) 0 ([])] w := O
    have O := O.setR 0 rfl (show Res.row 9 1 (.slice (some ⟨b8, 0, none⟩) 0 0) 0 ([]) = .row 9 1 (.slice (some ⟨b8, 0, none⟩) 0 0) 0 (([]).flatMap encStr) from by rfl)
    have O : Own w0 [] [.row 9 1 (.slice (some ⟨b8, 0, none⟩) 0 0) 0 (([]).flatMap encStr)] w := O
    exact ⟨((l.length : Int) - 0).toNat, 0, (some ⟨b8, 0, none⟩), 0, 0, ([]), rfl, F, O, by first | assumption | omega, by first | assumption | omega, by rfl, by first | assumption | omega, by exact At.start l⟩
  · rintro mm a w ⟨k, P, N, C, rs, rfl, F, O, hi0a, hi0b, hi0c, hi0d, hi0e⟩
    have hb1 := byteAt_lo l k
    have hb2 := byteAt_hi l k
    refine c_seq fun K5 hK5 => c_seq fun K6 hK6 => c_region (sp F (p_move rfl) rfl rfl fun a F => sp F (p_move rfl) rfl rfl fun a F => sp F (p_len_b rfl Try.underlying9) rfl rfl fun a F => sp F (p_lss rfl rfl) rfl rfl fun a F => c_nil (hK6 _ _ (?_)))
    try clear hK6 K6
    by_cases c12 : k < (l.length : Int)
    · have F := F.setB (d := 12) rfl (decide_eq_true c12)
      refine c_ift F rfl (wp_skip (hK5 _ _ (?_)))
      try clear hK5 K5
      refine wp_block (c_seq fun K7 hK7 => c_region (sp F (p_move rfl) rfl rfl fun a F => sp F (p_move rfl) rfl rfl fun a F => sp F (p_index rfl rfl Try.underlying9 (by omega) (by omega)) rfl rfl fun a F => sp F (p_conv64 rfl (by rw [Try.underlying5]; rfl) Try.underlying3 (by omega) (by omega)) rfl rfl fun a F => sp F (p_assign rfl) rfl rfl fun a F => c_nil (hK7 _ _ (?_))))
      try clear hK7 K7
      refine c_seq fun K8 hK8 => c_seq fun K9 hK9 => c_region (sp F (p_move rfl) rfl rfl fun a F => so F rfl (o_call (vs := #[.int .i64 (byteAt l k), .int .i64 (1), .int .i64 (12)]) F Try.en_50 rfl rfl ((l6In_ok (byteAt l k) 1 12 w).mono ?_)))
      rintro e w ⟨rfl, K⟩
      refine ⟨_, rfl, fun a F => ?_⟩
      have O : Own w0 [] [.row 9 1 (.slice P N C) N (rs.flatMap encStr)] w := O.call0 K
      clear K
      have O : Own w0 [] [.row 9 1 (.slice P N C) N (rs.flatMap encStr)] w := O
      by_cases c18 : 1 ≤ (byteAt l k) ∧ (byteAt l k) ≤ 12
      · have F := F.setB (d := 18) rfl (decide_eq_true c18)
        refine sp F (p_not rfl) rfl rfl fun a F => sp F (p_move rfl) rfl rfl fun a F => sp F (p_move rfl) rfl rfl fun a F => sp F (p_move rfl) rfl rfl fun a F => sp F (p_add rfl rfl (by omega) (by omega)) rfl rfl fun a F => sp F (p_add rfl rfl (by omega) (by omega)) rfl rfl fun a F => sp F (p_move rfl) rfl rfl fun a F => sp F (p_len_b rfl Try.underlying9) rfl rfl fun a F => sp F (p_gtr rfl rfl) rfl rfl fun a F => sp F (p_pick (t := false) rfl rfl) rfl rfl fun a F => c_nil (hK9 _ _ (?_))
        try clear hK9 K9
        by_cases c28 : (l.length : Int) < ((k + (byteAt l k)) + 2)
        · have F := F.setB (d := 27) rfl (decide_eq_true c28)
          have F := F.setB (d := 28) rfl (decide_eq_true c28)
          refine c_ift F rfl (c_seq fun K10 hK10 => ?_)
          obtain ⟨hsc, hus⟩ := (by first | exact scan_bad hi0e hi0a c12 c18 | exact scan_short hi0e hi0a c12 (by omega) : scan l = rs ∧ (used (scan l) : Int) = k)
          have hle1 := used_le l
          have hle2 := length_used (scan l)
          obtain rfl : rs = scan l := by exact hsc.symm
          refine c_region (sp F (p_move rfl) rfl rfl fun a F => sp F (p_move rfl) rfl rfl fun a F => sp F (p_assign rfl) rfl rfl fun a F => sp F (p_assign rfl) rfl rfl fun a F => c_nil (hK10 _ _ (?_)))
          try clear hK10 K10
          refine wp_ret (r_then (r_block (r_then (r_block (r_then (ret2 F rfl rfl rfl (?_)))))))
          exact ⟨P, N, C, congrArg Ending.returned (show Value.tuple #[.slice P N C, .int .i64 (k)] = .tuple #[.slice P N C, .int .i64 ((used (scan l) : Int))] from by rw [show Value.int .i64 (k) = .int .i64 ((used (scan l) : Int)) from by first | exact vint (by omega) | exact vint (by simp; done)]), by first | assumption | omega, by first | assumption | omega, by first | assumption | omega, O⟩
        · have F := F.setB (d := 27) rfl (decide_eq_false c28)
          have F := F.setB (d := 28) rfl (decide_eq_false c28)
          refine c_iff F rfl (wp_skip (hK8 _ _ (?_)))
          try clear hK8 K8
          refine c_seq fun K10 hK10 => c_region (sp F (p_move rfl) rfl rfl fun a F => sp F (p_move rfl) rfl rfl fun a F => sp F (p_add rfl rfl (by omega) (by omega)) rfl rfl fun a F => sp F (p_move rfl) rfl rfl fun a F => sp F (p_add rfl rfl (by omega) (by omega)) rfl rfl fun a F => sp F (p_move rfl) rfl rfl fun a F => sp F (p_add rfl rfl (by omega) (by omega)) rfl rfl fun a F => sp F (p_ssub rfl rfl rfl Try.underlying9 (by omega) (by omega) (by omega)) rfl rfl fun a F => sp F (p_assign rfl) rfl rfl fun a F => c_nil (hK10 _ _ (?_)))
          try clear hK10 K10
          refine c_seq fun K11 hK11 => c_seq fun K12 hK12 => ?_
          have hsl := sub_length l (k + 1) ((k + 1) + byteAt l k) (by omega) (by omega) (by omega)
          have hb3 := byteAt_lo l ((k + 1) + byteAt l k)
          refine c_draw Try.mixed (SC []) [] _ (fun a w h => h) ?_
          have O := O.drawn (w.drawn + 1)
          generalize { w with drawn := w.drawn + 1 } = w at O ⊢
          have hS : SC [] w := SC.nil
          refine d_take 0 rfl (by kernel_rfl) F (p_move rfl) rfl rfl hS fun a F => d_take 1 rfl (by kernel_rfl) F (p_move rfl) rfl rfl hS fun a F => d_take 2 rfl (by kernel_rfl) F (p_add rfl rfl (by omega) (by omega)) rfl rfl hS fun a F => d_take 3 rfl (by kernel_rfl) F (p_move rfl) rfl rfl hS fun a F => d_take 4 rfl (by kernel_rfl) F (p_add rfl rfl (by omega) (by omega)) rfl rfl hS fun a F => d_take 5 rfl (by kernel_rfl) F (p_index rfl rfl Try.underlying9 (by omega) (by omega)) rfl rfl hS fun a F => d_take 6 rfl (by kernel_rfl) F (p_move rfl) rfl rfl hS fun a F => d_one 7 (by kernel_rfl) (d_op rfl F rfl (o_call (vs := #[.string (bs (sub l (k + 1) ((k + 1) + (byteAt l k))))]) F Try.en_58 rfl rfl ((l4Check_ok (sub l (k + 1) ((k + 1) + (byteAt l k))) w (by first | omega | (simp; done) | (simp; omega))).mono ?_)))
          rintro e w ⟨rfl, K⟩
          refine ⟨_, rfl, fun a F => ?_⟩
          have O : Own w0 [] [.row 9 1 (.slice P N C) N (rs.flatMap encStr)] w := O.call0 K
          clear K
          have O : Own w0 [] [.row 9 1 (.slice P N C) N (rs.flatMap encStr)] w := O
          refine ⟨fun _ => SC.nil, ?_⟩
          have hS : SC [] w := SC.nil
          refine d_take 8 rfl (by kernel_rfl) F (p_neq rfl rfl) rfl rfl hS fun a F => d_done (by kernel_rfl) (hK12 _ _ (?_))
          try clear hK12 K12
          by_cases c47 : (byteAt l ((k + 1) + (byteAt l k))) = (chk (sub l (k + 1) ((k + 1) + (byteAt l k))) : Int)
          · have F := F.setB (d := 47) rfl (decide_eq_false (fun h => h c47))
            refine c_iff F rfl (wp_skip (hK11 _ _ (?_)))
            try clear hK11 K11
            refine c_seq fun K13 hK13 => c_region (sp F (p_move rfl) rfl rfl fun a F => sp F (p_move rfl) rfl rfl fun a F => so F rfl (o_bslice (cs := [.string (bs (sub l (k + 1) ((k + 1) + (byteAt l k))))]) F O rfl Try.underlying40 Try.sz_9 Try.zero_9 rfl rfl rfl fun b52 w O a F => ?_))
            have O : Own w0 [] [.cells b52 [.string (bs (sub l (k + 1) ((k + 1) + (byteAt l k))))] 9, .row 9 1 (.slice P N C) N (rs.flatMap encStr)] w := O
            refine so F rfl (o_append F O rfl rfl Try.underlying40 Try.elem_9 (by decide) 1 0 rfl rfl rfl rfl (by unfold maxLen; omega) (by omega) rfl fun p53 k53 w O a F => ?_)
            have O : Own w0 [] [.cells b52 [.string (bs (sub l (k + 1) ((k + 1) + (byteAt l k))))] 9, .row 9 1 (.slice p53 (N + 1) k53) (N + 1) ((rs.flatMap encStr) ++ [.string (bs (sub l (k + 1) ((k + 1) + (byteAt l k))))])] w := O
            have O := O.setR 1 rfl (show Res.row 9 1 (.slice p53 (N + 1) k53) (N + 1) ((rs.flatMap encStr) ++ [.string (bs (sub l (k + 1) ((k + 1) + (byteAt l k))))]) = .row 9 1 (.slice p53 (N + 1) k53) (N + 1) ((rs ++ [sub l (k + 1) ((k + 1) + (byteAt l k))]).flatMap encStr) from by simp [encStr])
            have O : Own w0 [] [.cells b52 [.string (bs (sub l (k + 1) ((k + 1) + (byteAt l k))))] 9, .row 9 1 (.slice p53 (N + 1) k53) (N + 1) ((rs ++ [sub l (k + 1) ((k + 1) + (byteAt l k))]).flatMap encStr)] w := O
            refine sp F (p_assign rfl) rfl rfl fun a F => c_nil (hK13 _ _ (?_))
            try clear hK13 K13
            refine c_region (sp F (p_move rfl) rfl rfl fun a F => sp F (p_move rfl) rfl rfl fun a F => sp F (p_add rfl rfl (by omega) (by omega)) rfl rfl fun a F => sp F (p_add rfl rfl (by omega) (by omega)) rfl rfl fun a F => sp F (p_assign rfl) rfl rfl fun a F => c_nil (?_))
            have F := F.setV (d := 5) rfl (show Value.int .i64 ((k + (byteAt l k)) + 2) = .int .i64 ((k + byteAt l k) + 2) from by first | rfl | exact vint (by omega) | exact vint (by simp; done) | exact vsl (by omega) | (simp; done))
            have F : Has 60 [(0, .string (bs (l))), (5, .int .i64 ((k + byteAt l k) + 2)), (4, .slice p53 (N + 1) k53)] a := F.pick ⟨rfl, rfl, rfl, trivial⟩
            have O : Own w0 [] [.row 9 1 (.slice p53 (N + 1) k53) (N + 1) ((rs ++ [sub l (k + 1) ((k + 1) + (byteAt l k))]).flatMap encStr)] w := ((O.pull 1 rfl).take 1)
            exact ⟨((l.length : Int) - ((k + byteAt l k) + 2)).toNat, by omega, ((k + byteAt l k) + 2), p53, (N + 1), k53, (rs ++ [sub l (k + 1) ((k + 1) + (byteAt l k))]), rfl, F, O, by first | assumption | omega, by first | assumption | omega, by first | omega | (simp; done) | (simp; omega) | (simp at *; omega), by first | assumption | omega, by exact scan_next hi0e hi0a c12 c18 (by omega) c47⟩
          · have F := F.setB (d := 47) rfl (decide_eq_true c47)
            refine c_ift F rfl (c_seq fun K13 hK13 => ?_)
            obtain ⟨hsc, hus⟩ := scan_wrong hi0e hi0a c12 (by omega) c47
            have hle1 := used_le l
            have hle2 := length_used (scan l)
            obtain rfl : rs = scan l := by exact hsc.symm
            refine c_region (sp F (p_move rfl) rfl rfl fun a F => sp F (p_move rfl) rfl rfl fun a F => sp F (p_assign rfl) rfl rfl fun a F => sp F (p_assign rfl) rfl rfl fun a F => c_nil (hK13 _ _ (?_)))
            try clear hK13 K13
            refine wp_ret (r_then (r_block (r_then (r_block (r_then (ret2 F rfl rfl rfl (?_)))))))
            exact ⟨P, N, C, congrArg Ending.returned (show Value.tuple #[.slice P N C, .int .i64 (k)] = .tuple #[.slice P N C, .int .i64 ((used (scan l) : Int))] from by rw [show Value.int .i64 (k) = .int .i64 ((used (scan l) : Int)) from by first | exact vint (by omega) | exact vint (by simp; done)]), by first | assumption | omega, by first | assumption | omega, by first | assumption | omega, O⟩
      · have F := F.setB (d := 18) rfl (decide_eq_false c18)
        refine sp F (p_not rfl) rfl rfl fun a F => sp F (p_move rfl) rfl rfl fun a F => ss F rfl rfl fun a F => ss F rfl rfl fun a F => ss F rfl rfl fun a F => ss F rfl rfl fun a F => ss F rfl rfl fun a F => ss F rfl rfl fun a F => ss F rfl rfl fun a F => sp F (p_pick (t := true) rfl rfl) rfl rfl fun a F => c_nil (hK9 _ _ (?_))
        try clear hK9 K9
        refine c_ift F rfl (c_seq fun K10 hK10 => ?_)
        obtain ⟨hsc, hus⟩ := (by first | exact scan_bad hi0e hi0a c12 c18 | exact scan_short hi0e hi0a c12 (by omega) : scan l = rs ∧ (used (scan l) : Int) = k)
        have hle1 := used_le l
        have hle2 := length_used (scan l)
        obtain rfl : rs = scan l := by exact hsc.symm
        refine c_region (sp F (p_move rfl) rfl rfl fun a F => sp F (p_move rfl) rfl rfl fun a F => sp F (p_assign rfl) rfl rfl fun a F => sp F (p_assign rfl) rfl rfl fun a F => c_nil (hK10 _ _ (?_)))
        try clear hK10 K10
        refine wp_ret (r_then (r_block (r_then (r_block (r_then (ret2 F rfl rfl rfl (?_)))))))
        exact ⟨P, N, C, congrArg Ending.returned (show Value.tuple #[.slice P N C, .int .i64 (k)] = .tuple #[.slice P N C, .int .i64 ((used (scan l) : Int))] from by rw [show Value.int .i64 (k) = .int .i64 ((used (scan l) : Int)) from by first | exact vint (by omega) | exact vint (by simp; done)]), by first | assumption | omega, by first | assumption | omega, by first | assumption | omega, O⟩
    · have F := F.setB (d := 12) rfl (decide_eq_false c12)
      refine c_iff F rfl (wp_exit (e_then (e_then (e_here (hK4 _ _ (?_))))))
      try clear hK4 K4
      refine c_seq fun K7 hK7 => ?_
      obtain ⟨hsc, hus⟩ := scan_end hi0e hi0a (by omega)
      have hle1 := used_le l
      have hle2 := length_used (scan l)
      obtain rfl : rs = scan l := by exact hsc.symm
      refine c_region (sp F (p_move rfl) rfl rfl fun a F => sp F (p_move rfl) rfl rfl fun a F => sp F (p_assign rfl) rfl rfl fun a F => sp F (p_assign rfl) rfl rfl fun a F => c_nil (hK7 _ _ (?_)))
      try clear hK7 K7
      refine wp_ret (ret2 F rfl rfl rfl (?_))
      exact ⟨P, N, C, congrArg Ending.returned (show Value.tuple #[.slice P N C, .int .i64 (k)] = .tuple #[.slice P N C, .int .i64 ((used (scan l) : Int))] from by rw [show Value.int .i64 (k) = .int .i64 ((used (scan l) : Int)) from by first | exact vint (by omega) | exact vint (by simp; done)]), by first | assumption | omega, by first | assumption | omega, by first | assumption | omega, O⟩

end Go.Proofs.Ytklgkfknifkbaaa
