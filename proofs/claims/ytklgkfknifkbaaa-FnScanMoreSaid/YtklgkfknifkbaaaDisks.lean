/- Contracts of the functions on disks: validity, appending, synchronizing, equality. No conditions but those on lengths. -/
import Derived.Test.YtklgkfknifkbaaaFrames
namespace Go.Proofs.Ytklgkfknifkbaaa
open Go.ChangeShapes Go.WideShapes Go.ChangeAt Go.RowKit
set_option linter.unusedVariables false
set_option linter.unusedSimpArgs false


theorem lFrame_bd (r : List UInt8) : 0 ≤ ((lFrame r).length : Int) ∧ ((lFrame r).length : Int) ≤ 14 := by
  unfold lFrame; split
  · rw [frameL_length]; omega
  · simp
theorem lFrame_len {r : List UInt8} (h : 1 ≤ (r.length : Int) ∧ (r.length : Int) ≤ 12 := by omega) : ((lFrame r).length : Int) = r.length + 2 := by rw [lFrame_ok h, frameL_length]
def apB (l : List UInt8) (n : Int) (r : List UInt8) : List UInt8 :=
  if ((l.length : Int) ≤ 120 ∧ 0 ≤ n ∧ n ≤ (l.length : Int)) ∧ (1 ≤ (r.length : Int) ∧ (r.length : Int) ≤ 12) then (if (l.length : Int) + r.length + 2 ≤ 120 then l ++ frameL r else l) else []
def apN (l : List UInt8) (n : Int) (r : List UInt8) : Int :=
  if ((l.length : Int) ≤ 120 ∧ 0 ≤ n ∧ n ≤ (l.length : Int)) ∧ (1 ≤ (r.length : Int) ∧ (r.length : Int) ≤ 12) then n else 0
theorem apB_ok {l : List UInt8} {n : Int} {r : List UInt8} (h : ((l.length : Int) ≤ 120 ∧ 0 ≤ n ∧ n ≤ (l.length : Int)) ∧ (1 ≤ (r.length : Int) ∧ (r.length : Int) ≤ 12) ∧ (l.length : Int) + r.length + 2 ≤ 120) : apB l n r = l ++ frameL r := by
  unfold apB; rw [if_pos ⟨h.1, h.2.1⟩, if_pos h.2.2]
theorem apB_full {l : List UInt8} {n : Int} {r : List UInt8} (h : ((l.length : Int) ≤ 120 ∧ 0 ≤ n ∧ n ≤ (l.length : Int)) ∧ (1 ≤ (r.length : Int) ∧ (r.length : Int) ≤ 12) ∧ ¬ ((l.length : Int) + r.length + 2 ≤ 120)) : apB l n r = l := by
  unfold apB; rw [if_pos ⟨h.1, h.2.1⟩, if_neg h.2.2]
theorem apB_bad {l : List UInt8} {n : Int} {r : List UInt8} (h : ¬ (((l.length : Int) ≤ 120 ∧ 0 ≤ n ∧ n ≤ (l.length : Int)) ∧ (1 ≤ (r.length : Int) ∧ (r.length : Int) ≤ 12))) : apB l n r = [] := if_neg h
theorem apN_ok {l : List UInt8} {n : Int} {r : List UInt8} (h : ((l.length : Int) ≤ 120 ∧ 0 ≤ n ∧ n ≤ (l.length : Int)) ∧ (1 ≤ (r.length : Int) ∧ (r.length : Int) ≤ 12)) : apN l n r = n := if_pos h
theorem apN_bad {l : List UInt8} {n : Int} {r : List UInt8} (h : ¬ (((l.length : Int) ≤ 120 ∧ 0 ≤ n ∧ n ≤ (l.length : Int)) ∧ (1 ≤ (r.length : Int) ∧ (r.length : Int) ≤ 12))) : apN l n r = 0 := if_neg h
def syB (l : List UInt8) (n : Int) : List UInt8 := if (l.length : Int) ≤ 120 ∧ 0 ≤ n ∧ n ≤ (l.length : Int) then l else []
def syN (l : List UInt8) (n : Int) : Int := if (l.length : Int) ≤ 120 ∧ 0 ≤ n ∧ n ≤ (l.length : Int) then l.length else 0
theorem syB_ok {l : List UInt8} {n : Int} (h : (l.length : Int) ≤ 120 ∧ 0 ≤ n ∧ n ≤ (l.length : Int)) : syB l n = l := if_pos h
theorem syB_bad {l : List UInt8} {n : Int} (h : ¬ ((l.length : Int) ≤ 120 ∧ 0 ≤ n ∧ n ≤ (l.length : Int))) : syB l n = [] := if_neg h
theorem syN_ok {l : List UInt8} {n : Int} (h : (l.length : Int) ≤ 120 ∧ 0 ≤ n ∧ n ≤ (l.length : Int)) : syN l n = l.length := if_pos h
theorem syN_bad {l : List UInt8} {n : Int} (h : ¬ ((l.length : Int) ≤ 120 ∧ 0 ≤ n ∧ n ≤ (l.length : Int))) : syN l n = 0 := if_neg h
set_option maxRecDepth 100000 in
/-- spec.LogAppend -/
theorem sLogAppend_ok (l : List UInt8) (n : Int) (r : List UInt8) (w0 : World) (hl : (l.length : Int) ≤ 9223372036854775807) (hr : (r.length : Int) ≤ 1048576) :
    Calls Try.prog 35 #[.agg #[.string (bs (l)), .int .i64 (n)], .string (bs (r))] w0 fun e w => e = .returned (.tuple #[.agg #[.string (bs (apB l n r)), .int .i64 (apN l n r)], .bool (decide (((l.length : Int) ≤ 120 ∧ 0 ≤ n ∧ n ≤ (l.length : Int)) ∧ (1 ≤ (r.length : Int) ∧ (r.length : Int) ≤ 12) ∧ (l.length : Int) + r.length + 2 ≤ 120))]) ∧ Own w0 [] [] w := by
  have O := Own.start w0
  have hfl := frameL_length r
  refine enterO (n := 33) Try.func35 rfl rfl rfl O fun a w F O => ?_
  refine c_seq fun K1 hK1 => c_region (so F rfl (o_box F O rfl rfl fun b2 w O a F => ?_))
  have O : Own w0 [] [.cells b2 [.string (bs (l)), .int .i64 (n)] 27] w := O
  refine so F rfl (o_alloc F O Try.zero_27 rfl fun b4 w O a F => ?_)
  have O : Own w0 [] [.cells b4 [.string (bs ([])), .int .i64 (0)] 27, .cells b2 [.string (bs (l)), .int .i64 (n)] 27] w := O
  refine sp F (p_assign rfl) rfl rfl fun a F => c_nil (hK1 _ _ (?_))
  try clear hK1 K1
  refine c_seq fun K2 hK2 => c_seq fun K3 hK3 => c_region (sp F (p_loadC (cs := [.string (bs (l)), .int .i64 (n)]) rfl Try.agg_27 Try.sz_27 (fun _ h => (CA.cons (ld1 (O.load 1 rfl rfl) h) (CA.cons (ld1 (O.load 1 rfl rfl) h) CA.nil)))) rfl rfl fun a F => so F rfl (o_call (vs := #[.agg #[.string (bs (l)), .int .i64 (n)]]) F Try.en_26 rfl rfl ((sDiskValid_ok l n w).mono ?_)))
  rintro e w ⟨rfl, K⟩
  refine ⟨_, rfl, fun a F => ?_⟩
  have O : Own w0 [] [.cells b4 [.string (bs ([])), .int .i64 (0)] 27, .cells b2 [.string (bs (l)), .int .i64 (n)] 27] w := O.call0 K
  clear K
  have O : Own w0 [] [.cells b4 [.string (bs ([])), .int .i64 (0)] 27, .cells b2 [.string (bs (l)), .int .i64 (n)] 27] w := O
  by_cases c7 : (l.length : Int) ≤ 120 ∧ 0 ≤ n ∧ n ≤ (l.length : Int)
  · have F := F.setB (d := 7) rfl (decide_eq_true c7)
    refine sp F (p_not rfl) rfl rfl fun a F => sp F (p_move rfl) rfl rfl fun a F => sp F (p_move rfl) rfl rfl fun a F => sp F (p_len_b rfl Try.underlying9) rfl rfl fun a F => so F rfl (o_call (vs := #[.int .i64 ((r.length : Int)), .int .i64 (1), .int .i64 (12)]) F Try.en_50 rfl rfl ((l6In_ok (r.length : Int) 1 12 w).mono ?_))
    rintro e w ⟨rfl, K⟩
    refine ⟨_, rfl, fun a F => ?_⟩
    have O : Own w0 [] [.cells b4 [.string (bs ([])), .int .i64 (0)] 27, .cells b2 [.string (bs (l)), .int .i64 (n)] 27] w := O.call0 K
    clear K
    have O : Own w0 [] [.cells b4 [.string (bs ([])), .int .i64 (0)] 27, .cells b2 [.string (bs (l)), .int .i64 (n)] 27] w := O
    by_cases c12 : 1 ≤ (r.length : Int) ∧ (r.length : Int) ≤ 12
    · have F := F.setB (d := 12) rfl (decide_eq_true c12)
      refine sp F (p_not rfl) rfl rfl fun a F => sp F (p_pick (t := false) rfl rfl) rfl rfl fun a F => c_nil (hK3 _ _ (?_))
      try clear hK3 K3
      refine c_iff F rfl (wp_skip (hK2 _ _ (?_)))
      try clear hK2 K2
      refine c_seq fun K4 hK4 => c_seq fun K5 hK5 => c_region (sp F (p_faddr rfl Try.foff_27_0) rfl rfl fun a F => sp F (p_load rfl Try.agg_9 (fun _ h => (ld1 (O.load 1 rfl rfl) h))) rfl rfl fun a F => sp F (p_len_b rfl Try.underlying9) rfl rfl fun a F => sp F (p_move rfl) rfl rfl fun a F => sp F (p_len_b rfl Try.underlying9) rfl rfl fun a F => sp F (p_add rfl rfl (by omega) (by omega)) rfl rfl fun a F => sp F (p_add rfl rfl (by omega) (by omega)) rfl rfl fun a F => sp F (p_gtr rfl rfl) rfl rfl fun a F => c_nil (hK5 _ _ (?_)))
      try clear hK5 K5
      by_cases c23 : 120 < (((l.length : Int) + (r.length : Int)) + 2)
      · have F := F.setB (d := 23) rfl (decide_eq_true c23)
        refine c_ift F rfl (c_seq fun K6 hK6 => c_region (sp F (p_loadC (cs := [.string (bs (l)), .int .i64 (n)]) rfl Try.agg_27 Try.sz_27 (fun _ h => (CA.cons (ld1 (O.load 1 rfl rfl) h) (CA.cons (ld1 (O.load 1 rfl rfl) h) CA.nil)))) rfl rfl fun a F => so F rfl (o_storeA (vs := [.string (bs (l)), .int .i64 (n)]) F O rfl rfl Try.sz_27 (by simp [Value.oneCell']) 0 rfl rfl fun w O => ?_)))
        have O : Own w0 [] [.cells b4 [.string (bs (l)), .int .i64 (n)] 27, .cells b2 [.string (bs (l)), .int .i64 (n)] 27] w := O
        refine sp F (p_assign rfl) rfl rfl fun a F => c_nil (hK6 _ _ (?_))
        try clear hK6 K6
        refine wp_ret (r_then (retCT F O rfl rfl rfl 0 rfl Try.agg_27 Try.sz_27 (?_)))
        have O : Own w0 [] [] w := (O.take 0)
        exact ⟨congrArg Ending.returned (show Value.tuple #[.agg #[.string (bs (l)), .int .i64 (n)], .bool false] = .tuple #[.agg #[.string (bs (apB l n r)), .int .i64 (apN l n r)], .bool (decide (((l.length : Int) ≤ 120 ∧ 0 ≤ n ∧ n ≤ (l.length : Int)) ∧ (1 ≤ (r.length : Int) ∧ (r.length : Int) ≤ 12) ∧ (l.length : Int) + r.length + 2 ≤ 120))] from by rw [apB_full (by omega), apN_ok (by omega), decide_eq_false (by omega)]), O⟩
      · have F := F.setB (d := 23) rfl (decide_eq_false c23)
        refine c_iff F rfl (wp_skip (hK4 _ _ (?_)))
        try clear hK4 K4
        refine c_seq fun K6 hK6 => ?_
        refine c_draw Try.mixed (SC [(b2, 0, .string (bs (l))), (b2, 0 + 1, .int .i64 (n))]) [] _ (fun a w h => h) ?_
        have O := O.drawn (w.drawn + 1)
        generalize { w with drawn := w.drawn + 1 } = w at O ⊢
        have hS : SC [(b2, 0, .string (bs (l))), (b2, 0 + 1, .int .i64 (n))] w := (SC.cons (O.load 1 rfl rfl) (SC.cons (O.load 1 rfl rfl) SC.nil))
        refine d_take 0 rfl (by kernel_rfl) F (p_faddr rfl Try.foff_27_0) rfl rfl hS fun a F => d_take 1 rfl (by kernel_rfl) F (p_load rfl Try.agg_9 (fun _ h => (SC.get h 0 rfl))) rfl rfl hS fun a F => d_take 2 rfl (by kernel_rfl) F (p_move rfl) rfl rfl hS fun a F => d_take 5 rfl (by kernel_rfl) F (p_faddr rfl Try.foff_27_1) rfl rfl hS fun a F => d_take 6 rfl (by kernel_rfl) F (p_load rfl Try.agg_3 (fun _ h => (SC.get h 1 rfl))) rfl rfl hS fun a F => d_one 3 (by kernel_rfl) (d_op rfl F rfl (o_call (vs := #[.string (bs (r))]) F Try.en_52 rfl rfl ((l4Frame_ok r w (by omega)).mono ?_)))
        rintro e w ⟨rfl, K⟩
        refine ⟨_, rfl, fun a F => ?_⟩
        have O : Own w0 [] [.cells b4 [.string (bs ([])), .int .i64 (0)] 27, .cells b2 [.string (bs (l)), .int .i64 (n)] 27] w := O.call0 K
        clear K
        have O : Own w0 [] [.cells b4 [.string (bs ([])), .int .i64 (0)] 27, .cells b2 [.string (bs (l)), .int .i64 (n)] 27] w := O
        refine ⟨fun _ => (SC.cons (O.load 1 rfl rfl) (SC.cons (O.load 1 rfl rfl) SC.nil)), ?_⟩
        have hS : SC [(b2, 0, .string (bs (l))), (b2, 0 + 1, .int .i64 (n))] w := (SC.cons (O.load 1 rfl rfl) (SC.cons (O.load 1 rfl rfl) SC.nil))
        refine d_take 4 rfl (by kernel_rfl) F (p_cat rfl rfl (by first | omega | (simp; done) | (simp; omega))) rfl rfl hS fun a F => d_take 7 rfl (by kernel_rfl) F (p_build (cs := [.string (bs (l ++ (frameL r))), .int .i64 (n)]) rfl Try.places_27 rfl) rfl rfl hS fun a F => d_one 8 (by kernel_rfl) (d_op rfl F rfl (o_storeA (vs := [.string (bs (l ++ (frameL r))), .int .i64 (n)]) F O rfl rfl Try.sz_27 (by simp [Value.oneCell']) 0 rfl rfl fun w O => ?_))
        have O : Own w0 [] [.cells b4 [.string (bs (l ++ (frameL r))), .int .i64 (n)] 27, .cells b2 [.string (bs (l)), .int .i64 (n)] 27] w := O
        refine ⟨fun _ => (SC.cons (O.load 1 rfl rfl) (SC.cons (O.load 1 rfl rfl) SC.nil)), ?_⟩
        have hS : SC [(b2, 0, .string (bs (l))), (b2, 0 + 1, .int .i64 (n))] w := (SC.cons (O.load 1 rfl rfl) (SC.cons (O.load 1 rfl rfl) SC.nil))
        refine d_take 9 rfl (by kernel_rfl) F (p_assign rfl) rfl rfl hS fun a F => d_done (by kernel_rfl) (hK6 _ _ (?_))
        try clear hK6 K6
        refine wp_ret (retCT F O rfl rfl rfl 0 rfl Try.agg_27 Try.sz_27 (?_))
        have O : Own w0 [] [] w := (O.take 0)
        exact ⟨congrArg Ending.returned (show Value.tuple #[.agg #[.string (bs (l ++ (frameL r))), .int .i64 (n)], .bool true] = .tuple #[.agg #[.string (bs (apB l n r)), .int .i64 (apN l n r)], .bool (decide (((l.length : Int) ≤ 120 ∧ 0 ≤ n ∧ n ≤ (l.length : Int)) ∧ (1 ≤ (r.length : Int) ∧ (r.length : Int) ≤ 12) ∧ (l.length : Int) + r.length + 2 ≤ 120))] from by rw [apB_ok (by omega), apN_ok (by omega), decide_eq_true (by omega)]), O⟩
    · have F := F.setB (d := 12) rfl (decide_eq_false c12)
      refine sp F (p_not rfl) rfl rfl fun a F => sp F (p_pick (t := false) rfl rfl) rfl rfl fun a F => c_nil (hK3 _ _ (?_))
      try clear hK3 K3
      refine c_ift F rfl (c_seq fun K4 hK4 => c_region (sp F (p_build (cs := [.string (bs ([])), .int .i64 (0)]) rfl Try.places_27 rfl) rfl rfl fun a F => so F rfl (o_storeA (vs := [.string (bs ([])), .int .i64 (0)]) F O rfl rfl Try.sz_27 (by simp [Value.oneCell']) 0 rfl rfl fun w O => ?_)))
      have O : Own w0 [] [.cells b4 [.string (bs ([])), .int .i64 (0)] 27, .cells b2 [.string (bs (l)), .int .i64 (n)] 27] w := O
      refine sp F (p_assign rfl) rfl rfl fun a F => c_nil (hK4 _ _ (?_))
      try clear hK4 K4
      refine wp_ret (r_then (retCT F O rfl rfl rfl 0 rfl Try.agg_27 Try.sz_27 (?_)))
      have O : Own w0 [] [] w := (O.take 0)
      exact ⟨congrArg Ending.returned (show Value.tuple #[.agg #[.string (bs ([])), .int .i64 (0)], .bool false] = .tuple #[.agg #[.string (bs (apB l n r)), .int .i64 (apN l n r)], .bool (decide (((l.length : Int) ≤ 120 ∧ 0 ≤ n ∧ n ≤ (l.length : Int)) ∧ (1 ≤ (r.length : Int) ∧ (r.length : Int) ≤ 12) ∧ (l.length : Int) + r.length + 2 ≤ 120))] from by rw [apB_bad (by omega), apN_bad (by omega), decide_eq_false (by omega)]), O⟩
  · have F := F.setB (d := 7) rfl (decide_eq_false c7)
    refine sp F (p_not rfl) rfl rfl fun a F => sp F (p_move rfl) rfl rfl fun a F => ss F rfl rfl fun a F => ss F rfl rfl fun a F => ss F rfl rfl fun a F => ss F rfl rfl fun a F => sp F (p_pick (t := true) rfl rfl) rfl rfl fun a F => c_nil (hK3 _ _ (?_))
    try clear hK3 K3
    refine c_ift F rfl (c_seq fun K4 hK4 => c_region (sp F (p_build (cs := [.string (bs ([])), .int .i64 (0)]) rfl Try.places_27 rfl) rfl rfl fun a F => so F rfl (o_storeA (vs := [.string (bs ([])), .int .i64 (0)]) F O rfl rfl Try.sz_27 (by simp [Value.oneCell']) 0 rfl rfl fun w O => ?_)))
    have O : Own w0 [] [.cells b4 [.string (bs ([])), .int .i64 (0)] 27, .cells b2 [.string (bs (l)), .int .i64 (n)] 27] w := O
    refine sp F (p_assign rfl) rfl rfl fun a F => c_nil (hK4 _ _ (?_))
    try clear hK4 K4
    refine wp_ret (r_then (retCT F O rfl rfl rfl 0 rfl Try.agg_27 Try.sz_27 (?_)))
    have O : Own w0 [] [] w := (O.take 0)
    exact ⟨congrArg Ending.returned (show Value.tuple #[.agg #[.string (bs ([])), .int .i64 (0)], .bool false] = .tuple #[.agg #[.string (bs (apB l n r)), .int .i64 (apN l n r)], .bool (decide (((l.length : Int) ≤ 120 ∧ 0 ≤ n ∧ n ≤ (l.length : Int)) ∧ (1 ≤ (r.length : Int) ∧ (r.length : Int) ≤ 12) ∧ (l.length : Int) + r.length + 2 ≤ 120))] from by rw [apB_bad (by omega), apN_bad (by omega), decide_eq_false (by omega)]), O⟩

set_option maxRecDepth 100000 in
/-- impl.LogAppend -/
theorem iLogAppend_ok (l : List UInt8) (n : Int) (r : List UInt8) (w0 : World) (hl : (l.length : Int) ≤ 9223372036854775807) (hr : (r.length : Int) ≤ 1048576) :
    Calls Try.prog 36 #[.agg #[.string (bs (l)), .int .i64 (n)], .string (bs (r))] w0 fun e w => e = .returned (.tuple #[.agg #[.string (bs (apB l n r)), .int .i64 (apN l n r)], .bool (decide (((l.length : Int) ≤ 120 ∧ 0 ≤ n ∧ n ≤ (l.length : Int)) ∧ (1 ≤ (r.length : Int) ∧ (r.length : Int) ≤ 12) ∧ (l.length : Int) + r.length + 2 ≤ 120))]) ∧ Own w0 [] [] w := by
  have O := Own.start w0
  have hll : ((l ++ lFrame r).length : Int) = l.length + (lFrame r).length := by simp
  have hlb : 0 ≤ ((lFrame r).length : Int) ∧ ((lFrame r).length : Int) ≤ 14 := lFrame_bd r
  refine enterO (n := 30) Try.func36 rfl rfl rfl O fun a w F O => ?_
  refine c_seq fun K1 hK1 => c_region (so F rfl (o_box F O rfl rfl fun b2 w O a F => ?_))
  have O : Own w0 [] [.cells b2 [.string (bs (l)), .int .i64 (n)] 27] w := O
  refine so F rfl (o_alloc F O Try.zero_27 rfl fun b4 w O a F => ?_)
  have O : Own w0 [] [.cells b4 [.string (bs ([])), .int .i64 (0)] 27, .cells b2 [.string (bs (l)), .int .i64 (n)] 27] w := O
  refine sp F (p_assign rfl) rfl rfl fun a F => c_nil (hK1 _ _ (?_))
  try clear hK1 K1
  refine c_seq fun K2 hK2 => c_seq fun K3 hK3 => c_region (sp F (p_loadC (cs := [.string (bs (l)), .int .i64 (n)]) rfl Try.agg_27 Try.sz_27 (fun _ h => (CA.cons (ld1 (O.load 1 rfl rfl) h) (CA.cons (ld1 (O.load 1 rfl rfl) h) CA.nil)))) rfl rfl fun a F => so F rfl (o_call (vs := #[.agg #[.string (bs (l)), .int .i64 (n)]]) F Try.en_28 rfl rfl ((iDiskValid_ok l n w).mono ?_)))
  rintro e w ⟨rfl, K⟩
  refine ⟨_, rfl, fun a F => ?_⟩
  have O : Own w0 [] [.cells b4 [.string (bs ([])), .int .i64 (0)] 27, .cells b2 [.string (bs (l)), .int .i64 (n)] 27] w := O.call0 K
  clear K
  have O : Own w0 [] [.cells b4 [.string (bs ([])), .int .i64 (0)] 27, .cells b2 [.string (bs (l)), .int .i64 (n)] 27] w := O
  by_cases c8 : (l.length : Int) ≤ 120 ∧ 0 ≤ n ∧ n ≤ (l.length : Int)
  · have F := F.setB (d := 8) rfl (decide_eq_true c8)
    refine sp F (p_not rfl) rfl rfl fun a F => sp F (p_move rfl) rfl rfl fun a F => sp F (p_move rfl) rfl rfl fun a F => so F rfl (o_call (vs := #[.string (bs (r))]) F Try.en_53 rfl rfl ((isRecord_ok r w).mono ?_))
    rintro e w ⟨rfl, K⟩
    refine ⟨_, rfl, fun a F => ?_⟩
    have O : Own w0 [] [.cells b4 [.string (bs ([])), .int .i64 (0)] 27, .cells b2 [.string (bs (l)), .int .i64 (n)] 27] w := O.call0 K
    clear K
    have O : Own w0 [] [.cells b4 [.string (bs ([])), .int .i64 (0)] 27, .cells b2 [.string (bs (l)), .int .i64 (n)] 27] w := O
    by_cases c12 : 1 ≤ (r.length : Int) ∧ (r.length : Int) ≤ 12
    · have F := F.setB (d := 12) rfl (decide_eq_true c12)
      refine sp F (p_not rfl) rfl rfl fun a F => sp F (p_pick (t := false) rfl rfl) rfl rfl fun a F => c_nil (hK3 _ _ (?_))
      try clear hK3 K3
      refine c_iff F rfl (wp_skip (hK2 _ _ (?_)))
      try clear hK2 K2
      refine c_seq fun K4 hK4 => ?_
      have hle := lFrame_len (r := r)
      refine c_draw Try.mixed (SC [(b2, 0, .string (bs (l))), (b2, 0 + 1, .int .i64 (n))]) [] (fun a w => ∃ (b6 : Nat), Has 30 [(0, .agg #[.string (bs (l)), .int .i64 (n)]), (1, .string (bs (r))), (2, .pointer (some ⟨b2, 0, none⟩)), (4, .pointer (some ⟨b4, 0, none⟩)), (5, .bool false), (14, .bool false), (6, .pointer (some ⟨b6, 0, none⟩))] a ∧ Own w0 [] [.cells b6 [.string (bs (l ++ (lFrame r))), .int .i64 (n)] 27, .cells b4 [.string (bs ([])), .int .i64 (0)] 27, .cells b2 [.string (bs (l)), .int .i64 (n)] 27] w) ?_ ?_
      · rintro a w ⟨b6, F, O⟩
        refine hK4 _ _ (?_)
        try clear hK4 K4
        refine c_seq fun K5 hK5 => c_seq fun K6 hK6 => c_region (sp F (p_faddr rfl Try.foff_27_0) rfl rfl fun a F => sp F (p_load rfl Try.agg_9 (fun _ h => (ld1 (O.load 0 rfl rfl) h))) rfl rfl fun a F => sp F (p_len_b rfl Try.underlying9) rfl rfl fun a F => sp F (p_gtr rfl rfl) rfl rfl fun a F => c_nil (hK6 _ _ (?_)))
        try clear hK6 K6
        by_cases c27 : 120 < ((l ++ (lFrame r)).length : Int)
        · have F := F.setB (d := 27) rfl (decide_eq_true c27)
          refine c_ift F rfl (c_seq fun K7 hK7 => c_region (sp F (p_loadC (cs := [.string (bs (l)), .int .i64 (n)]) rfl Try.agg_27 Try.sz_27 (fun _ h => (CA.cons (ld1 (O.load 2 rfl rfl) h) (CA.cons (ld1 (O.load 2 rfl rfl) h) CA.nil)))) rfl rfl fun a F => so F rfl (o_storeA (vs := [.string (bs (l)), .int .i64 (n)]) F O rfl rfl Try.sz_27 (by simp [Value.oneCell']) 1 rfl rfl fun w O => ?_)))
          have O : Own w0 [] [.cells b6 [.string (bs (l ++ (lFrame r))), .int .i64 (n)] 27, .cells b4 [.string (bs (l)), .int .i64 (n)] 27, .cells b2 [.string (bs (l)), .int .i64 (n)] 27] w := O
          refine sp F (p_assign rfl) rfl rfl fun a F => c_nil (hK7 _ _ (?_))
          try clear hK7 K7
          refine wp_ret (r_then (retCT F O rfl rfl rfl 1 rfl Try.agg_27 Try.sz_27 (?_)))
          have O : Own w0 [] [] w := (O.take 0)
          exact ⟨congrArg Ending.returned (show Value.tuple #[.agg #[.string (bs (l)), .int .i64 (n)], .bool false] = .tuple #[.agg #[.string (bs (apB l n r)), .int .i64 (apN l n r)], .bool (decide (((l.length : Int) ≤ 120 ∧ 0 ≤ n ∧ n ≤ (l.length : Int)) ∧ (1 ≤ (r.length : Int) ∧ (r.length : Int) ≤ 12) ∧ (l.length : Int) + r.length + 2 ≤ 120))] from by rw [apB_full (by omega), apN_ok (by omega), decide_eq_false (by omega)]), O⟩
        · have F := F.setB (d := 27) rfl (decide_eq_false c27)
          refine c_iff F rfl (wp_skip (hK5 _ _ (?_)))
          try clear hK5 K5
          refine c_seq fun K7 hK7 => c_region (sp F (p_loadC (cs := [.string (bs (l ++ (lFrame r))), .int .i64 (n)]) rfl Try.agg_27 Try.sz_27 (fun _ h => (CA.cons (ld1 (O.load 0 rfl rfl) h) (CA.cons (ld1 (O.load 0 rfl rfl) h) CA.nil)))) rfl rfl fun a F => so F rfl (o_storeA (vs := [.string (bs (l ++ (lFrame r))), .int .i64 (n)]) F O rfl rfl Try.sz_27 (by simp [Value.oneCell']) 1 rfl rfl fun w O => ?_))
          have O : Own w0 [] [.cells b6 [.string (bs (l ++ (lFrame r))), .int .i64 (n)] 27, .cells b4 [.string (bs (l ++ (lFrame r))), .int .i64 (n)] 27, .cells b2 [.string (bs (l)), .int .i64 (n)] 27] w := O
          refine sp F (p_assign rfl) rfl rfl fun a F => c_nil (hK7 _ _ (?_))
          try clear hK7 K7
          refine wp_ret (retCT F O rfl rfl rfl 1 rfl Try.agg_27 Try.sz_27 (?_))
          have O : Own w0 [] [] w := (O.take 0)
          exact ⟨congrArg Ending.returned (show Value.tuple #[.agg #[.string (bs (l ++ (lFrame r))), .int .i64 (n)], .bool true] = .tuple #[.agg #[.string (bs (apB l n r)), .int .i64 (apN l n r)], .bool (decide (((l.length : Int) ≤ 120 ∧ 0 ≤ n ∧ n ≤ (l.length : Int)) ∧ (1 ≤ (r.length : Int) ∧ (r.length : Int) ≤ 12) ∧ (l.length : Int) + r.length + 2 ≤ 120))] from by rw [apB_ok (by omega), apN_ok (by omega), decide_eq_true (by omega)]; rw [lFrame_ok (by omega)]), O⟩
      · have O := O.drawn (w.drawn + 1)
        generalize { w with drawn := w.drawn + 1 } = w at O ⊢
        have hS : SC [(b2, 0, .string (bs (l))), (b2, 0 + 1, .int .i64 (n))] w := (SC.cons (O.load 1 rfl rfl) (SC.cons (O.load 1 rfl rfl) SC.nil))
        refine d_take 0 rfl (by kernel_rfl) F (p_faddr rfl Try.foff_27_0) rfl rfl hS fun a F => d_take 1 rfl (by kernel_rfl) F (p_load rfl Try.agg_9 (fun _ h => (SC.get h 0 rfl))) rfl rfl hS fun a F => d_take 2 rfl (by kernel_rfl) F (p_move rfl) rfl rfl hS fun a F => d_take 5 rfl (by kernel_rfl) F (p_faddr rfl Try.foff_27_1) rfl rfl hS fun a F => d_take 6 rfl (by kernel_rfl) F (p_load rfl Try.agg_3 (fun _ h => (SC.get h 1 rfl))) rfl rfl hS fun a F => ?_
        refine d_two 3 8 (by kernel_rfl) ?_ ?_
        · refine d_op rfl F rfl (o_call (vs := #[.string (bs (r))]) F Try.en_30 rfl rfl ((iLogFrame_ok r w).mono ?_))
          rintro e w ⟨rfl, K⟩
          refine ⟨_, rfl, fun a F => ?_⟩
          have O : Own w0 [] [.cells b4 [.string (bs ([])), .int .i64 (0)] 27, .cells b2 [.string (bs (l)), .int .i64 (n)] 27] w := O.call0 K
          clear K
          have O : Own w0 [] [.cells b4 [.string (bs ([])), .int .i64 (0)] 27, .cells b2 [.string (bs (l)), .int .i64 (n)] 27] w := O
          refine ⟨fun _ => (SC.cons (O.load 1 rfl rfl) (SC.cons (O.load 1 rfl rfl) SC.nil)), ?_⟩
          have hS : SC [(b2, 0, .string (bs (l))), (b2, 0 + 1, .int .i64 (n))] w := (SC.cons (O.load 1 rfl rfl) (SC.cons (O.load 1 rfl rfl) SC.nil))
          refine d_take 4 rfl (by kernel_rfl) F (p_cat rfl rfl (by first | omega | (simp; done) | (simp; omega))) rfl rfl hS fun a F => d_take 7 rfl (by kernel_rfl) F (p_build (cs := [.string (bs (l ++ (lFrame r))), .int .i64 (n)]) rfl Try.places_27 rfl) rfl rfl hS fun a F => d_one 8 (by kernel_rfl) (d_op rfl F rfl (o_alloc F O Try.zero_27 rfl fun b6 w O a F => ?_))
          have O : Own w0 [] [.cells b6 [.string (bs ([])), .int .i64 (0)] 27, .cells b4 [.string (bs ([])), .int .i64 (0)] 27, .cells b2 [.string (bs (l)), .int .i64 (n)] 27] w := O
          refine ⟨fun _ => (SC.cons (O.load 2 rfl rfl) (SC.cons (O.load 2 rfl rfl) SC.nil)), ?_⟩
          have hS : SC [(b2, 0, .string (bs (l))), (b2, 0 + 1, .int .i64 (n))] w := (SC.cons (O.load 2 rfl rfl) (SC.cons (O.load 2 rfl rfl) SC.nil))
          refine d_one 9 (by kernel_rfl) (d_op rfl F rfl (o_storeA (vs := [.string (bs (l ++ (lFrame r))), .int .i64 (n)]) F O rfl rfl Try.sz_27 (by simp [Value.oneCell']) 0 rfl rfl fun w O => ?_))
          have O : Own w0 [] [.cells b6 [.string (bs (l ++ (lFrame r))), .int .i64 (n)] 27, .cells b4 [.string (bs ([])), .int .i64 (0)] 27, .cells b2 [.string (bs (l)), .int .i64 (n)] 27] w := O
          refine ⟨fun _ => (SC.cons (O.load 2 rfl rfl) (SC.cons (O.load 2 rfl rfl) SC.nil)), ?_⟩
          have hS : SC [(b2, 0, .string (bs (l))), (b2, 0 + 1, .int .i64 (n))] w := (SC.cons (O.load 2 rfl rfl) (SC.cons (O.load 2 rfl rfl) SC.nil))
          refine d_done (by kernel_rfl) (?_)
          have F : Has 30 [(0, .agg #[.string (bs (l)), .int .i64 (n)]), (1, .string (bs (r))), (2, .pointer (some ⟨b2, 0, none⟩)), (4, .pointer (some ⟨b4, 0, none⟩)), (5, .bool false), (14, .bool false), (6, .pointer (some ⟨b6, 0, none⟩))] a := F.pick ⟨rfl, rfl, rfl, rfl, rfl, rfl, rfl, trivial⟩
          exact ⟨b6, F, O⟩
        · refine d_op rfl F rfl (o_alloc F O Try.zero_27 rfl fun b6 w O a F => ?_)
          have O : Own w0 [] [.cells b6 [.string (bs ([])), .int .i64 (0)] 27, .cells b4 [.string (bs ([])), .int .i64 (0)] 27, .cells b2 [.string (bs (l)), .int .i64 (n)] 27] w := O
          refine ⟨fun _ => (SC.cons (O.load 2 rfl rfl) (SC.cons (O.load 2 rfl rfl) SC.nil)), ?_⟩
          have hS : SC [(b2, 0, .string (bs (l))), (b2, 0 + 1, .int .i64 (n))] w := (SC.cons (O.load 2 rfl rfl) (SC.cons (O.load 2 rfl rfl) SC.nil))
          refine d_one 3 (by kernel_rfl) (d_op rfl F rfl (o_call (vs := #[.string (bs (r))]) F Try.en_30 rfl rfl ((iLogFrame_ok r w).mono ?_)))
          rintro e w ⟨rfl, K⟩
          refine ⟨_, rfl, fun a F => ?_⟩
          have O : Own w0 [] [.cells b6 [.string (bs ([])), .int .i64 (0)] 27, .cells b4 [.string (bs ([])), .int .i64 (0)] 27, .cells b2 [.string (bs (l)), .int .i64 (n)] 27] w := O.call0 K
          clear K
          have O : Own w0 [] [.cells b6 [.string (bs ([])), .int .i64 (0)] 27, .cells b4 [.string (bs ([])), .int .i64 (0)] 27, .cells b2 [.string (bs (l)), .int .i64 (n)] 27] w := O
          refine ⟨fun _ => (SC.cons (O.load 2 rfl rfl) (SC.cons (O.load 2 rfl rfl) SC.nil)), ?_⟩
          have hS : SC [(b2, 0, .string (bs (l))), (b2, 0 + 1, .int .i64 (n))] w := (SC.cons (O.load 2 rfl rfl) (SC.cons (O.load 2 rfl rfl) SC.nil))
          refine d_take 4 rfl (by kernel_rfl) F (p_cat rfl rfl (by first | omega | (simp; done) | (simp; omega))) rfl rfl hS fun a F => d_take 7 rfl (by kernel_rfl) F (p_build (cs := [.string (bs (l ++ (lFrame r))), .int .i64 (n)]) rfl Try.places_27 rfl) rfl rfl hS fun a F => d_one 9 (by kernel_rfl) (d_op rfl F rfl (o_storeA (vs := [.string (bs (l ++ (lFrame r))), .int .i64 (n)]) F O rfl rfl Try.sz_27 (by simp [Value.oneCell']) 0 rfl rfl fun w O => ?_))
          have O : Own w0 [] [.cells b6 [.string (bs (l ++ (lFrame r))), .int .i64 (n)] 27, .cells b4 [.string (bs ([])), .int .i64 (0)] 27, .cells b2 [.string (bs (l)), .int .i64 (n)] 27] w := O
          refine ⟨fun _ => (SC.cons (O.load 2 rfl rfl) (SC.cons (O.load 2 rfl rfl) SC.nil)), ?_⟩
          have hS : SC [(b2, 0, .string (bs (l))), (b2, 0 + 1, .int .i64 (n))] w := (SC.cons (O.load 2 rfl rfl) (SC.cons (O.load 2 rfl rfl) SC.nil))
          refine d_done (by kernel_rfl) (?_)
          have F : Has 30 [(0, .agg #[.string (bs (l)), .int .i64 (n)]), (1, .string (bs (r))), (2, .pointer (some ⟨b2, 0, none⟩)), (4, .pointer (some ⟨b4, 0, none⟩)), (5, .bool false), (14, .bool false), (6, .pointer (some ⟨b6, 0, none⟩))] a := F.pick ⟨rfl, rfl, rfl, rfl, rfl, rfl, rfl, trivial⟩
          exact ⟨b6, F, O⟩
    · have F := F.setB (d := 12) rfl (decide_eq_false c12)
      refine sp F (p_not rfl) rfl rfl fun a F => sp F (p_pick (t := false) rfl rfl) rfl rfl fun a F => c_nil (hK3 _ _ (?_))
      try clear hK3 K3
      refine c_ift F rfl (c_seq fun K4 hK4 => c_region (sp F (p_build (cs := [.string (bs ([])), .int .i64 (0)]) rfl Try.places_27 rfl) rfl rfl fun a F => so F rfl (o_storeA (vs := [.string (bs ([])), .int .i64 (0)]) F O rfl rfl Try.sz_27 (by simp [Value.oneCell']) 0 rfl rfl fun w O => ?_)))
      have O : Own w0 [] [.cells b4 [.string (bs ([])), .int .i64 (0)] 27, .cells b2 [.string (bs (l)), .int .i64 (n)] 27] w := O
      refine sp F (p_assign rfl) rfl rfl fun a F => c_nil (hK4 _ _ (?_))
      try clear hK4 K4
      refine wp_ret (r_then (retCT F O rfl rfl rfl 0 rfl Try.agg_27 Try.sz_27 (?_)))
      have O : Own w0 [] [] w := (O.take 0)
      exact ⟨congrArg Ending.returned (show Value.tuple #[.agg #[.string (bs ([])), .int .i64 (0)], .bool false] = .tuple #[.agg #[.string (bs (apB l n r)), .int .i64 (apN l n r)], .bool (decide (((l.length : Int) ≤ 120 ∧ 0 ≤ n ∧ n ≤ (l.length : Int)) ∧ (1 ≤ (r.length : Int) ∧ (r.length : Int) ≤ 12) ∧ (l.length : Int) + r.length + 2 ≤ 120))] from by rw [apB_bad (by omega), apN_bad (by omega), decide_eq_false (by omega)]), O⟩
  · have F := F.setB (d := 8) rfl (decide_eq_false c8)
    refine sp F (p_not rfl) rfl rfl fun a F => sp F (p_move rfl) rfl rfl fun a F => ss F rfl rfl fun a F => ss F rfl rfl fun a F => ss F rfl rfl fun a F => sp F (p_pick (t := true) rfl rfl) rfl rfl fun a F => c_nil (hK3 _ _ (?_))
    try clear hK3 K3
    refine c_ift F rfl (c_seq fun K4 hK4 => c_region (sp F (p_build (cs := [.string (bs ([])), .int .i64 (0)]) rfl Try.places_27 rfl) rfl rfl fun a F => so F rfl (o_storeA (vs := [.string (bs ([])), .int .i64 (0)]) F O rfl rfl Try.sz_27 (by simp [Value.oneCell']) 0 rfl rfl fun w O => ?_)))
    have O : Own w0 [] [.cells b4 [.string (bs ([])), .int .i64 (0)] 27, .cells b2 [.string (bs (l)), .int .i64 (n)] 27] w := O
    refine sp F (p_assign rfl) rfl rfl fun a F => c_nil (hK4 _ _ (?_))
    try clear hK4 K4
    refine wp_ret (r_then (retCT F O rfl rfl rfl 0 rfl Try.agg_27 Try.sz_27 (?_)))
    have O : Own w0 [] [] w := (O.take 0)
    exact ⟨congrArg Ending.returned (show Value.tuple #[.agg #[.string (bs ([])), .int .i64 (0)], .bool false] = .tuple #[.agg #[.string (bs (apB l n r)), .int .i64 (apN l n r)], .bool (decide (((l.length : Int) ≤ 120 ∧ 0 ≤ n ∧ n ≤ (l.length : Int)) ∧ (1 ≤ (r.length : Int) ∧ (r.length : Int) ≤ 12) ∧ (l.length : Int) + r.length + 2 ≤ 120))] from by rw [apB_bad (by omega), apN_bad (by omega), decide_eq_false (by omega)]), O⟩

set_option maxRecDepth 100000 in
/-- spec.LogSync -/
theorem sLogSync_ok (l : List UInt8) (n : Int) (w0 : World) :
    Calls Try.prog 31 #[.agg #[.string (bs (l)), .int .i64 (n)]] w0 fun e w => e = .returned (.agg #[.string (bs (syB l n)), .int .i64 (syN l n)]) ∧ Own w0 [] [] w := by
  have O := Own.start w0
  refine enterO (n := 13) Try.func31 rfl rfl rfl O fun a w F O => ?_
  refine c_seq fun K1 hK1 => c_region (so F rfl (o_box F O rfl rfl fun b1 w O a F => ?_))
  have O : Own w0 [] [.cells b1 [.string (bs (l)), .int .i64 (n)] 27] w := O
  refine so F rfl (o_alloc F O Try.zero_27 rfl fun b2 w O a F => ?_)
  have O : Own w0 [] [.cells b2 [.string (bs ([])), .int .i64 (0)] 27, .cells b1 [.string (bs (l)), .int .i64 (n)] 27] w := O
  refine c_nil (hK1 _ _ (?_))
  try clear hK1 K1
  refine c_seq fun K2 hK2 => c_seq fun K3 hK3 => c_region (sp F (p_loadC (cs := [.string (bs (l)), .int .i64 (n)]) rfl Try.agg_27 Try.sz_27 (fun _ h => (CA.cons (ld1 (O.load 1 rfl rfl) h) (CA.cons (ld1 (O.load 1 rfl rfl) h) CA.nil)))) rfl rfl fun a F => so F rfl (o_call (vs := #[.agg #[.string (bs (l)), .int .i64 (n)]]) F Try.en_26 rfl rfl ((sDiskValid_ok l n w).mono ?_)))
  rintro e w ⟨rfl, K⟩
  refine ⟨_, rfl, fun a F => ?_⟩
  have O : Own w0 [] [.cells b2 [.string (bs ([])), .int .i64 (0)] 27, .cells b1 [.string (bs (l)), .int .i64 (n)] 27] w := O.call0 K
  clear K
  have O : Own w0 [] [.cells b2 [.string (bs ([])), .int .i64 (0)] 27, .cells b1 [.string (bs (l)), .int .i64 (n)] 27] w := O
  by_cases c4 : (l.length : Int) ≤ 120 ∧ 0 ≤ n ∧ n ≤ (l.length : Int)
  · have F := F.setB (d := 4) rfl (decide_eq_true c4)
    refine sp F (p_not rfl) rfl rfl fun a F => c_nil (hK3 _ _ (?_))
    try clear hK3 K3
    refine c_iff F rfl (wp_skip (hK2 _ _ (?_)))
    try clear hK2 K2
    refine c_seq fun K4 hK4 => c_region (sp F (p_faddr rfl Try.foff_27_0) rfl rfl fun a F => sp F (p_load rfl Try.agg_9 (fun _ h => (ld1 (O.load 1 rfl rfl) h))) rfl rfl fun a F => sp F (p_faddr rfl Try.foff_27_0) rfl rfl fun a F => sp F (p_load rfl Try.agg_9 (fun _ h => (ld1 (O.load 1 rfl rfl) h))) rfl rfl fun a F => sp F (p_len_b rfl Try.underlying9) rfl rfl fun a F => sp F (p_build (cs := [.string (bs (l)), .int .i64 ((l.length : Int))]) rfl Try.places_27 rfl) rfl rfl fun a F => so F rfl (o_storeA (vs := [.string (bs (l)), .int .i64 ((l.length : Int))]) F O rfl rfl Try.sz_27 (by simp [Value.oneCell']) 0 rfl rfl fun w O => ?_))
    have O : Own w0 [] [.cells b2 [.string (bs (l)), .int .i64 ((l.length : Int))] 27, .cells b1 [.string (bs (l)), .int .i64 (n)] 27] w := O
    refine c_nil (hK4 _ _ (?_))
    try clear hK4 K4
    refine wp_ret (retC F O rfl rfl 0 rfl Try.agg_27 Try.sz_27 (?_))
    have O : Own w0 [] [] w := (O.take 0)
    exact ⟨congrArg Ending.returned (show Value.agg #[.string (bs (l)), .int .i64 ((l.length : Int))] = .agg #[.string (bs (syB l n)), .int .i64 (syN l n)] from by rw [syB_ok (by omega), syN_ok (by omega)]), O⟩
  · have F := F.setB (d := 4) rfl (decide_eq_false c4)
    refine sp F (p_not rfl) rfl rfl fun a F => c_nil (hK3 _ _ (?_))
    try clear hK3 K3
    refine c_ift F rfl (c_seq fun K4 hK4 => c_region (sp F (p_build (cs := [.string (bs ([])), .int .i64 (0)]) rfl Try.places_27 rfl) rfl rfl fun a F => so F rfl (o_storeA (vs := [.string (bs ([])), .int .i64 (0)]) F O rfl rfl Try.sz_27 (by simp [Value.oneCell']) 0 rfl rfl fun w O => ?_)))
    have O : Own w0 [] [.cells b2 [.string (bs ([])), .int .i64 (0)] 27, .cells b1 [.string (bs (l)), .int .i64 (n)] 27] w := O
    refine c_nil (hK4 _ _ (?_))
    try clear hK4 K4
    refine wp_ret (r_then (retC F O rfl rfl 0 rfl Try.agg_27 Try.sz_27 (?_)))
    have O : Own w0 [] [] w := (O.take 0)
    exact ⟨congrArg Ending.returned (show Value.agg #[.string (bs ([])), .int .i64 (0)] = .agg #[.string (bs (syB l n)), .int .i64 (syN l n)] from by rw [syB_bad (by omega), syN_bad (by omega)]), O⟩

set_option maxRecDepth 100000 in
/-- impl.LogSync -/
theorem iLogSync_ok (l : List UInt8) (n : Int) (w0 : World) :
    Calls Try.prog 32 #[.agg #[.string (bs (l)), .int .i64 (n)]] w0 fun e w => e = .returned (.agg #[.string (bs (syB l n)), .int .i64 (syN l n)]) ∧ Own w0 [] [] w := by
  have O := Own.start w0
  refine enterO (n := 13) Try.func32 rfl rfl rfl O fun a w F O => ?_
  refine c_seq fun K1 hK1 => c_region (so F rfl (o_box F O rfl rfl fun b1 w O a F => ?_))
  have O : Own w0 [] [.cells b1 [.string (bs (l)), .int .i64 (n)] 27] w := O
  refine so F rfl (o_alloc F O Try.zero_27 rfl fun b2 w O a F => ?_)
  have O : Own w0 [] [.cells b2 [.string (bs ([])), .int .i64 (0)] 27, .cells b1 [.string (bs (l)), .int .i64 (n)] 27] w := O
  refine c_nil (hK1 _ _ (?_))
  try clear hK1 K1
  refine c_seq fun K2 hK2 => c_seq fun K3 hK3 => c_region (sp F (p_loadC (cs := [.string (bs (l)), .int .i64 (n)]) rfl Try.agg_27 Try.sz_27 (fun _ h => (CA.cons (ld1 (O.load 1 rfl rfl) h) (CA.cons (ld1 (O.load 1 rfl rfl) h) CA.nil)))) rfl rfl fun a F => so F rfl (o_call (vs := #[.agg #[.string (bs (l)), .int .i64 (n)]]) F Try.en_28 rfl rfl ((iDiskValid_ok l n w).mono ?_)))
  rintro e w ⟨rfl, K⟩
  refine ⟨_, rfl, fun a F => ?_⟩
  have O : Own w0 [] [.cells b2 [.string (bs ([])), .int .i64 (0)] 27, .cells b1 [.string (bs (l)), .int .i64 (n)] 27] w := O.call0 K
  clear K
  have O : Own w0 [] [.cells b2 [.string (bs ([])), .int .i64 (0)] 27, .cells b1 [.string (bs (l)), .int .i64 (n)] 27] w := O
  by_cases c4 : (l.length : Int) ≤ 120 ∧ 0 ≤ n ∧ n ≤ (l.length : Int)
  · have F := F.setB (d := 4) rfl (decide_eq_true c4)
    refine sp F (p_not rfl) rfl rfl fun a F => c_nil (hK3 _ _ (?_))
    try clear hK3 K3
    refine c_iff F rfl (wp_skip (hK2 _ _ (?_)))
    try clear hK2 K2
    refine c_seq fun K4 hK4 => c_region (sp F (p_faddr rfl Try.foff_27_0) rfl rfl fun a F => sp F (p_load rfl Try.agg_9 (fun _ h => (ld1 (O.load 1 rfl rfl) h))) rfl rfl fun a F => sp F (p_faddr rfl Try.foff_27_0) rfl rfl fun a F => sp F (p_load rfl Try.agg_9 (fun _ h => (ld1 (O.load 1 rfl rfl) h))) rfl rfl fun a F => sp F (p_len_b rfl Try.underlying9) rfl rfl fun a F => sp F (p_build (cs := [.string (bs (l)), .int .i64 ((l.length : Int))]) rfl Try.places_27 rfl) rfl rfl fun a F => so F rfl (o_storeA (vs := [.string (bs (l)), .int .i64 ((l.length : Int))]) F O rfl rfl Try.sz_27 (by simp [Value.oneCell']) 0 rfl rfl fun w O => ?_))
    have O : Own w0 [] [.cells b2 [.string (bs (l)), .int .i64 ((l.length : Int))] 27, .cells b1 [.string (bs (l)), .int .i64 (n)] 27] w := O
    refine c_nil (hK4 _ _ (?_))
    try clear hK4 K4
    refine wp_ret (retC F O rfl rfl 0 rfl Try.agg_27 Try.sz_27 (?_))
    have O : Own w0 [] [] w := (O.take 0)
    exact ⟨congrArg Ending.returned (show Value.agg #[.string (bs (l)), .int .i64 ((l.length : Int))] = .agg #[.string (bs (syB l n)), .int .i64 (syN l n)] from by rw [syB_ok (by omega), syN_ok (by omega)]), O⟩
  · have F := F.setB (d := 4) rfl (decide_eq_false c4)
    refine sp F (p_not rfl) rfl rfl fun a F => c_nil (hK3 _ _ (?_))
    try clear hK3 K3
    refine c_ift F rfl (c_seq fun K4 hK4 => c_region (sp F (p_build (cs := [.string (bs ([])), .int .i64 (0)]) rfl Try.places_27 rfl) rfl rfl fun a F => so F rfl (o_storeA (vs := [.string (bs ([])), .int .i64 (0)]) F O rfl rfl Try.sz_27 (by simp [Value.oneCell']) 0 rfl rfl fun w O => ?_)))
    have O : Own w0 [] [.cells b2 [.string (bs ([])), .int .i64 (0)] 27, .cells b1 [.string (bs (l)), .int .i64 (n)] 27] w := O
    refine c_nil (hK4 _ _ (?_))
    try clear hK4 K4
    refine wp_ret (r_then (retC F O rfl rfl 0 rfl Try.agg_27 Try.sz_27 (?_)))
    have O : Own w0 [] [] w := (O.take 0)
    exact ⟨congrArg Ending.returned (show Value.agg #[.string (bs ([])), .int .i64 (0)] = .agg #[.string (bs (syB l n)), .int .i64 (syN l n)] from by rw [syB_bad (by omega), syN_bad (by omega)]), O⟩

set_option maxRecDepth 100000 in
/-- laws.toDisk -/
theorem toDisk_ok (l : List UInt8) (n : Int) (w0 : World) :
    Calls Try.prog 27 #[.agg #[.string (bs (l)), .int .i64 (n)]] w0 fun e w => e = .returned (.agg #[.string (bs (l)), .int .i64 (n)]) ∧ Own w0 [] [] w := by
  have O := Own.start w0
  refine enterO (n := 11) Try.func27 rfl rfl rfl O fun a w F O => ?_
  refine c_seq fun K1 hK1 => c_region (so F rfl (o_box F O rfl rfl fun b1 w O a F => ?_))
  have O : Own w0 [] [.cells b1 [.string (bs (l)), .int .i64 (n)] 24] w := O
  refine so F rfl (o_alloc F O Try.zero_27 rfl fun b2 w O a F => ?_)
  have O : Own w0 [] [.cells b2 [.string (bs ([])), .int .i64 (0)] 27, .cells b1 [.string (bs (l)), .int .i64 (n)] 24] w := O
  refine c_nil (hK1 _ _ (?_))
  try clear hK1 K1
  refine c_seq fun K2 hK2 => c_region (so F rfl (o_alloc F O Try.zero_27 rfl fun b3 w O a F => ?_))
  have O : Own w0 [] [.cells b3 [.string (bs ([])), .int .i64 (0)] 27, .cells b2 [.string (bs ([])), .int .i64 (0)] 27, .cells b1 [.string (bs (l)), .int .i64 (n)] 24] w := O
  refine c_nil (hK2 _ _ (?_))
  try clear hK2 K2
  refine c_seq fun K3 hK3 => c_region (sp F (p_faddr rfl Try.foff_24_0) rfl rfl fun a F => sp F (p_load rfl Try.agg_9 (fun _ h => (ld1 (O.load 2 rfl rfl) h))) rfl rfl fun a F => sp F (p_faddr rfl Try.foff_27_0) rfl rfl fun a F => so F rfl (o_store F O rfl rfl Try.sz_9 rfl rfl 0 rfl rfl fun w O => ?_))
  have O : Own w0 [] [.cells b3 [.string (bs (l)), .int .i64 (0)] 27, .cells b2 [.string (bs ([])), .int .i64 (0)] 27, .cells b1 [.string (bs (l)), .int .i64 (n)] 24] w := O
  refine c_nil (hK3 _ _ (?_))
  try clear hK3 K3
  refine c_seq fun K4 hK4 => c_region (sp F (p_faddr rfl Try.foff_24_1) rfl rfl fun a F => sp F (p_load rfl Try.agg_3 (fun _ h => (ld1 (O.load 2 rfl rfl) h))) rfl rfl fun a F => sp F (p_faddr rfl Try.foff_27_1) rfl rfl fun a F => so F rfl (o_store F O rfl rfl Try.sz_3 rfl rfl 0 rfl rfl fun w O => ?_))
  have O : Own w0 [] [.cells b3 [.string (bs (l)), .int .i64 (n)] 27, .cells b2 [.string (bs ([])), .int .i64 (0)] 27, .cells b1 [.string (bs (l)), .int .i64 (n)] 24] w := O
  refine c_nil (hK4 _ _ (?_))
  try clear hK4 K4
  refine c_seq fun K5 hK5 => c_region (sp F (p_loadC (cs := [.string (bs (l)), .int .i64 (n)]) rfl Try.agg_27 Try.sz_27 (fun _ h => (CA.cons (ld1 (O.load 0 rfl rfl) h) (CA.cons (ld1 (O.load 0 rfl rfl) h) CA.nil)))) rfl rfl fun a F => so F rfl (o_storeA (vs := [.string (bs (l)), .int .i64 (n)]) F O rfl rfl Try.sz_27 (by simp [Value.oneCell']) 1 rfl rfl fun w O => ?_))
  have O : Own w0 [] [.cells b3 [.string (bs (l)), .int .i64 (n)] 27, .cells b2 [.string (bs (l)), .int .i64 (n)] 27, .cells b1 [.string (bs (l)), .int .i64 (n)] 24] w := O
  refine c_nil (hK5 _ _ (?_))
  try clear hK5 K5
  refine wp_ret (retC F O rfl rfl 1 rfl Try.agg_27 Try.sz_27 (?_))
  have O : Own w0 [] [] w := (O.take 0)
  exact ⟨rfl, O⟩

set_option maxRecDepth 100000 in
/-- laws.szDisk -/
theorem szDisk_ok (l : List UInt8) (n : Int) (left : Int) (w0 : World) (h0 : 0 ≤ left) (h1 : left ≤ 1048576) (hl : (l.length : Int) ≤ 9223372036854775807) :
    Calls Try.prog 25 #[.agg #[.string (bs (l)), .int .i64 (n)], .int .i64 (left)] w0 fun e w => ∃ (q : Int), e = .returned (.int .i64 (q)) ∧ (q = left - l.length ∨ q < 0 ∧ left < l.length) ∧ Own w0 [] [] w := by
  have O := Own.start w0
  refine enterO (n := 13) Try.func25 rfl rfl rfl O fun a w F O => ?_
  refine c_seq fun K1 hK1 => c_region (so F rfl (o_box F O rfl rfl fun b2 w O a F => ?_))
  have O : Own w0 [] [.cells b2 [.string (bs (l)), .int .i64 (n)] 24] w := O
  refine sp F (p_assign rfl) rfl rfl fun a F => c_nil (hK1 _ _ (?_))
  try clear hK1 K1
  refine c_seq fun K2 hK2 => c_region (sp F (p_move rfl) rfl rfl fun a F => sp F (p_faddr rfl Try.foff_24_0) rfl rfl fun a F => sp F (p_load rfl Try.agg_9 (fun _ h => (ld1 (O.load 0 rfl rfl) h))) rfl rfl fun a F => sp F (p_len_b rfl Try.underlying9) rfl rfl fun a F => sp F (p_sub rfl rfl (by omega) (by omega)) rfl rfl fun a F => sp F (p_assign rfl) rfl rfl fun a F => c_nil (hK2 _ _ (?_)))
  try clear hK2 K2
  refine c_seq fun K3 hK3 => c_seq fun K4 hK4 => c_region (sp F (p_move rfl) rfl rfl fun a F => sp F (p_lss rfl rfl) rfl rfl fun a F => c_nil (hK4 _ _ (?_)))
  try clear hK4 K4
  by_cases c11 : (left - (l.length : Int)) < 0
  · have F := F.setB (d := 11) rfl (decide_eq_true c11)
    refine c_ift F rfl (c_seq fun K5 hK5 => c_region (sp F (p_assign rfl) rfl rfl fun a F => c_nil (hK5 _ _ (?_))))
    try clear hK5 K5
    refine wp_ret (r_then (ret1 F rfl rfl (?_)))
    have O : Own w0 [] [] w := (O.take 0)
    exact ⟨(-1), congrArg Ending.returned (show Value.int .i64 (-1) = .int .i64 ((-1)) from by first | exact vint (by omega) | exact vint (by simp; done)), by first | assumption | omega, O⟩
  · have F := F.setB (d := 11) rfl (decide_eq_false c11)
    refine c_iff F rfl (wp_skip (hK3 _ _ (?_)))
    try clear hK3 K3
    refine c_seq fun K5 hK5 => c_region (sp F (p_move rfl) rfl rfl fun a F => sp F (p_assign rfl) rfl rfl fun a F => c_nil (hK5 _ _ (?_)))
    try clear hK5 K5
    refine wp_ret (ret1 F rfl rfl (?_))
    have O : Own w0 [] [] w := (O.take 0)
    exact ⟨(left - (l.length : Int)), congrArg Ending.returned (show Value.int .i64 (left - (l.length : Int)) = .int .i64 ((left - (l.length : Int))) from by first | exact vint (by omega) | exact vint (by simp; done)), by first | assumption | omega, O⟩

set_option maxRecDepth 100000 in
/-- laws.eqDisk -/
theorem eqDisk_ok (l : List UInt8) (n : Int) (l2 : List UInt8) (n2 : Int) (w0 : World) :
    Calls Try.prog 33 #[.agg #[.string (bs (l)), .int .i64 (n)], .agg #[.string (bs (l2)), .int .i64 (n2)]] w0 fun e w => e = .returned (.bool (decide (l = l2 ∧ n = n2))) ∧ Own w0 [] [] w := by
  have O := Own.start w0
  refine enterO (n := 15) Try.func33 rfl rfl rfl O fun a w F O => ?_
  refine c_seq fun K1 hK1 => c_region (so F rfl (o_box F O rfl rfl fun b2 w O a F => ?_))
  have O : Own w0 [] [.cells b2 [.string (bs (l)), .int .i64 (n)] 27] w := O
  refine so F rfl (o_box F O rfl rfl fun b3 w O a F => ?_)
  have O : Own w0 [] [.cells b3 [.string (bs (l2)), .int .i64 (n2)] 27, .cells b2 [.string (bs (l)), .int .i64 (n)] 27] w := O
  refine sp F (p_assign rfl) rfl rfl fun a F => c_nil (hK1 _ _ (?_))
  try clear hK1 K1
  refine c_seq fun K2 hK2 => c_seq fun K3 hK3 => c_region (sp F (p_faddr rfl Try.foff_27_0) rfl rfl fun a F => sp F (p_load rfl Try.agg_9 (fun _ h => (ld1 (O.load 1 rfl rfl) h))) rfl rfl fun a F => sp F (p_faddr rfl Try.foff_27_0) rfl rfl fun a F => sp F (p_load rfl Try.agg_9 (fun _ h => (ld1 (O.load 0 rfl rfl) h))) rfl rfl fun a F => sp F (p_sne rfl rfl) rfl rfl fun a F => c_nil (hK3 _ _ (?_)))
  try clear hK3 K3
  by_cases c9 : l = l2
  · have F := F.setB (d := 9) rfl (decide_eq_false (fun h => h c9))
    refine c_iff F rfl (wp_skip (hK2 _ _ (?_)))
    try clear hK2 K2
    refine c_seq fun K4 hK4 => c_seq fun K5 hK5 => c_region (sp F (p_faddr rfl Try.foff_27_1) rfl rfl fun a F => sp F (p_load rfl Try.agg_3 (fun _ h => (ld1 (O.load 1 rfl rfl) h))) rfl rfl fun a F => sp F (p_faddr rfl Try.foff_27_1) rfl rfl fun a F => sp F (p_load rfl Try.agg_3 (fun _ h => (ld1 (O.load 0 rfl rfl) h))) rfl rfl fun a F => sp F (p_neq rfl rfl) rfl rfl fun a F => c_nil (hK5 _ _ (?_)))
    try clear hK5 K5
    by_cases c14 : n = n2
    · have F := F.setB (d := 14) rfl (decide_eq_false (fun h => h c14))
      refine c_iff F rfl (wp_skip (hK4 _ _ (?_)))
      try clear hK4 K4
      refine c_seq fun K6 hK6 => c_region (sp F (p_assign rfl) rfl rfl fun a F => c_nil (hK6 _ _ (?_)))
      try clear hK6 K6
      refine wp_ret (ret1 F rfl rfl (?_))
      have O : Own w0 [] [] w := (O.take 0)
      exact ⟨congrArg Ending.returned (show Value.bool true = .bool (decide (l = l2 ∧ n = n2)) from by exact vbt ⟨by assumption, by omega⟩), O⟩
    · have F := F.setB (d := 14) rfl (decide_eq_true c14)
      refine c_ift F rfl (c_seq fun K6 hK6 => c_region (sp F (p_assign rfl) rfl rfl fun a F => c_nil (hK6 _ _ (?_))))
      try clear hK6 K6
      refine wp_ret (r_then (ret1 F rfl rfl (?_)))
      have O : Own w0 [] [] w := (O.take 0)
      exact ⟨congrArg Ending.returned (show Value.bool false = .bool (decide (l = l2 ∧ n = n2)) from by exact vbf (fun h => by first | exact absurd h.1 (by assumption) | omega)), O⟩
  · have F := F.setB (d := 9) rfl (decide_eq_true c9)
    refine c_ift F rfl (c_seq fun K4 hK4 => c_region (sp F (p_assign rfl) rfl rfl fun a F => c_nil (hK4 _ _ (?_))))
    try clear hK4 K4
    refine wp_ret (r_then (ret1 F rfl rfl (?_)))
    have O : Own w0 [] [] w := (O.take 0)
    exact ⟨congrArg Ending.returned (show Value.bool false = .bool (decide (l = l2 ∧ n = n2)) from by exact vbf (fun h => by first | exact absurd h.1 (by assumption) | omega)), O⟩

end Go.Proofs.Ytklgkfknifkbaaa
