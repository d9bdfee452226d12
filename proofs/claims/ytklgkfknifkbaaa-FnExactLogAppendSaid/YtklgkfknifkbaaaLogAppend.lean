/- Contracts of both LogAppend functions. -/
import Derived.Test.YtklgkfknifkbaaaLogFrame
import Derived.Deep.RegionHeld3
namespace Go.Proofs.Ytklgkfknifkbaaa
set_option linter.unusedVariables false
set_option linter.unusedSimpArgs false
open Go.RowKit

theorem frameOf_size (s : ByteArray) : (frameOf s).size = s.size + 2 := by
  unfold frameOf
  rw [ByteArray.size_append, ByteArray.size_append]
  show 1 + s.size + 1 = _
  omega
theorem logFrame_rec {s : ByteArray} (h : isRec s = true) : logFrame s = frameOf s := by simp [logFrame, h]
theorem dvalid_true {s : ByteArray} {n : Int} (h : dvalid s n = true) : s.size ≤ 120 ∧ 0 ≤ n ∧ n ≤ s.size := by
  simp [dvalid, inR] at h; omega

/-- What LogAppend returns: the bytes, the number, whether it has appended. -/
def apB (s r : ByteArray) (n : Int) : ByteArray := if dvalid s n && isRec r then (if s.size + r.size + 2 ≤ 120 then s ++ frameOf r else s) else ⟨#[]⟩
def apN (s r : ByteArray) (n : Int) : Int := if dvalid s n && isRec r then n else 0
def apOk (s r : ByteArray) (n : Int) : Bool := dvalid s n && isRec r && decide (s.size + r.size + 2 ≤ 120)
theorem ap_bad (s r : ByteArray) (n : Int) (h : (dvalid s n && isRec r) = false) : apB s r n = ⟨#[]⟩ ∧ apN s r n = 0 ∧ apOk s r n = false := by
  simp [apB, apN, apOk, h]
theorem ap_fits (s r : ByteArray) (n : Int) (h : dvalid s n = true) (h2 : isRec r = true) (h3 : s.size + r.size + 2 ≤ 120) : apB s r n = s ++ frameOf r ∧ apN s r n = n ∧ apOk s r n = true := by
  simp [apB, apN, apOk, h, h2, h3]
theorem ap_full (s r : ByteArray) (n : Int) (h : dvalid s n = true) (h2 : isRec r = true) (h3 : ¬ s.size + r.size + 2 ≤ 120) : apB s r n = s ∧ apN s r n = n ∧ apOk s r n = false := by
  simp [apB, apN, apOk, h, h2, h3]

set_option maxHeartbeats 1600000 in
set_option maxRecDepth 100000 in
theorem specLogAppend_any (s r : ByteArray) (n : Int) (w : World) (hs : s.size ≤ 9223372036854775807) (hr : r.size ≤ 1048576) :
    Calls Try.prog 35 #[.agg #[.string s, .int .i64 n], .string r] w fun e w' => e = .returned (.tuple #[.agg #[.string (apB s r n), .int .i64 (apN s r n)], .bool (apOk s r n)]) ∧ Below w.heap.size w w' := by
  have hm : s.size ≤ maxLen := by unfold maxLen; omega
  have hrm : r.size ≤ maxLen := by unfold maxLen; omega
  cases h : dvalid s n
  · obtain ⟨e1, e2, e3⟩ := ap_bad s r n (by simp [h])
    rw [e1, e2, e3]
    clear e1 e2 e3
    go_enter Try.func35, Try.ntmps35
    go_wp2_with (first
      | (go_at_call 26; refine (specDiskValid_any s n _ hm).mono ?_; rintro e w3 ⟨rfl, hb3⟩; have c3_0 : w3.cell? ⟨w.heap.size, 0, none⟩ = some (.string s) := keep_cell hb3 (by go_simp); have z3_0 := cell_lt c3_0; have y3_0 := Nat.le_of_lt z3_0; have n3_0 := Nat.ne_of_lt z3_0; have m3_0 := Nat.ne_of_gt z3_0; have c3_1 : w3.cell? ⟨w.heap.size, 1, none⟩ = some (.int .i64 n) := keep_cell hb3 (by go_simp); have z3_1 := cell_lt c3_1; have y3_1 := Nat.le_of_lt z3_1; have c3_2 : w3.cell? ⟨w.heap.size + 1, 0, none⟩ = some (.string (⟨#[]⟩ : ByteArray)) := keep_cell hb3 (by go_simp); have z3_2 := cell_lt c3_2; have y3_2 := Nat.le_of_lt z3_2; have f3_2 : w3.frozen? ⟨w.heap.size + 1, 0, none⟩ = false := keep_frozen (v := .string (⟨#[]⟩ : ByteArray)) hb3 (by go_simp) (by go_simp); have c3_3 : w3.cell? ⟨w.heap.size + 1, 1, none⟩ = some (.int .i64 0) := keep_cell hb3 (by go_simp); have z3_3 := cell_lt c3_3; have y3_3 := Nat.le_of_lt z3_3; have f3_3 : w3.frozen? ⟨w.heap.size + 1, 1, none⟩ = false := keep_frozen (v := .int .i64 0) hb3 (by go_simp) (by go_simp))
      | (go_at_call 50; refine (l6In_any _ _ _ _).mono ?_; rintro e w' ⟨rfl, rfl⟩))
    refine bodyPost_ret (v := .tuple #[.agg #[.string ⟨#[]⟩, .int .i64 0], .bool false]) (by simp [results, Try.results35, go_sem, *]) rfl ⟨rfl, ?_⟩
    exact ((step_below (alloc_below (alloc_below (Below.refl _ _) _) _) hb3).setCell (by simp) _).setCell (by simp) _
  cases h2 : isRec r
  · obtain ⟨e1, e2, e3⟩ := ap_bad s r n (by simp [h2])
    rw [e1, e2, e3]
    clear e1 e2 e3
    have h2' : inR r.size 1 12 = false := h2
    go_enter Try.func35, Try.ntmps35
    go_wp2_with (first
      | (go_at_call 26; refine (specDiskValid_any s n _ hm).mono ?_; rintro e w3 ⟨rfl, hb3⟩; have c3_0 : w3.cell? ⟨w.heap.size, 0, none⟩ = some (.string s) := keep_cell hb3 (by go_simp); have z3_0 := cell_lt c3_0; have y3_0 := Nat.le_of_lt z3_0; have n3_0 := Nat.ne_of_lt z3_0; have m3_0 := Nat.ne_of_gt z3_0; have c3_1 : w3.cell? ⟨w.heap.size, 1, none⟩ = some (.int .i64 n) := keep_cell hb3 (by go_simp); have z3_1 := cell_lt c3_1; have y3_1 := Nat.le_of_lt z3_1; have c3_2 : w3.cell? ⟨w.heap.size + 1, 0, none⟩ = some (.string (⟨#[]⟩ : ByteArray)) := keep_cell hb3 (by go_simp); have z3_2 := cell_lt c3_2; have y3_2 := Nat.le_of_lt z3_2; have f3_2 : w3.frozen? ⟨w.heap.size + 1, 0, none⟩ = false := keep_frozen (v := .string (⟨#[]⟩ : ByteArray)) hb3 (by go_simp) (by go_simp); have c3_3 : w3.cell? ⟨w.heap.size + 1, 1, none⟩ = some (.int .i64 0) := keep_cell hb3 (by go_simp); have z3_3 := cell_lt c3_3; have y3_3 := Nat.le_of_lt z3_3; have f3_3 : w3.frozen? ⟨w.heap.size + 1, 1, none⟩ = false := keep_frozen (v := .int .i64 0) hb3 (by go_simp) (by go_simp))
      | (go_at_call 50; refine (l6In_any _ _ _ _).mono ?_; rintro e w' ⟨rfl, rfl⟩))
    refine bodyPost_ret (v := .tuple #[.agg #[.string ⟨#[]⟩, .int .i64 0], .bool false]) (by simp [results, Try.results35, go_sem, *]) rfl ⟨rfl, ?_⟩
    exact ((step_below (alloc_below (alloc_below (Below.refl _ _) _) _) hb3).setCell (by simp) _).setCell (by simp) _
  have h2' : inR r.size 1 12 = true := h2
  obtain ⟨r1, r2⟩ := isRec_true h2
  obtain ⟨s1, s2⟩ := dvalid_true h
  have hlf : (logFrame r).size = r.size + 2 := by rw [logFrame_rec h2]; exact frameOf_size r
  have hff : (frameOf r).size = r.size + 2 := frameOf_size r
  have hle : logFrame r = frameOf r := logFrame_rec h2
  have hno : ¬ 9223372036854775807 < s.size + (r.size + 2) := by omega
  clear hs
  by_cases h3 : s.size + r.size + 2 ≤ 120
  · obtain ⟨e1, e2, e3⟩ := ap_fits s r n h h2 h3
    rw [e1, e2, e3]
    clear e1 e2 e3
    go_enter Try.func35, Try.ntmps35
    go_wp2_with (first
      | (go_at_call 26; refine (specDiskValid_any s n _ hm).mono ?_; rintro e w3 ⟨rfl, hb3⟩; have c3_0 : w3.cell? ⟨w.heap.size, 0, none⟩ = some (.string s) := keep_cell hb3 (by go_simp); have z3_0 := cell_lt c3_0; have y3_0 := Nat.le_of_lt z3_0; have n3_0 := Nat.ne_of_lt z3_0; have m3_0 := Nat.ne_of_gt z3_0; have c3_1 : w3.cell? ⟨w.heap.size, 1, none⟩ = some (.int .i64 n) := keep_cell hb3 (by go_simp); have z3_1 := cell_lt c3_1; have y3_1 := Nat.le_of_lt z3_1; have c3_2 : w3.cell? ⟨w.heap.size + 1, 0, none⟩ = some (.string (⟨#[]⟩ : ByteArray)) := keep_cell hb3 (by go_simp); have z3_2 := cell_lt c3_2; have y3_2 := Nat.le_of_lt z3_2; have f3_2 : w3.frozen? ⟨w.heap.size + 1, 0, none⟩ = false := keep_frozen (v := .string (⟨#[]⟩ : ByteArray)) hb3 (by go_simp) (by go_simp); have c3_3 : w3.cell? ⟨w.heap.size + 1, 1, none⟩ = some (.int .i64 0) := keep_cell hb3 (by go_simp); have z3_3 := cell_lt c3_3; have y3_3 := Nat.le_of_lt z3_3; have f3_3 : w3.frozen? ⟨w.heap.size + 1, 1, none⟩ = false := keep_frozen (v := .int .i64 0) hb3 (by go_simp) (by go_simp))
      | (go_at_call 50; refine (l6In_any _ _ _ _).mono ?_; rintro e w' ⟨rfl, rfl⟩))
    go_region_held3 (fun w' => w'.cell? ⟨w.heap.size, 0, none⟩ = some (.string s) ∧ w'.cell? ⟨w.heap.size, 1, none⟩ = some (.int .i64 n)) (first | go_keep | exact ⟨c4_0, c4_1⟩) (first | (go_at_call 52; refine (l4Frame_any r _ r2).mono ?_; rintro e w4 ⟨rfl, hb4⟩; have c4_0 : w4.cell? ⟨w.heap.size, 0, none⟩ = some (.string s) := keep_cell hb4 (by go_simp); have z4_0 := cell_lt c4_0; have y4_0 := Nat.le_of_lt z4_0; have n4_0 := Nat.ne_of_lt z4_0; have m4_0 := Nat.ne_of_gt z4_0; have c4_1 : w4.cell? ⟨w.heap.size, 1, none⟩ = some (.int .i64 n) := keep_cell hb4 (by go_simp); have z4_1 := cell_lt c4_1; have y4_1 := Nat.le_of_lt z4_1; have c4_2 : w4.cell? ⟨w.heap.size + 1, 0, none⟩ = some (.string (⟨#[]⟩ : ByteArray)) := keep_cell hb4 (by go_simp); have z4_2 := cell_lt c4_2; have y4_2 := Nat.le_of_lt z4_2; have f4_2 : w4.frozen? ⟨w.heap.size + 1, 0, none⟩ = false := keep_frozen (v := .string (⟨#[]⟩ : ByteArray)) hb4 (by go_simp) (by go_simp); have c4_3 : w4.cell? ⟨w.heap.size + 1, 1, none⟩ = some (.int .i64 0) := keep_cell hb4 (by go_simp); have z4_3 := cell_lt c4_3; have y4_3 := Nat.le_of_lt z4_3; have f4_3 : w4.frozen? ⟨w.heap.size + 1, 1, none⟩ = false := keep_frozen (v := .int .i64 0) hb4 (by go_simp) (by go_simp); try (have c4_4 : w4.cell? ⟨w3.heap.size, 0, none⟩ = some (.string (⟨#[]⟩ : ByteArray)) := keep_cell hb4 (new_cell _ _ _ 0 _ rfl); have z4_4 := cell_lt c4_4; have y4_4 := Nat.le_of_lt z4_4; have f4_4 : w4.frozen? ⟨w3.heap.size, 0, none⟩ = false := keep_frozen hb4 (new_cell _ _ _ 0 _ rfl) (new_frozen _ _ _ 0)); try (have c4_5 : w4.cell? ⟨w3.heap.size, 1, none⟩ = some (.int .i64 0) := keep_cell hb4 (new_cell _ _ _ 1 _ rfl); have z4_5 := cell_lt c4_5; have y4_5 := Nat.le_of_lt z4_5; have f4_5 : w4.frozen? ⟨w3.heap.size, 1, none⟩ = false := keep_frozen hb4 (new_cell _ _ _ 1 _ rfl) (new_frozen _ _ _ 1))))
    all_goals go_wp2
    all_goals (refine bodyPost_ret (v := .tuple #[.agg #[.string (s ++ frameOf r), .int .i64 n], .bool true]) (by simp [results, Try.results35, go_sem, *]) rfl ⟨rfl, ?_⟩)
    all_goals (repeat (first | assumption | exact Below.refl _ _ | apply alloc_below | apply Below.drew | (refine Below.setCell ?_ ?_ _; rotate_left; focus (first | (simp; done) | (simp; omega))) | refine step_below ?_ (by assumption)))
  · obtain ⟨e1, e2, e3⟩ := ap_full s r n h h2 h3
    rw [e1, e2, e3]
    clear e1 e2 e3
    go_enter Try.func35, Try.ntmps35
    go_wp2_with (first
      | (go_at_call 26; refine (specDiskValid_any s n _ hm).mono ?_; rintro e w3 ⟨rfl, hb3⟩; have c3_0 : w3.cell? ⟨w.heap.size, 0, none⟩ = some (.string s) := keep_cell hb3 (by go_simp); have z3_0 := cell_lt c3_0; have y3_0 := Nat.le_of_lt z3_0; have n3_0 := Nat.ne_of_lt z3_0; have m3_0 := Nat.ne_of_gt z3_0; have c3_1 : w3.cell? ⟨w.heap.size, 1, none⟩ = some (.int .i64 n) := keep_cell hb3 (by go_simp); have z3_1 := cell_lt c3_1; have y3_1 := Nat.le_of_lt z3_1; have c3_2 : w3.cell? ⟨w.heap.size + 1, 0, none⟩ = some (.string (⟨#[]⟩ : ByteArray)) := keep_cell hb3 (by go_simp); have z3_2 := cell_lt c3_2; have y3_2 := Nat.le_of_lt z3_2; have f3_2 : w3.frozen? ⟨w.heap.size + 1, 0, none⟩ = false := keep_frozen (v := .string (⟨#[]⟩ : ByteArray)) hb3 (by go_simp) (by go_simp); have c3_3 : w3.cell? ⟨w.heap.size + 1, 1, none⟩ = some (.int .i64 0) := keep_cell hb3 (by go_simp); have z3_3 := cell_lt c3_3; have y3_3 := Nat.le_of_lt z3_3; have f3_3 : w3.frozen? ⟨w.heap.size + 1, 1, none⟩ = false := keep_frozen (v := .int .i64 0) hb3 (by go_simp) (by go_simp))
      | (go_at_call 50; refine (l6In_any _ _ _ _).mono ?_; rintro e w' ⟨rfl, rfl⟩))
    all_goals (refine bodyPost_ret (v := .tuple #[.agg #[.string s, .int .i64 n], .bool false]) (by simp [results, Try.results35, go_sem, *]) rfl ⟨rfl, ?_⟩)
    all_goals (repeat (first | assumption | exact Below.refl _ _ | apply alloc_below | apply Below.drew | (refine Below.setCell ?_ ?_ _; rotate_left; focus (first | (simp; done) | (simp; omega))) | refine step_below ?_ (by assumption)))

set_option maxHeartbeats 1600000 in
set_option maxRecDepth 100000 in
theorem implLogAppend_any (s r : ByteArray) (n : Int) (w : World) (hs : s.size ≤ 9223372036854775807) (hr : r.size ≤ 1048576) :
    Calls Try.prog 36 #[.agg #[.string s, .int .i64 n], .string r] w fun e w' => e = .returned (.tuple #[.agg #[.string (apB s r n), .int .i64 (apN s r n)], .bool (apOk s r n)]) ∧ Below w.heap.size w w' := by
  have hm : s.size ≤ maxLen := by unfold maxLen; omega
  have hrm : r.size ≤ maxLen := by unfold maxLen; omega
  cases h : dvalid s n
  · obtain ⟨e1, e2, e3⟩ := ap_bad s r n (by simp [h])
    rw [e1, e2, e3]
    clear e1 e2 e3
    go_enter Try.func36, Try.ntmps36
    go_wp2_with (first
      | (go_at_call 28; refine (implDiskValid_any s n _ hm).mono ?_; rintro e w3 ⟨rfl, hb3⟩; have c3_0 : w3.cell? ⟨w.heap.size, 0, none⟩ = some (.string s) := keep_cell hb3 (by go_simp); have z3_0 := cell_lt c3_0; have y3_0 := Nat.le_of_lt z3_0; have n3_0 := Nat.ne_of_lt z3_0; have m3_0 := Nat.ne_of_gt z3_0; have c3_1 : w3.cell? ⟨w.heap.size, 1, none⟩ = some (.int .i64 n) := keep_cell hb3 (by go_simp); have z3_1 := cell_lt c3_1; have y3_1 := Nat.le_of_lt z3_1; have c3_2 : w3.cell? ⟨w.heap.size + 1, 0, none⟩ = some (.string (⟨#[]⟩ : ByteArray)) := keep_cell hb3 (by go_simp); have z3_2 := cell_lt c3_2; have y3_2 := Nat.le_of_lt z3_2; have f3_2 : w3.frozen? ⟨w.heap.size + 1, 0, none⟩ = false := keep_frozen (v := .string (⟨#[]⟩ : ByteArray)) hb3 (by go_simp) (by go_simp); have c3_3 : w3.cell? ⟨w.heap.size + 1, 1, none⟩ = some (.int .i64 0) := keep_cell hb3 (by go_simp); have z3_3 := cell_lt c3_3; have y3_3 := Nat.le_of_lt z3_3; have f3_3 : w3.frozen? ⟨w.heap.size + 1, 1, none⟩ = false := keep_frozen (v := .int .i64 0) hb3 (by go_simp) (by go_simp))
      | (go_at_call 53; refine (isRecord_any r _ (by omega)).mono ?_; rintro e w' ⟨rfl, rfl⟩))
    refine bodyPost_ret (v := .tuple #[.agg #[.string ⟨#[]⟩, .int .i64 0], .bool false]) (by simp [results, Try.results36, go_sem, *]) rfl ⟨rfl, ?_⟩
    exact ((step_below (alloc_below (alloc_below (Below.refl _ _) _) _) hb3).setCell (by simp) _).setCell (by simp) _
  cases h2 : isRec r
  · obtain ⟨e1, e2, e3⟩ := ap_bad s r n (by simp [h2])
    rw [e1, e2, e3]
    clear e1 e2 e3
    have h2' : inR r.size 1 12 = false := h2
    go_enter Try.func36, Try.ntmps36
    go_wp2_with (first
      | (go_at_call 28; refine (implDiskValid_any s n _ hm).mono ?_; rintro e w3 ⟨rfl, hb3⟩; have c3_0 : w3.cell? ⟨w.heap.size, 0, none⟩ = some (.string s) := keep_cell hb3 (by go_simp); have z3_0 := cell_lt c3_0; have y3_0 := Nat.le_of_lt z3_0; have n3_0 := Nat.ne_of_lt z3_0; have m3_0 := Nat.ne_of_gt z3_0; have c3_1 : w3.cell? ⟨w.heap.size, 1, none⟩ = some (.int .i64 n) := keep_cell hb3 (by go_simp); have z3_1 := cell_lt c3_1; have y3_1 := Nat.le_of_lt z3_1; have c3_2 : w3.cell? ⟨w.heap.size + 1, 0, none⟩ = some (.string (⟨#[]⟩ : ByteArray)) := keep_cell hb3 (by go_simp); have z3_2 := cell_lt c3_2; have y3_2 := Nat.le_of_lt z3_2; have f3_2 : w3.frozen? ⟨w.heap.size + 1, 0, none⟩ = false := keep_frozen (v := .string (⟨#[]⟩ : ByteArray)) hb3 (by go_simp) (by go_simp); have c3_3 : w3.cell? ⟨w.heap.size + 1, 1, none⟩ = some (.int .i64 0) := keep_cell hb3 (by go_simp); have z3_3 := cell_lt c3_3; have y3_3 := Nat.le_of_lt z3_3; have f3_3 : w3.frozen? ⟨w.heap.size + 1, 1, none⟩ = false := keep_frozen (v := .int .i64 0) hb3 (by go_simp) (by go_simp))
      | (go_at_call 53; refine (isRecord_any r _ (by omega)).mono ?_; rintro e w' ⟨rfl, rfl⟩))
    refine bodyPost_ret (v := .tuple #[.agg #[.string ⟨#[]⟩, .int .i64 0], .bool false]) (by simp [results, Try.results36, go_sem, *]) rfl ⟨rfl, ?_⟩
    exact ((step_below (alloc_below (alloc_below (Below.refl _ _) _) _) hb3).setCell (by simp) _).setCell (by simp) _
  have h2' : inR r.size 1 12 = true := h2
  obtain ⟨r1, r2⟩ := isRec_true h2
  obtain ⟨s1, s2⟩ := dvalid_true h
  have hlf : (logFrame r).size = r.size + 2 := by rw [logFrame_rec h2]; exact frameOf_size r
  have hff : (frameOf r).size = r.size + 2 := frameOf_size r
  have hle : logFrame r = frameOf r := logFrame_rec h2
  have hno : ¬ 9223372036854775807 < s.size + (r.size + 2) := by omega
  clear hs
  by_cases h3 : s.size + r.size + 2 ≤ 120
  · obtain ⟨e1, e2, e3⟩ := ap_fits s r n h h2 h3
    rw [e1, e2, e3]
    clear e1 e2 e3
    go_enter Try.func36, Try.ntmps36
    go_wp2_with (first
      | (go_at_call 28; refine (implDiskValid_any s n _ hm).mono ?_; rintro e w3 ⟨rfl, hb3⟩; have c3_0 : w3.cell? ⟨w.heap.size, 0, none⟩ = some (.string s) := keep_cell hb3 (by go_simp); have z3_0 := cell_lt c3_0; have y3_0 := Nat.le_of_lt z3_0; have n3_0 := Nat.ne_of_lt z3_0; have m3_0 := Nat.ne_of_gt z3_0; have c3_1 : w3.cell? ⟨w.heap.size, 1, none⟩ = some (.int .i64 n) := keep_cell hb3 (by go_simp); have z3_1 := cell_lt c3_1; have y3_1 := Nat.le_of_lt z3_1; have c3_2 : w3.cell? ⟨w.heap.size + 1, 0, none⟩ = some (.string (⟨#[]⟩ : ByteArray)) := keep_cell hb3 (by go_simp); have z3_2 := cell_lt c3_2; have y3_2 := Nat.le_of_lt z3_2; have f3_2 : w3.frozen? ⟨w.heap.size + 1, 0, none⟩ = false := keep_frozen (v := .string (⟨#[]⟩ : ByteArray)) hb3 (by go_simp) (by go_simp); have c3_3 : w3.cell? ⟨w.heap.size + 1, 1, none⟩ = some (.int .i64 0) := keep_cell hb3 (by go_simp); have z3_3 := cell_lt c3_3; have y3_3 := Nat.le_of_lt z3_3; have f3_3 : w3.frozen? ⟨w.heap.size + 1, 1, none⟩ = false := keep_frozen (v := .int .i64 0) hb3 (by go_simp) (by go_simp))
      | (go_at_call 53; refine (isRecord_any r _ (by omega)).mono ?_; rintro e w' ⟨rfl, rfl⟩))
    go_region_held3 (fun w' => w'.cell? ⟨w.heap.size, 0, none⟩ = some (.string s) ∧ w'.cell? ⟨w.heap.size, 1, none⟩ = some (.int .i64 n)) (first | go_keep | exact ⟨c4_0, c4_1⟩) (first | (go_at_call 30; refine (implLogFrame_any r _ hrm).mono ?_; rintro e w4 ⟨rfl, hb4⟩; have c4_0 : w4.cell? ⟨w.heap.size, 0, none⟩ = some (.string s) := keep_cell hb4 (by go_simp); have z4_0 := cell_lt c4_0; have y4_0 := Nat.le_of_lt z4_0; have n4_0 := Nat.ne_of_lt z4_0; have m4_0 := Nat.ne_of_gt z4_0; have c4_1 : w4.cell? ⟨w.heap.size, 1, none⟩ = some (.int .i64 n) := keep_cell hb4 (by go_simp); have z4_1 := cell_lt c4_1; have y4_1 := Nat.le_of_lt z4_1; have c4_2 : w4.cell? ⟨w.heap.size + 1, 0, none⟩ = some (.string (⟨#[]⟩ : ByteArray)) := keep_cell hb4 (by go_simp); have z4_2 := cell_lt c4_2; have y4_2 := Nat.le_of_lt z4_2; have f4_2 : w4.frozen? ⟨w.heap.size + 1, 0, none⟩ = false := keep_frozen (v := .string (⟨#[]⟩ : ByteArray)) hb4 (by go_simp) (by go_simp); have c4_3 : w4.cell? ⟨w.heap.size + 1, 1, none⟩ = some (.int .i64 0) := keep_cell hb4 (by go_simp); have z4_3 := cell_lt c4_3; have y4_3 := Nat.le_of_lt z4_3; have f4_3 : w4.frozen? ⟨w.heap.size + 1, 1, none⟩ = false := keep_frozen (v := .int .i64 0) hb4 (by go_simp) (by go_simp); try (have c4_4 : w4.cell? ⟨w3.heap.size, 0, none⟩ = some (.string (⟨#[]⟩ : ByteArray)) := keep_cell hb4 (new_cell _ _ _ 0 _ rfl); have z4_4 := cell_lt c4_4; have y4_4 := Nat.le_of_lt z4_4; have f4_4 : w4.frozen? ⟨w3.heap.size, 0, none⟩ = false := keep_frozen hb4 (new_cell _ _ _ 0 _ rfl) (new_frozen _ _ _ 0)); try (have c4_5 : w4.cell? ⟨w3.heap.size, 1, none⟩ = some (.int .i64 0) := keep_cell hb4 (new_cell _ _ _ 1 _ rfl); have z4_5 := cell_lt c4_5; have y4_5 := Nat.le_of_lt z4_5; have f4_5 : w4.frozen? ⟨w3.heap.size, 1, none⟩ = false := keep_frozen hb4 (new_cell _ _ _ 1 _ rfl) (new_frozen _ _ _ 1))))
    all_goals go_wp2
    all_goals (refine bodyPost_ret (v := .tuple #[.agg #[.string (s ++ frameOf r), .int .i64 n], .bool true]) (by simp [results, Try.results36, go_sem, *]) rfl ⟨rfl, ?_⟩)
    all_goals (repeat (first | assumption | exact Below.refl _ _ | apply alloc_below | apply Below.drew | (refine Below.setCell ?_ ?_ _; rotate_left; focus (first | (simp; done) | (simp; omega))) | refine step_below ?_ (by assumption)))
  · obtain ⟨e1, e2, e3⟩ := ap_full s r n h h2 h3
    rw [e1, e2, e3]
    clear e1 e2 e3
    go_enter Try.func36, Try.ntmps36
    go_wp2_with (first
      | (go_at_call 28; refine (implDiskValid_any s n _ hm).mono ?_; rintro e w3 ⟨rfl, hb3⟩; have c3_0 : w3.cell? ⟨w.heap.size, 0, none⟩ = some (.string s) := keep_cell hb3 (by go_simp); have z3_0 := cell_lt c3_0; have y3_0 := Nat.le_of_lt z3_0; have n3_0 := Nat.ne_of_lt z3_0; have m3_0 := Nat.ne_of_gt z3_0; have c3_1 : w3.cell? ⟨w.heap.size, 1, none⟩ = some (.int .i64 n) := keep_cell hb3 (by go_simp); have z3_1 := cell_lt c3_1; have y3_1 := Nat.le_of_lt z3_1; have c3_2 : w3.cell? ⟨w.heap.size + 1, 0, none⟩ = some (.string (⟨#[]⟩ : ByteArray)) := keep_cell hb3 (by go_simp); have z3_2 := cell_lt c3_2; have y3_2 := Nat.le_of_lt z3_2; have f3_2 : w3.frozen? ⟨w.heap.size + 1, 0, none⟩ = false := keep_frozen (v := .string (⟨#[]⟩ : ByteArray)) hb3 (by go_simp) (by go_simp); have c3_3 : w3.cell? ⟨w.heap.size + 1, 1, none⟩ = some (.int .i64 0) := keep_cell hb3 (by go_simp); have z3_3 := cell_lt c3_3; have y3_3 := Nat.le_of_lt z3_3; have f3_3 : w3.frozen? ⟨w.heap.size + 1, 1, none⟩ = false := keep_frozen (v := .int .i64 0) hb3 (by go_simp) (by go_simp))
      | (go_at_call 53; refine (isRecord_any r _ (by omega)).mono ?_; rintro e w' ⟨rfl, rfl⟩))
    go_region_held3 (fun w' => w'.cell? ⟨w.heap.size, 0, none⟩ = some (.string s) ∧ w'.cell? ⟨w.heap.size, 1, none⟩ = some (.int .i64 n)) (first | go_keep | exact ⟨c4_0, c4_1⟩) (first | (go_at_call 30; refine (implLogFrame_any r _ hrm).mono ?_; rintro e w4 ⟨rfl, hb4⟩; have c4_0 : w4.cell? ⟨w.heap.size, 0, none⟩ = some (.string s) := keep_cell hb4 (by go_simp); have z4_0 := cell_lt c4_0; have y4_0 := Nat.le_of_lt z4_0; have n4_0 := Nat.ne_of_lt z4_0; have m4_0 := Nat.ne_of_gt z4_0; have c4_1 : w4.cell? ⟨w.heap.size, 1, none⟩ = some (.int .i64 n) := keep_cell hb4 (by go_simp); have z4_1 := cell_lt c4_1; have y4_1 := Nat.le_of_lt z4_1; have c4_2 : w4.cell? ⟨w.heap.size + 1, 0, none⟩ = some (.string (⟨#[]⟩ : ByteArray)) := keep_cell hb4 (by go_simp); have z4_2 := cell_lt c4_2; have y4_2 := Nat.le_of_lt z4_2; have f4_2 : w4.frozen? ⟨w.heap.size + 1, 0, none⟩ = false := keep_frozen (v := .string (⟨#[]⟩ : ByteArray)) hb4 (by go_simp) (by go_simp); have c4_3 : w4.cell? ⟨w.heap.size + 1, 1, none⟩ = some (.int .i64 0) := keep_cell hb4 (by go_simp); have z4_3 := cell_lt c4_3; have y4_3 := Nat.le_of_lt z4_3; have f4_3 : w4.frozen? ⟨w.heap.size + 1, 1, none⟩ = false := keep_frozen (v := .int .i64 0) hb4 (by go_simp) (by go_simp); try (have c4_4 : w4.cell? ⟨w3.heap.size, 0, none⟩ = some (.string (⟨#[]⟩ : ByteArray)) := keep_cell hb4 (new_cell _ _ _ 0 _ rfl); have z4_4 := cell_lt c4_4; have y4_4 := Nat.le_of_lt z4_4; have f4_4 : w4.frozen? ⟨w3.heap.size, 0, none⟩ = false := keep_frozen hb4 (new_cell _ _ _ 0 _ rfl) (new_frozen _ _ _ 0)); try (have c4_5 : w4.cell? ⟨w3.heap.size, 1, none⟩ = some (.int .i64 0) := keep_cell hb4 (new_cell _ _ _ 1 _ rfl); have z4_5 := cell_lt c4_5; have y4_5 := Nat.le_of_lt z4_5; have f4_5 : w4.frozen? ⟨w3.heap.size, 1, none⟩ = false := keep_frozen hb4 (new_cell _ _ _ 1 _ rfl) (new_frozen _ _ _ 1))))
    all_goals go_wp2
    all_goals (refine bodyPost_ret (v := .tuple #[.agg #[.string s, .int .i64 n], .bool false]) (by simp [results, Try.results36, go_sem, *]) rfl ⟨rfl, ?_⟩)
    all_goals (repeat (first | assumption | exact Below.refl _ _ | apply alloc_below | apply Below.drew | (refine Below.setCell ?_ ?_ _; rotate_left; focus (first | (simp; done) | (simp; omega))) | refine step_below ?_ (by assumption)))

end Go.Proofs.Ytklgkfknifkbaaa
