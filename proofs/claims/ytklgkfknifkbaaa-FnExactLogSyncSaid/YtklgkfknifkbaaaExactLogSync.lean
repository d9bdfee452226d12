/- The program's LogSync returns what the reference's returns, for all disks: the law FnExactLogSync returns true. No conditions. -/
import Derived.Test.YtklgkfknifkbaaaDisk
namespace Go.Proofs.Ytklgkfknifkbaaa
open Go.ChangeShapes Go.WideShapes Go.ChangeAt Go.RowKit Go.Joins
open Go.ChangeMaps (open_string shut_string)

/-- What LogSync returns. -/
def syncBytes (s : ByteArray) (n : Int) : ByteArray := if dvalid s n then s else (⟨#[]⟩ : ByteArray)
def syncNum (s : ByteArray) (n : Int) : Int := if dvalid s n then s.size else 0

theorem specLogSync_any (s : ByteArray) (n : Int) (w : World) (hs : s.size ≤ maxLen) :
    Calls Try.prog 31 #[.agg #[.string s, .int .i64 n]] w fun e w' => e = .returned (.agg #[.string (syncBytes s n), .int .i64 (syncNum s n)]) ∧ Below w.heap.size w w' := by
  cases h : dvalid s n
  · have e1 : syncBytes s n = (⟨#[]⟩ : ByteArray) := by simp [syncBytes, h]
    have e2 : syncNum s n = 0 := by simp [syncNum, h]
    rw [e1, e2]
    clear e1 e2
    go_enter Try.func31, Try.ntmps31
    go_wp2_with (go_at_call 26; refine (specDiskValid_any s n _ hs).mono ?_; rintro e w3 ⟨rfl, hb3⟩; have c3_0 : w3.cell? ⟨w.heap.size, 0, none⟩ = some (.string s) := keep_cell hb3 (by go_simp); have z3_0 := cell_lt c3_0; have y3_0 := Nat.le_of_lt z3_0; have c3_1 : w3.cell? ⟨w.heap.size, 1, none⟩ = some (.int .i64 n) := keep_cell hb3 (by go_simp); have z3_1 := cell_lt c3_1; have y3_1 := Nat.le_of_lt z3_1; have c3_2 : w3.cell? ⟨w.heap.size + 1, 0, none⟩ = some (.string (⟨#[]⟩ : ByteArray)) := keep_cell hb3 (by go_simp); have z3_2 := cell_lt c3_2; have y3_2 := Nat.le_of_lt z3_2; have f3_2 : w3.frozen? ⟨w.heap.size + 1, 0, none⟩ = false := keep_frozen (v := .string (⟨#[]⟩ : ByteArray)) hb3 (by go_simp) (by go_simp); have c3_3 : w3.cell? ⟨w.heap.size + 1, 1, none⟩ = some (.int .i64 0) := keep_cell hb3 (by go_simp); have z3_3 := cell_lt c3_3; have y3_3 := Nat.le_of_lt z3_3; have f3_3 : w3.frozen? ⟨w.heap.size + 1, 1, none⟩ = false := keep_frozen (v := .int .i64 0) hb3 (by go_simp) (by go_simp))
    refine bodyPost_ret (v := .agg #[.string (⟨#[]⟩ : ByteArray), .int .i64 0]) (by simp [results, Try.results31, go_sem, *]) rfl ⟨rfl, ?_⟩
    exact ((step_below (alloc_below (alloc_below (Below.refl _ _) _) _) hb3).setCell (by simp) _).setCell (by simp) _
  · have e1 : syncBytes s n = s := by simp [syncBytes, h]
    have e2 : syncNum s n = s.size := by simp [syncNum, h]
    rw [e1, e2]
    clear e1 e2
    unfold maxLen at hs
    go_enter Try.func31, Try.ntmps31
    go_wp2_with (go_at_call 26; refine (specDiskValid_any s n _ hs).mono ?_; rintro e w3 ⟨rfl, hb3⟩; have c3_0 : w3.cell? ⟨w.heap.size, 0, none⟩ = some (.string s) := keep_cell hb3 (by go_simp); have z3_0 := cell_lt c3_0; have y3_0 := Nat.le_of_lt z3_0; have c3_1 : w3.cell? ⟨w.heap.size, 1, none⟩ = some (.int .i64 n) := keep_cell hb3 (by go_simp); have z3_1 := cell_lt c3_1; have y3_1 := Nat.le_of_lt z3_1; have c3_2 : w3.cell? ⟨w.heap.size + 1, 0, none⟩ = some (.string (⟨#[]⟩ : ByteArray)) := keep_cell hb3 (by go_simp); have z3_2 := cell_lt c3_2; have y3_2 := Nat.le_of_lt z3_2; have f3_2 : w3.frozen? ⟨w.heap.size + 1, 0, none⟩ = false := keep_frozen (v := .string (⟨#[]⟩ : ByteArray)) hb3 (by go_simp) (by go_simp); have c3_3 : w3.cell? ⟨w.heap.size + 1, 1, none⟩ = some (.int .i64 0) := keep_cell hb3 (by go_simp); have z3_3 := cell_lt c3_3; have y3_3 := Nat.le_of_lt z3_3; have f3_3 : w3.frozen? ⟨w.heap.size + 1, 1, none⟩ = false := keep_frozen (v := .int .i64 0) hb3 (by go_simp) (by go_simp))
    refine bodyPost_ret (v := .agg #[.string s, .int .i64 s.size]) (by simp [results, Try.results31, go_sem, *]) rfl ⟨rfl, ?_⟩
    exact ((step_below (alloc_below (alloc_below (Below.refl _ _) _) _) hb3).setCell (by simp) _).setCell (by simp) _

theorem implLogSync_any (s : ByteArray) (n : Int) (w : World) (hs : s.size ≤ maxLen) :
    Calls Try.prog 32 #[.agg #[.string s, .int .i64 n]] w fun e w' => e = .returned (.agg #[.string (syncBytes s n), .int .i64 (syncNum s n)]) ∧ Below w.heap.size w w' := by
  cases h : dvalid s n
  · have e1 : syncBytes s n = (⟨#[]⟩ : ByteArray) := by simp [syncBytes, h]
    have e2 : syncNum s n = 0 := by simp [syncNum, h]
    rw [e1, e2]
    clear e1 e2
    go_enter Try.func32, Try.ntmps32
    go_wp2_with (go_at_call 28; refine (implDiskValid_any s n _ hs).mono ?_; rintro e w3 ⟨rfl, hb3⟩; have c3_0 : w3.cell? ⟨w.heap.size, 0, none⟩ = some (.string s) := keep_cell hb3 (by go_simp); have z3_0 := cell_lt c3_0; have y3_0 := Nat.le_of_lt z3_0; have c3_1 : w3.cell? ⟨w.heap.size, 1, none⟩ = some (.int .i64 n) := keep_cell hb3 (by go_simp); have z3_1 := cell_lt c3_1; have y3_1 := Nat.le_of_lt z3_1; have c3_2 : w3.cell? ⟨w.heap.size + 1, 0, none⟩ = some (.string (⟨#[]⟩ : ByteArray)) := keep_cell hb3 (by go_simp); have z3_2 := cell_lt c3_2; have y3_2 := Nat.le_of_lt z3_2; have f3_2 : w3.frozen? ⟨w.heap.size + 1, 0, none⟩ = false := keep_frozen (v := .string (⟨#[]⟩ : ByteArray)) hb3 (by go_simp) (by go_simp); have c3_3 : w3.cell? ⟨w.heap.size + 1, 1, none⟩ = some (.int .i64 0) := keep_cell hb3 (by go_simp); have z3_3 := cell_lt c3_3; have y3_3 := Nat.le_of_lt z3_3; have f3_3 : w3.frozen? ⟨w.heap.size + 1, 1, none⟩ = false := keep_frozen (v := .int .i64 0) hb3 (by go_simp) (by go_simp))
    refine bodyPost_ret (v := .agg #[.string (⟨#[]⟩ : ByteArray), .int .i64 0]) (by simp [results, Try.results32, go_sem, *]) rfl ⟨rfl, ?_⟩
    exact ((step_below (alloc_below (alloc_below (Below.refl _ _) _) _) hb3).setCell (by simp) _).setCell (by simp) _
  · have e1 : syncBytes s n = s := by simp [syncBytes, h]
    have e2 : syncNum s n = s.size := by simp [syncNum, h]
    rw [e1, e2]
    clear e1 e2
    unfold maxLen at hs
    go_enter Try.func32, Try.ntmps32
    go_wp2_with (go_at_call 28; refine (implDiskValid_any s n _ hs).mono ?_; rintro e w3 ⟨rfl, hb3⟩; have c3_0 : w3.cell? ⟨w.heap.size, 0, none⟩ = some (.string s) := keep_cell hb3 (by go_simp); have z3_0 := cell_lt c3_0; have y3_0 := Nat.le_of_lt z3_0; have c3_1 : w3.cell? ⟨w.heap.size, 1, none⟩ = some (.int .i64 n) := keep_cell hb3 (by go_simp); have z3_1 := cell_lt c3_1; have y3_1 := Nat.le_of_lt z3_1; have c3_2 : w3.cell? ⟨w.heap.size + 1, 0, none⟩ = some (.string (⟨#[]⟩ : ByteArray)) := keep_cell hb3 (by go_simp); have z3_2 := cell_lt c3_2; have y3_2 := Nat.le_of_lt z3_2; have f3_2 : w3.frozen? ⟨w.heap.size + 1, 0, none⟩ = false := keep_frozen (v := .string (⟨#[]⟩ : ByteArray)) hb3 (by go_simp) (by go_simp); have c3_3 : w3.cell? ⟨w.heap.size + 1, 1, none⟩ = some (.int .i64 0) := keep_cell hb3 (by go_simp); have z3_3 := cell_lt c3_3; have y3_3 := Nat.le_of_lt z3_3; have f3_3 : w3.frozen? ⟨w.heap.size + 1, 1, none⟩ = false := keep_frozen (v := .int .i64 0) hb3 (by go_simp) (by go_simp))
    refine bodyPost_ret (v := .agg #[.string s, .int .i64 s.size]) (by simp [results, Try.results32, go_sem, *]) rfl ⟨rfl, ?_⟩
    exact ((step_below (alloc_below (alloc_below (Below.refl _ _) _) _) hb3).setCell (by simp) _).setCell (by simp) _

set_option maxHeartbeats 400000 in
theorem exactLogSync_any (s : ByteArray) (n : Int) (w : World) (hs : s.size ≤ maxLen) :
    Calls Try.prog 6 #[.agg #[.string s, .int .i64 n]] w fun e w' => e = .returned (.bool true) ∧ Below w.heap.size w w' := by
  by_cases h : s.size ≤ 1048576
  · go_enter Try.func6, Try.ntmps6
    go_wp2_with (first
      | (go_at_call 25; refine (szDisk_yes s n 1048576 _ hs (by omega) (by omega) (by omega)).mono ?_; rintro e w1 ⟨rfl, hb1⟩; have c1_0 : w1.cell? ⟨w.heap.size, 0, none⟩ = some (.string s) := keep_cell hb1 (by go_simp); have z1_0 := cell_lt c1_0; have y1_0 := Nat.le_of_lt z1_0; have c1_1 : w1.cell? ⟨w.heap.size, 1, none⟩ = some (.int .i64 n) := keep_cell hb1 (by go_simp); have z1_1 := cell_lt c1_1; have y1_1 := Nat.le_of_lt z1_1)
      | (go_at_call 27; refine (toDisk_any s n _).mono ?_; rintro e w5 ⟨rfl, hb5⟩; have c5_0 : w5.cell? ⟨w.heap.size, 0, none⟩ = some (.string s) := keep_cell hb5 (by go_simp); have z5_0 := cell_lt c5_0; have y5_0 := Nat.le_of_lt z5_0; have c5_1 : w5.cell? ⟨w.heap.size, 1, none⟩ = some (.int .i64 n) := keep_cell hb5 (by go_simp); have z5_1 := cell_lt c5_1; have y5_1 := Nat.le_of_lt z5_1; have c5_2 : w5.cell? ⟨w3.heap.size, 0, none⟩ = some (.string (syncBytes s n)) := keep_cell hb5 (by go_simp); have z5_2 := cell_lt c5_2; have y5_2 := Nat.le_of_lt z5_2; have c5_3 : w5.cell? ⟨w3.heap.size, 1, none⟩ = some (.int .i64 (syncNum s n)) := keep_cell hb5 (by go_simp); have z5_3 := cell_lt c5_3; have y5_3 := Nat.le_of_lt z5_3)
      | (go_at_call 27; refine (toDisk_any s n _).mono ?_; rintro e w2 ⟨rfl, hb2⟩; have c2_0 : w2.cell? ⟨w.heap.size, 0, none⟩ = some (.string s) := keep_cell hb2 (by go_simp); have z2_0 := cell_lt c2_0; have y2_0 := Nat.le_of_lt z2_0; have c2_1 : w2.cell? ⟨w.heap.size, 1, none⟩ = some (.int .i64 n) := keep_cell hb2 (by go_simp); have z2_1 := cell_lt c2_1; have y2_1 := Nat.le_of_lt z2_1)
      | (go_at_call 31; refine (specLogSync_any s n _ hs).mono ?_; rintro e w3 ⟨rfl, hb3⟩; have c3_0 : w3.cell? ⟨w.heap.size, 0, none⟩ = some (.string s) := keep_cell hb3 (by go_simp); have z3_0 := cell_lt c3_0; have y3_0 := Nat.le_of_lt z3_0; have c3_1 : w3.cell? ⟨w.heap.size, 1, none⟩ = some (.int .i64 n) := keep_cell hb3 (by go_simp); have z3_1 := cell_lt c3_1; have y3_1 := Nat.le_of_lt z3_1)
      | (go_at_call 32; refine (implLogSync_any s n _ hs).mono ?_; rintro e w4 ⟨rfl, hb4⟩; have c4_0 : w4.cell? ⟨w3.heap.size, 0, none⟩ = some (.string (syncBytes s n)) := keep_cell hb4 (by go_simp); have z4_0 := cell_lt c4_0; have y4_0 := Nat.le_of_lt z4_0; have c4_1 : w4.cell? ⟨w3.heap.size, 1, none⟩ = some (.int .i64 (syncNum s n)) := keep_cell hb4 (by go_simp); have z4_1 := cell_lt c4_1; have y4_1 := Nat.le_of_lt z4_1)
      | (go_at_call 33; refine (eqDisk_same _ _ _).mono ?_; rintro e w6 ⟨rfl, hb6⟩))
    go_ret
    exact ⟨rfl, by repeat (first | exact Below.refl _ _ | apply alloc_below | refine step_below ?_ (by assumption))⟩
  · go_enter Try.func6, Try.ntmps6
    go_wp2_with (go_at_call 25; refine (szDisk_no s n 1048576 _ hs (by omega) (by omega) (by omega)).mono ?_; rintro e w1 ⟨rfl, hb1⟩)
    go_ret
    exact ⟨rfl, by repeat (first | exact Below.refl _ _ | apply alloc_below | refine step_below ?_ (by assumption))⟩

set_option maxRecDepth 100000 in
theorem exactLogSync_lifted (os : Os) (started : os.Started) (H : Type) (enc : TypeId × Value → H) :
    ReturnsInHanded {} Try.checked os 6 .any (Rows.fnExactLogSyncSpec.pre6 enc Try.prog Try.f6 Rows.fnExactLogSyncRow.domain false) (Rows.fnExactLogSyncSpec.post enc Try.prog Try.f6 false true false false) := by
  have e0 : Rows.fnExactLogSyncRow.domain = [] := rfl
  rw [e0]
  refine lifted_of (C := Try.checked) Try.facts started (by kernel_rfl) Try.func6 rfl ?_ (tb := 4) (by kernel_rfl) Try.underlying4 (by kernel_rfl)
    (ChangeSpec.witness6 (enc := enc) (C := Try.checked) false ⟨#[], #[.agg #[.string ByteArray.empty,.int .i64 0]], []⟩ 8 (by kernel_rfl) (by kernel_rfl) (by kernel_rfl) (by kernel_rfl)) ?_
  · intro ds hds
    match ds, hds with
    | [_], _ => rfl
  intro W base args ds p hval0 hA0
  have hval : ∀ (j : Nat) t v, Try.f6.params[j]? = some t → args[j]? = some v → Value.okWide Try.prog W .any base t v := hval0
  have hA : DataW.TrodAll enc Try.prog W 0 (fun _ => true) true Try.f6.params.toList args.toList ds p := hA0
  clear hA0 hval0
  show Calls Try.prog 6 args W _
  rw [Try.params6] at hA hval
  obtain ⟨v0, d0, hargs, rfl, h0⟩ := trodAll_one hA
  obtain rfl : args = #[v0] := by cases args; simp_all
  obtain ⟨s, n, rfl, hs, hn⟩ := open_disk (hval 0 24 v0 rfl rfl) h0
  exact exactLogSync_any s n W hs

theorem exactLogSync_pkg : ¬ Check.packageOf Try.f6.name = "main" := by
  intro h
  have h2 := congrArg String.toList h
  simp only [Check.packageOf, Try.f6] at h2
  simp at h2

theorem exactLogSync_closed : lawFacts Try.prog 6 Try.f6 Rows.fnExactLogSyncSpec Rows.fnExactLogSyncRow = true := by kernel_rfl
theorem exactLogSync_facts : joinedFacts Try.pinned.checked.prog 6 Try.f6 Rows.fnExactLogSyncSpec Rows.fnExactLogSyncRow = true := facts_of (P := Try.prog) Try.facts exactLogSync_closed

theorem exactLogSync_wrap : Func.isWrapper Try.pinned.checked.prog Try.f6 Rows.fnExactLogSyncRow.wrapper Rows.fnExactLogSyncRow.mainSum := by
  have e1 : Rows.fnExactLogSyncRow.wrapper = false := rfl
  have e2 : Rows.fnExactLogSyncRow.mainSum = "" := rfl
  rw [e1, e2]
  exact wrapper_of Try.pinned.checked.prog Try.f6 exactLogSync_pkg

/-- The statement. -/
theorem exactLogSync_over : Rows.fnExactLogSyncRow.holds Try.pinned (OpenSpec.ofChange Rows.fnExactLogSyncSpec) :=
  OpenClaim.holds_of_wide 6 Try.f6 rfl rfl rfl rfl rfl rfl rfl ⟨rfl, rfl, rfl, rfl, rfl⟩ rfl rfl rfl rfl rfl (by kernel_rfl) Try.func6 exactLogSync_facts
    (of_decide_eq_true (by kernel_rfl)) exactLogSync_wrap
    (fun os started H enc _ => exactLogSync_lifted os started H enc)
theorem exactLogSync_holds : Rows.FnExactLogSyncSaid := exactLogSync_over
#print axioms exactLogSync_holds

end Go.Proofs.Ytklgkfknifkbaaa
