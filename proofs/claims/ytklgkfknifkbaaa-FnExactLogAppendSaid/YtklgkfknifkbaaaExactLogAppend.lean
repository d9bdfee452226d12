/- The program's LogAppend returns what the reference's returns, for all disks and texts: the law FnExactLogAppend returns true. No conditions. -/
import Derived.Test.YtklgkfknifkbaaaLogAppend
import Derived.Lib.Hide
namespace Go.Proofs.Ytklgkfknifkbaaa
set_option linter.unusedVariables false
set_option linter.unusedSimpArgs false
open Go.ChangeShapes Go.WideShapes Go.ChangeAt Go.RowKit Go.Joins
open Go.ChangeMaps (open_string shut_string)

set_option maxHeartbeats 800000 in
set_option maxRecDepth 100000 in
theorem exactLogAppend_any (s r : ByteArray) (n : Int) (w : World) (hs : s.size ≤ maxLen) (hr : r.size ≤ maxLen) :
    Calls Try.prog 8 #[.agg #[.string s, .int .i64 n], .string r] w fun e w' => e = .returned (.bool true) ∧ Below w.heap.size w w' := by
  have hr' := hr
  unfold maxLen at hr'
  by_cases h : r.size ≤ 1048576
  · by_cases h2 : s.size ≤ 1048576
    · have hsl : s.size ≤ 9223372036854775807 := by omega
      have HS := Lib.hid hsl
      clear hsl hr'
      go_enter Try.func8, Try.ntmps8
      go_wp2_with (first
        | (go_at_call 25; refine (szDisk_yes s n 1048576 _ hs (by omega) (by omega) (by omega)).mono ?_; rintro e w1 ⟨rfl, hb1⟩; have c1_0 : w1.cell? ⟨w.heap.size, 0, none⟩ = some (.string s) := keep_cell hb1 (by go_simp); have z1_0 := cell_lt c1_0; have y1_0 := Nat.le_of_lt z1_0; have n1_0 := Nat.ne_of_lt z1_0; have m1_0 := Nat.ne_of_gt z1_0; have c1_1 : w1.cell? ⟨w.heap.size, 1, none⟩ = some (.int .i64 n) := keep_cell hb1 (by go_simp); have z1_1 := cell_lt c1_1; have y1_1 := Nat.le_of_lt z1_1)
        | (go_at_call 27; refine (toDisk_any s n _).mono ?_; rintro e w5 ⟨rfl, hb5⟩; have c5_0 : w5.cell? ⟨w.heap.size, 0, none⟩ = some (.string s) := keep_cell hb5 (by go_simp); have z5_0 := cell_lt c5_0; have y5_0 := Nat.le_of_lt z5_0; have n5_0 := Nat.ne_of_lt z5_0; have m5_0 := Nat.ne_of_gt z5_0; have c5_1 : w5.cell? ⟨w.heap.size, 1, none⟩ = some (.int .i64 n) := keep_cell hb5 (by go_simp); have z5_1 := cell_lt c5_1; have y5_1 := Nat.le_of_lt z5_1; have c5_2 : w5.cell? ⟨w3.heap.size, 0, none⟩ = some (.string (apB s r n)) := keep_cell hb5 (by go_simp); have z5_2 := cell_lt c5_2; have y5_2 := Nat.le_of_lt z5_2; have c5_3 : w5.cell? ⟨w3.heap.size, 1, none⟩ = some (.int .i64 (apN s r n)) := keep_cell hb5 (by go_simp); have z5_3 := cell_lt c5_3; have y5_3 := Nat.le_of_lt z5_3)
        | (go_at_call 27; refine (toDisk_any s n _).mono ?_; rintro e w2 ⟨rfl, hb2⟩; have c2_0 : w2.cell? ⟨w.heap.size, 0, none⟩ = some (.string s) := keep_cell hb2 (by go_simp); have z2_0 := cell_lt c2_0; have y2_0 := Nat.le_of_lt z2_0; have n2_0 := Nat.ne_of_lt z2_0; have m2_0 := Nat.ne_of_gt z2_0; have c2_1 : w2.cell? ⟨w.heap.size, 1, none⟩ = some (.int .i64 n) := keep_cell hb2 (by go_simp); have z2_1 := cell_lt c2_1; have y2_1 := Nat.le_of_lt z2_1)
        | (go_at_call 35; refine (specLogAppend_any s r n _ HS.out h).mono ?_; rintro e w3 ⟨rfl, hb3⟩; have c3_0 : w3.cell? ⟨w.heap.size, 0, none⟩ = some (.string s) := keep_cell hb3 (by go_simp); have z3_0 := cell_lt c3_0; have y3_0 := Nat.le_of_lt z3_0; have n3_0 := Nat.ne_of_lt z3_0; have m3_0 := Nat.ne_of_gt z3_0; have c3_1 : w3.cell? ⟨w.heap.size, 1, none⟩ = some (.int .i64 n) := keep_cell hb3 (by go_simp); have z3_1 := cell_lt c3_1; have y3_1 := Nat.le_of_lt z3_1)
        | (go_at_call 36; refine (implLogAppend_any s r n _ HS.out h).mono ?_; rintro e w4 ⟨rfl, hb4⟩; have c4_0 : w4.cell? ⟨w3.heap.size, 0, none⟩ = some (.string (apB s r n)) := keep_cell hb4 (by go_simp); have z4_0 := cell_lt c4_0; have y4_0 := Nat.le_of_lt z4_0; have n4_0 := Nat.ne_of_lt z4_0; have m4_0 := Nat.ne_of_gt z4_0; have c4_1 : w4.cell? ⟨w3.heap.size, 1, none⟩ = some (.int .i64 (apN s r n)) := keep_cell hb4 (by go_simp); have z4_1 := cell_lt c4_1; have y4_1 := Nat.le_of_lt z4_1)
        | (go_at_call 33; refine (eqDisk_same _ _ _).mono ?_; rintro e w6 ⟨rfl, hb6⟩))
      go_ret
      exact ⟨rfl, by repeat (first | exact Below.refl _ _ | apply alloc_below | refine step_below ?_ (by assumption))⟩
    · go_enter Try.func8, Try.ntmps8
      go_wp2_with (go_at_call 25; refine (szDisk_no s n 1048576 _ hs (by omega) (by omega) (by omega)).mono ?_; rintro e w1 ⟨rfl, hb1⟩)
      go_ret
      exact ⟨rfl, by repeat (first | exact Below.refl _ _ | apply alloc_below | refine step_below ?_ (by assumption))⟩
  · go_enter Try.func8, Try.ntmps8
    go_wp2_with fail
    go_ret
    exact ⟨rfl, by repeat (first | exact Below.refl _ _ | apply alloc_below | refine step_below ?_ (by assumption))⟩

set_option maxRecDepth 100000 in
theorem exactLogAppend_lifted (os : Os) (started : os.Started) (H : Type) (enc : TypeId × Value → H) :
    ReturnsInHanded {} Try.checked os 8 .any (Rows.fnExactLogAppendSpec.pre6 enc Try.prog Try.f8 Rows.fnExactLogAppendRow.domain false) (Rows.fnExactLogAppendSpec.post enc Try.prog Try.f8 false true false false) := by
  have e0 : Rows.fnExactLogAppendRow.domain = [] := rfl
  rw [e0]
  refine lifted_of (C := Try.checked) Try.facts started (by kernel_rfl) Try.func8 rfl ?_ (tb := 4) (by kernel_rfl) Try.underlying4 (by kernel_rfl)
    (ChangeSpec.witness6 (enc := enc) (C := Try.checked) false ⟨#[], #[.agg #[.string ByteArray.empty,.int .i64 0], .string ByteArray.empty], []⟩ 8 (by kernel_rfl) (by kernel_rfl) (by kernel_rfl) (by kernel_rfl)) ?_
  · intro ds hds
    match ds, hds with
    | [_, _], _ => rfl
  intro W base args ds p hval0 hA0
  have hval : ∀ (j : Nat) t v, Try.f8.params[j]? = some t → args[j]? = some v → Value.okWide Try.prog W .any base t v := hval0
  have hA : DataW.TrodAll enc Try.prog W 0 (fun _ => true) true Try.f8.params.toList args.toList ds p := hA0
  clear hA0 hval0
  show Calls Try.prog 8 args W _
  rw [Try.params8] at hA hval
  obtain ⟨v0, v1, d0, d1, p0, p1, hargs, rfl, rfl, h0, h1⟩ := trodAll_two hA
  obtain rfl : args = #[v0, v1] := by cases args; simp_all
  obtain ⟨s, n, rfl, hs, hn⟩ := open_disk (hval 0 24 v0 rfl rfl) h0
  obtain ⟨r, rfl, _, _, hr⟩ := open_string Try.underlying9 (hval 1 9 v1 rfl rfl) h1
  exact exactLogAppend_any s r n W hs hr

theorem exactLogAppend_pkg : ¬ Check.packageOf Try.f8.name = "main" := by
  intro h
  have h2 := congrArg String.toList h
  simp only [Check.packageOf, Try.f8] at h2
  simp at h2

theorem exactLogAppend_closed : lawFacts Try.prog 8 Try.f8 Rows.fnExactLogAppendSpec Rows.fnExactLogAppendRow = true := by kernel_rfl
theorem exactLogAppend_facts : joinedFacts Try.pinned.checked.prog 8 Try.f8 Rows.fnExactLogAppendSpec Rows.fnExactLogAppendRow = true := facts_of (P := Try.prog) Try.facts exactLogAppend_closed

theorem exactLogAppend_wrap : Func.isWrapper Try.pinned.checked.prog Try.f8 Rows.fnExactLogAppendRow.wrapper Rows.fnExactLogAppendRow.mainSum := by
  have e1 : Rows.fnExactLogAppendRow.wrapper = false := rfl
  have e2 : Rows.fnExactLogAppendRow.mainSum = "" := rfl
  rw [e1, e2]
  exact wrapper_of Try.pinned.checked.prog Try.f8 exactLogAppend_pkg

/-- The statement. -/
theorem exactLogAppend_over : Rows.fnExactLogAppendRow.holds Try.pinned (OpenSpec.ofChange Rows.fnExactLogAppendSpec) :=
  OpenClaim.holds_of_wide 8 Try.f8 rfl rfl rfl rfl rfl rfl rfl ⟨rfl, rfl, rfl, rfl, rfl⟩ rfl rfl rfl rfl rfl (by kernel_rfl) Try.func8 exactLogAppend_facts
    (of_decide_eq_true (by kernel_rfl)) exactLogAppend_wrap
    (fun os started H enc _ => exactLogAppend_lifted os started H enc)
theorem exactLogAppend_holds : Rows.FnExactLogAppendSaid := exactLogAppend_over
#print axioms exactLogAppend_holds

end Go.Proofs.Ytklgkfknifkbaaa
