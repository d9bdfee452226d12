/- The program's DiskValid returns what the reference's returns, for all disks: the law FnExactDiskValid returns true. No conditions. -/
import Derived.Test.YtklgkfknifkbaaaDisk
namespace Go.Proofs.Ytklgkfknifkbaaa
open Go.ChangeShapes Go.WideShapes Go.ChangeAt Go.RowKit Go.Joins
open Go.ChangeMaps (open_string shut_string)

set_option maxHeartbeats 400000 in
theorem exactDiskValid_any (s : ByteArray) (n : Int) (w : World) (hs : s.size ≤ maxLen) :
    Calls Try.prog 4 #[.agg #[.string s, .int .i64 n]] w fun e w' => e = .returned (.bool true) ∧ Below w.heap.size w w' := by
  by_cases h : s.size ≤ 1048576
  · go_enter Try.func4, Try.ntmps4
    go_wp2_with (first
      | (go_at_call 25; refine (szDisk_yes s n 1048576 _ hs (by omega) (by omega) (by omega)).mono ?_; rintro e w1 ⟨rfl, hb1⟩; have c1_0 : w1.cell? ⟨w.heap.size, 0, none⟩ = some (.string s) := keep_cell hb1 (by go_simp); have z1_0 := cell_lt c1_0; have y1_0 := Nat.le_of_lt z1_0; have c1_1 : w1.cell? ⟨w.heap.size, 1, none⟩ = some (.int .i64 n) := keep_cell hb1 (by go_simp); have z1_1 := cell_lt c1_1; have y1_1 := Nat.le_of_lt z1_1)
      | (go_at_call 27; refine (toDisk_any s n _).mono ?_; rintro e w2 ⟨rfl, hb2⟩; have c2_0 : w2.cell? ⟨w.heap.size, 0, none⟩ = some (.string s) := keep_cell hb2 (by go_simp); have z2_0 := cell_lt c2_0; have y2_0 := Nat.le_of_lt z2_0; have c2_1 : w2.cell? ⟨w.heap.size, 1, none⟩ = some (.int .i64 n) := keep_cell hb2 (by go_simp); have z2_1 := cell_lt c2_1; have y2_1 := Nat.le_of_lt z2_1)
      | (go_at_call 26; refine (specDiskValid_any s n _ hs).mono ?_; rintro e w3 ⟨rfl, hb3⟩; have c3_0 : w3.cell? ⟨w.heap.size, 0, none⟩ = some (.string s) := keep_cell hb3 (by go_simp); have z3_0 := cell_lt c3_0; have y3_0 := Nat.le_of_lt z3_0; have c3_1 : w3.cell? ⟨w.heap.size, 1, none⟩ = some (.int .i64 n) := keep_cell hb3 (by go_simp); have z3_1 := cell_lt c3_1; have y3_1 := Nat.le_of_lt z3_1)
      | (go_at_call 28; refine (implDiskValid_any s n _ hs).mono ?_; rintro e w4 ⟨rfl, hb4⟩))
    go_ret
    exact ⟨rfl, by repeat (first | exact Below.refl _ _ | apply alloc_below | refine step_below ?_ (by assumption))⟩
  · go_enter Try.func4, Try.ntmps4
    go_wp2_with (go_at_call 25; refine (szDisk_no s n 1048576 _ hs (by omega) (by omega) (by omega)).mono ?_; rintro e w1 ⟨rfl, hb1⟩)
    go_ret
    exact ⟨rfl, by repeat (first | exact Below.refl _ _ | apply alloc_below | refine step_below ?_ (by assumption))⟩

set_option maxRecDepth 100000 in
theorem exactDiskValid_lifted (os : Os) (started : os.Started) (H : Type) (enc : TypeId × Value → H) :
    ReturnsInHanded {} Try.checked os 4 .any (Rows.fnExactDiskValidSpec.pre6 enc Try.prog Try.f4 Rows.fnExactDiskValidRow.domain false) (Rows.fnExactDiskValidSpec.post enc Try.prog Try.f4 false true false false) := by
  have e0 : Rows.fnExactDiskValidRow.domain = [] := rfl
  rw [e0]
  refine lifted_of (C := Try.checked) Try.facts started (by kernel_rfl) Try.func4 rfl ?_ (tb := 4) (by kernel_rfl) Try.underlying4 (by kernel_rfl)
    (ChangeSpec.witness6 (enc := enc) (C := Try.checked) false ⟨#[], #[.agg #[.string ByteArray.empty,.int .i64 0]], []⟩ 8 (by kernel_rfl) (by kernel_rfl) (by kernel_rfl) (by kernel_rfl)) ?_
  · intro ds hds
    match ds, hds with
    | [_], _ => rfl
  intro W base args ds p hval0 hA0
  have hval : ∀ (j : Nat) t v, Try.f4.params[j]? = some t → args[j]? = some v → Value.okWide Try.prog W .any base t v := hval0
  have hA : DataW.TrodAll enc Try.prog W 0 (fun _ => true) true Try.f4.params.toList args.toList ds p := hA0
  clear hA0 hval0
  show Calls Try.prog 4 args W _
  rw [Try.params4] at hA hval
  obtain ⟨v0, d0, hargs, rfl, h0⟩ := trodAll_one hA
  obtain rfl : args = #[v0] := by cases args; simp_all
  obtain ⟨s, n, rfl, hs, hn⟩ := open_disk (hval 0 24 v0 rfl rfl) h0
  exact exactDiskValid_any s n W hs

theorem exactDiskValid_pkg : ¬ Check.packageOf Try.f4.name = "main" := by
  intro h
  have h2 := congrArg String.toList h
  simp only [Check.packageOf, Try.f4] at h2
  simp at h2

theorem exactDiskValid_closed : lawFacts Try.prog 4 Try.f4 Rows.fnExactDiskValidSpec Rows.fnExactDiskValidRow = true := by kernel_rfl
theorem exactDiskValid_facts : joinedFacts Try.pinned.checked.prog 4 Try.f4 Rows.fnExactDiskValidSpec Rows.fnExactDiskValidRow = true := facts_of (P := Try.prog) Try.facts exactDiskValid_closed

theorem exactDiskValid_wrap : Func.isWrapper Try.pinned.checked.prog Try.f4 Rows.fnExactDiskValidRow.wrapper Rows.fnExactDiskValidRow.mainSum := by
  have e1 : Rows.fnExactDiskValidRow.wrapper = false := rfl
  have e2 : Rows.fnExactDiskValidRow.mainSum = "" := rfl
  rw [e1, e2]
  exact wrapper_of Try.pinned.checked.prog Try.f4 exactDiskValid_pkg

/-- The statement. -/
theorem exactDiskValid_over : Rows.fnExactDiskValidRow.holds Try.pinned (OpenSpec.ofChange Rows.fnExactDiskValidSpec) :=
  OpenClaim.holds_of_wide 4 Try.f4 rfl rfl rfl rfl rfl rfl rfl ⟨rfl, rfl, rfl, rfl, rfl⟩ rfl rfl rfl rfl rfl (by kernel_rfl) Try.func4 exactDiskValid_facts
    (of_decide_eq_true (by kernel_rfl)) exactDiskValid_wrap
    (fun os started H enc _ => exactDiskValid_lifted os started H enc)
theorem exactDiskValid_holds : Rows.FnExactDiskValidSaid := exactDiskValid_over
#print axioms exactDiskValid_holds

end Go.Proofs.Ytklgkfknifkbaaa
