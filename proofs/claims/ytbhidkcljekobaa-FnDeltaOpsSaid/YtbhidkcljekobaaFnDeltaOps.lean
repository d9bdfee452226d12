/- A delta has few operations: the law FnDeltaOps returns true. No conditions. -/
import Derived.Test.YtbhidkcljekobaaDelC
import Derived.Test.YtbhidkcljekobaaOpenC
import Derived.Test.YtbhidkcljekobaaDoorD
namespace Go.Proofs.Ytbhidkcljekobaa
open Go.ChangeShapes Go.WideShapes Go.ChangeAt Go.RowKit
set_option linter.unusedVariables false
set_option linter.unusedSimpArgs false


section
variable {b t : List UInt8}
theorem mkD_len : ∀ (f : Nat) (t : List UInt8) (acc : List Op3), (mkD b f t acc).length ≤ acc.length + t.length
  | 0, t, acc => by show acc.length ≤ _; omega
  | f + 1, t, acc => by
    unfold mkD
    by_cases ht : t = []
    · rw [if_pos ht]; omega
    · rw [if_neg ht]
      have ih := mkD_len f (t.drop (mkLen b t)) (mkStep b t acc)
      have hm : 1 ≤ mkLen b t := by unfold mkLen; split <;> omega
      have hs : (mkStep b t acc).length ≤ acc.length + 1 := by unfold mkStep; split; simp; split <;> simp
      have h0 := List.length_pos_iff.2 ht
      rw [List.length_drop] at ih
      omega
theorem makeD_len : ((makeD b t).length : Int) ≤ 8 ∧ ((makeD b t).length : Int) ≤ t.length := by
  by_cases h : (b.length : Int) ≤ 8 ∧ (t.length : Int) ≤ 8
  · rw [makeD_ok h]
    have := mkD_len (b := b) t.length t []
    simp at this
    omega
  · rw [makeD_bad h]; simp
end
set_option maxRecDepth 100000 in
/-- laws.FnDeltaOps -/
theorem deltaOps_ok (A : Option Addr) (cn : Nat) (cc : Nat) (m0 : Int) (w0 : World) (hC : CodeIn w0 A cn cc) (hl_0 : 0 < w0.heap.size) (hm_0_0 : w0.cell? ⟨0, 0, none⟩ = some (.int .i64 (m0))) :
    Calls Try.prog 8 #[.slice A cn cc] w0 fun e w => e = .returned (.bool true) ∧ Own w0 [] [] w := by
  have O := Own.start w0
  have hcc : (cn : Int) ≤ cc := by have := hC.1; omega
  have hcm : (cc : Int) ≤ 9223372036854775807 := by have := hC.2.1; unfold maxLen at this; omega
  refine enterO (n := 38) Try.func8 rfl rfl rfl O fun a w F O => ?_
  refine c_seq fun K1 hK1 => c_region (sp F (p_assign rfl) rfl rfl fun a F => c_nil (hK1 _ _ (?_)))
  try clear hK1 K1
  refine c_seq fun K2 hK2 => c_seq fun K3 hK3 => c_region (sp F (p_move rfl) rfl rfl fun a F => sp F (p_len_l rfl Try.underlying22) rfl rfl fun a F => sp F (p_gtr rfl rfl) rfl rfl fun a F => c_nil (hK3 _ _ (?_)))
  try clear hK3 K3
  by_cases c9 : 1048576 < (cn : Int)
  · have F := F.setB (d := 9) rfl (decide_eq_true c9)
    refine c_ift F rfl (c_seq fun K4 hK4 => c_region (sp F (p_assign rfl) rfl rfl fun a F => c_nil (hK4 _ _ (?_))))
    try clear hK4 K4
    refine wp_ret (r_then (ret1 F rfl rfl (?_)))
    exact ⟨rfl, O⟩
  · have F := F.setB (d := 9) rfl (decide_eq_false c9)
    refine c_iff F rfl (wp_skip (hK2 _ _ (?_)))
    try clear hK2 K2
    refine c_seq fun K4 hK4 => c_region (sp F (p_move rfl) rfl rfl fun a F => so F rfl (o_call (vs := #[.slice A cn cc]) F Try.en_23 rfl rfl ((dDeltaMake_ok A cn cc w (hC.keep O)).mono ?_)))
    rintro e w ⟨L12, M12, rfl, h12a, h12b, K⟩
    refine ⟨_, rfl, fun a F => ?_⟩
    have O : Own w0 [] [] w := O.call0 K
    clear K
    have O : Own w0 [] [] w := O
    refine sp F (p_move rfl) rfl rfl fun a F => sp F (p_extract rfl rfl) rfl rfl fun a F => sp F (p_extract rfl rfl) rfl rfl fun a F => sp F (p_assign rfl) rfl rfl fun a F => sp F (p_assign rfl) rfl rfl fun a F => c_nil (hK4 _ _ (?_))
    try clear hK4 K4
    refine c_seq fun K5 hK5 => c_region (sp F (p_move rfl) rfl rfl fun a F => sp F (p_move rfl) rfl rfl fun a F => so F rfl (o_call (vs := #[.string (bs (L12)), .string (bs (M12))]) F Try.en_24 rfl rfl ((iDeltaMake_ok L12 M12 m0 w (by omega) (by omega) (Nat.lt_of_lt_of_le hl_0 O.size) (((O.old hl_0 (by simp)).trans hm_0_0))).mono ?_)))
    rintro e w ⟨P17, N17, C17, rfl, h17a, h17b, K⟩
    refine ⟨_, rfl, fun a F => ?_⟩
    have O : Own w0 [] [.row 43 3 (.slice P17 N17 C17) N17 ((makeD L12 M12).flatMap encOp)] w := O.call0 K
    clear K
    have O : Own w0 [] [.row 43 3 (.slice P17 N17 C17) N17 ((makeD L12 M12).flatMap encOp)] w := O
    refine sp F (p_assign rfl) rfl rfl fun a F => c_nil (hK5 _ _ (?_))
    try clear hK5 K5
    refine c_seq fun K6 hK6 => c_region (sp F (p_move rfl) rfl rfl fun a F => sp F (p_move rfl) rfl rfl fun a F => so F rfl (o_call (vs := #[.string (bs (L12)), .string (bs (M12))]) F Try.en_25 rfl rfl ((sDeltaMake_ok L12 M12 w (by omega) (by omega)).mono ?_)))
    rintro e w ⟨P20, N20, C20, rfl, h20a, h20b, K⟩
    refine ⟨_, rfl, fun a F => ?_⟩
    have O : Own w0 [] [.row 43 3 (.slice P20 N20 C20) N20 ((makeD L12 M12).flatMap encOp), .row 43 3 (.slice P17 N17 C17) N17 ((makeD L12 M12).flatMap encOp)] w := O.call0 K
    clear K
    have O : Own w0 [] [.row 43 3 (.slice P20 N20 C20) N20 ((makeD L12 M12).flatMap encOp), .row 43 3 (.slice P17 N17 C17) N17 ((makeD L12 M12).flatMap encOp)] w := O
    refine sp F (p_assign rfl) rfl rfl fun a F => c_nil (hK6 _ _ (?_))
    try clear hK6 K6
    refine c_seq fun K7 hK7 => c_seq fun K8 hK8 => c_region (sp F (p_move rfl) rfl rfl fun a F => sp F (p_move rfl) rfl rfl fun a F => so F rfl (o_call (vs := #[.slice P17 N17 C17, .slice P20 N20 C20]) F Try.en_26 rfl rfl ((sameOps_ok P17 N17 C17 (makeD L12 M12) P20 N20 C20 (makeD L12 M12) w (O.arr 1 (es := makeD L12 M12) rfl encOp_len (by decide)) (by first | omega | (simp; done) | (simp; omega) | (simp at *; omega)) (by omega) (O.arr 0 (es := makeD L12 M12) rfl encOp_len (by decide)) (by first | omega | (simp; done) | (simp; omega) | (simp at *; omega)) (by omega)).mono ?_)))
    rintro e w ⟨rfl, K⟩
    refine ⟨_, rfl, fun a F => ?_⟩
    have O : Own w0 [] [.row 43 3 (.slice P20 N20 C20) N20 ((makeD L12 M12).flatMap encOp), .row 43 3 (.slice P17 N17 C17) N17 ((makeD L12 M12).flatMap encOp)] w := O.call0 K
    clear K
    have c23 : (makeD L12 M12) = (makeD L12 M12) := by rfl
    have F := F.setB (d := 23) rfl (decide_eq_true c23)
    have O : Own w0 [] [.row 43 3 (.slice P20 N20 C20) N20 ((makeD L12 M12).flatMap encOp), .row 43 3 (.slice P17 N17 C17) N17 ((makeD L12 M12).flatMap encOp)] w := O
    refine sp F (p_not rfl) rfl rfl fun a F => c_nil (hK8 _ _ (?_))
    try clear hK8 K8
    refine c_iff F rfl (wp_skip (hK7 _ _ (?_)))
    try clear hK7 K7
    refine c_seq fun K9 hK9 => c_region (sp F (p_move rfl) rfl rfl fun a F => sp F (p_len_l rfl Try.underlying23) rfl rfl fun a F => sp F (p_leq rfl rfl) rfl rfl fun a F => ?_)
    have c30 : (N17 : Int) ≤ 8 := by have h5 := makeD_len (b := L12) (t := M12); omega
    have F := F.setB (d := 30) rfl (decide_eq_true c30)
    refine sp F (p_move rfl) rfl rfl fun a F => sp F (p_move rfl) rfl rfl fun a F => sp F (p_len_l rfl Try.underlying23) rfl rfl fun a F => sp F (p_move rfl) rfl rfl fun a F => sp F (p_len_b rfl Try.underlying9) rfl rfl fun a F => sp F (p_leq rfl rfl) rfl rfl fun a F => ?_
    have c36 : (N17 : Int) ≤ (M12.length : Int) := by have h5 := makeD_len (b := L12) (t := M12); omega
    have F := F.setB (d := 36) rfl (decide_eq_true c36)
    refine sp F (p_pick (t := true) rfl rfl) rfl rfl fun a F => sp F (p_assign rfl) rfl rfl fun a F => c_nil (hK9 _ _ (?_))
    try clear hK9 K9
    refine wp_ret (ret1 F rfl rfl (?_))
    have O : Own w0 [] [] w := (O.take 0)
    exact ⟨rfl, O⟩

set_option maxRecDepth 100000 in
theorem deltaOps_lifted (os : Os) (started : os.Started) (H : Type) (enc : TypeId × Value → H) :
    ReturnsInHanded {} Try.checked os 8 .any (Rows.fnDeltaOpsSpec.pre6 enc Try.prog Try.f8 Rows.fnDeltaOpsRow.domain false) (Rows.fnDeltaOpsSpec.post enc Try.prog Try.f8 false true false false) := by
  have e0 : Rows.fnDeltaOpsRow.domain = [] := rfl
  rw [e0]
  refine lifted_shaped started (by kernel_rfl) Try.func8 rfl ?_ (by kernel_rfl) (by kernel_rfl)
    (ChangeSpec.witness6 (enc := enc) (C := Try.checked) false ⟨#[], #[.slice none 0 0], []⟩ 8 (by kernel_rfl) (by kernel_rfl) (by kernel_rfl) (by kernel_rfl)) ?_
  · intro ds hds
    match ds, hds with
    | [_], _ => rfl
  intro W base args ds p m0 hval0 hA0 hm hl
  have hval : ∀ (j : Nat) t v, Try.f8.params[j]? = some t → args[j]? = some v → Value.okWide Try.prog W .any base t v := hval0
  have hA : DataW.TrodAll enc Try.prog W 0 (fun _ => true) true Try.f8.params.toList args.toList ds p := hA0
  clear hA0 hval0
  show Calls Try.prog 8 args W _
  rw [Try.params8] at hA hval
  obtain ⟨v0, d0, hargs, rfl, h0⟩ := trodAll_one hA
  obtain rfl : args = #[v0] := by cases args; simp_all
  obtain ⟨a, n, c, rfl, hC⟩ := open_codeIn (hval 0 22 v0 rfl rfl) h0
  exact (deltaOps_ok a n c m0 W hC hl hm).mono fun e w' h => ⟨h.1, h.2.below⟩

theorem deltaOps_pkg : ¬ Check.packageOf Try.f8.name = "main" := by
  intro h
  have h2 := congrArg String.toList h
  simp only [Check.packageOf, Try.f8] at h2
  simp at h2

theorem deltaOps_closed : lawFacts Try.prog 8 Try.f8 Rows.fnDeltaOpsSpec Rows.fnDeltaOpsRow = true := by kernel_rfl
theorem deltaOps_facts : joinedFacts Try.pinned.checked.prog 8 Try.f8 Rows.fnDeltaOpsSpec Rows.fnDeltaOpsRow = true := facts_of (P := Try.prog) Try.facts deltaOps_closed

theorem deltaOps_wrap : Func.isWrapper Try.pinned.checked.prog Try.f8 Rows.fnDeltaOpsRow.wrapper Rows.fnDeltaOpsRow.mainSum := by
  have e1 : Rows.fnDeltaOpsRow.wrapper = false := rfl
  have e2 : Rows.fnDeltaOpsRow.mainSum = "" := rfl
  rw [e1, e2]
  exact wrapper_of Try.pinned.checked.prog Try.f8 deltaOps_pkg

/-- The statement. -/
theorem deltaOps_over : Rows.fnDeltaOpsRow.holds Try.pinned (OpenSpec.ofChange Rows.fnDeltaOpsSpec) :=
  OpenClaim.holds_of_wide 8 Try.f8 rfl rfl rfl rfl rfl rfl rfl ⟨rfl, rfl, rfl, rfl, rfl⟩ rfl rfl rfl rfl rfl (by kernel_rfl) Try.func8 deltaOps_facts
    (of_decide_eq_true (by kernel_rfl)) deltaOps_wrap
    (fun os started H enc _ => deltaOps_lifted os started H enc)
theorem deltaOps_holds : Rows.FnDeltaOpsSaid := deltaOps_over
#print axioms deltaOps_holds

end Go.Proofs.Ytbhidkcljekobaa
