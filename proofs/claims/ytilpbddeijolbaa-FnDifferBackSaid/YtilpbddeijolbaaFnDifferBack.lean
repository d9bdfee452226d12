/- Differences have a direction: the law FnDifferBack returns true. No conditions. -/
import Derived.Test.YtilpbddeijolbaaRefE
import Derived.Test.YtilpbddeijolbaaRefL
import Derived.Test.YtilpbddeijolbaaOpenC
namespace Go.Proofs.Ytilpbddeijolbaa
open Go.ChangeShapes Go.WideShapes Go.ChangeAt Go.RowKit
set_option linter.unusedVariables false
set_option linter.unusedSimpArgs false

set_option maxRecDepth 100000 in
/-- laws.FnDifferBack -/
theorem differBack_ok (A : Option Addr) (cn : Nat) (cc : Nat) (w0 : World) (hC : CodeIn w0 A cn cc) :
    Calls Try.prog 12 #[.slice A cn cc] w0 fun e w => e = .returned (.bool true) ∧ Own w0 [] [] w := by
  have O := Own.start w0
  have hcc : (cn : Int) ≤ cc := by have := hC.1; omega
  have hcm : (cc : Int) ≤ 9223372036854775807 := by have := hC.2.1; unfold maxLen at this; omega
  refine enterO (n := 34) Try.func12 rfl rfl rfl O fun a w F O => ?_
  refine c_seq fun K1 hK1 => c_region (sp F (p_assign rfl) rfl rfl fun a F => c_nil (hK1 _ _ (?_)))
  try clear hK1 K1
  refine c_seq fun K2 hK2 => c_seq fun K3 hK3 => c_region (sp F (p_move rfl) rfl rfl fun a F => sp F (p_len_l rfl Try.underlying26) rfl rfl fun a F => sp F (p_gtr rfl rfl) rfl rfl fun a F => c_nil (hK3 _ _ (?_)))
  try clear hK3 K3
  by_cases c9 : 1048576 < (cn : Int)
  · have F := F.setB (d := 9) rfl (decide_eq_true c9)
    refine c_ift F rfl (c_seq fun K4 hK4 => c_region (sp F (p_assign rfl) rfl rfl fun a F => c_nil (hK4 _ _ (?_))))
    try clear hK4 K4
    refine wp_ret (r_then (ret1 F rfl rfl (?_)))
    exact ⟨rfl, O⟩
  · have F := F.setB (d := 9) rfl (decide_eq_false c9)
    refine c_iff F rfl (wp_skip (hK2 _ _ (?_)))
    try clear hK2 K2
    refine c_seq fun K4 hK4 => c_region (sp F (p_move rfl) rfl rfl fun a F => so F rfl (o_call (vs := #[.slice A cn cc]) F Try.en_40 rfl rfl ((dRefsDiffer_ok A cn cc w (hC.keep O)).mono ?_)))
    rintro e w ⟨b12, N12, C12, es12, P212, N212, C212, es212, rfl, h12a, h12b, h12c, h12d, K⟩
    refine ⟨_, rfl, fun a F => ?_⟩
    have O : Own w0 [] [.row 3 1 (.slice (some ⟨b12, 0, none⟩) N12 C12) N12 (es12.flatMap encInt), .row 3 1 (.slice P212 N212 C212) N212 (es212.flatMap encInt)] w := O.call0 K
    clear K
    have O : Own w0 [] [.row 3 1 (.slice (some ⟨b12, 0, none⟩) N12 C12) N12 (es12.flatMap encInt), .row 3 1 (.slice P212 N212 C212) N212 (es212.flatMap encInt)] w := O
    refine sp F (p_move rfl) rfl rfl fun a F => sp F (p_extract rfl rfl) rfl rfl fun a F => sp F (p_extract rfl rfl) rfl rfl fun a F => sp F (p_assign rfl) rfl rfl fun a F => sp F (p_assign rfl) rfl rfl fun a F => c_nil (hK4 _ _ (?_))
    try clear hK4 K4
    refine c_seq fun K5 hK5 => c_region (sp F (p_move rfl) rfl rfl fun a F => sp F (p_move rfl) rfl rfl fun a F => so F rfl (o_call (vs := #[.slice (some ⟨b12, 0, none⟩) N12 C12, .slice P212 N212 C212]) F Try.en_41 rfl rfl ((iRefsDiffer_ok (some ⟨b12, 0, none⟩) N12 C12 es12 P212 N212 C212 es212 w (O.arr 0 (es := es12) rfl encInt_len (by decide)) (by first | omega | (simp; done) | (simp; omega) | (simp at *; omega)) (by omega) (O.arr 1 (es := es212) rfl encInt_len (by decide)) (by first | omega | (simp; done) | (simp; omega) | (simp at *; omega)) (by omega)).mono ?_)))
    rintro e w ⟨P17, N17, C17, rfl, h17a, h17b, K⟩
    refine ⟨_, rfl, fun a F => ?_⟩
    have O : Own w0 [] [.row 51 3 (.slice P17 N17 C17) N17 ((RD es12 es212).flatMap encUp), .row 3 1 (.slice (some ⟨b12, 0, none⟩) N12 C12) N12 (es12.flatMap encInt), .row 3 1 (.slice P212 N212 C212) N212 (es212.flatMap encInt)] w := O.call0 K
    clear K
    have O : Own w0 [] [.row 51 3 (.slice P17 N17 C17) N17 ((RD es12 es212).flatMap encUp), .row 3 1 (.slice (some ⟨b12, 0, none⟩) N12 C12) N12 (es12.flatMap encInt), .row 3 1 (.slice P212 N212 C212) N212 (es212.flatMap encInt)] w := O
    refine sp F (p_assign rfl) rfl rfl fun a F => c_nil (hK5 _ _ (?_))
    try clear hK5 K5
    refine c_seq fun K6 hK6 => c_region (sp F (p_move rfl) rfl rfl fun a F => sp F (p_move rfl) rfl rfl fun a F => so F rfl (o_call (vs := #[.slice (some ⟨b12, 0, none⟩) N12 C12, .slice P212 N212 C212]) F Try.en_42 rfl rfl ((sRefsDiffer_ok (some ⟨b12, 0, none⟩) N12 C12 es12 P212 N212 C212 es212 w (O.arr 1 (es := es12) rfl encInt_len (by decide)) (by first | omega | (simp; done) | (simp; omega) | (simp at *; omega)) (by omega) (O.arr 2 (es := es212) rfl encInt_len (by decide)) (by first | omega | (simp; done) | (simp; omega) | (simp at *; omega)) (by omega)).mono ?_)))
    rintro e w ⟨P20, N20, C20, rfl, h20a, h20b, K⟩
    refine ⟨_, rfl, fun a F => ?_⟩
    have O : Own w0 [] [.row 51 3 (.slice P20 N20 C20) N20 ((RD es12 es212).flatMap encUp), .row 51 3 (.slice P17 N17 C17) N17 ((RD es12 es212).flatMap encUp), .row 3 1 (.slice (some ⟨b12, 0, none⟩) N12 C12) N12 (es12.flatMap encInt), .row 3 1 (.slice P212 N212 C212) N212 (es212.flatMap encInt)] w := O.call0 K
    clear K
    have O : Own w0 [] [.row 51 3 (.slice P20 N20 C20) N20 ((RD es12 es212).flatMap encUp), .row 51 3 (.slice P17 N17 C17) N17 ((RD es12 es212).flatMap encUp), .row 3 1 (.slice (some ⟨b12, 0, none⟩) N12 C12) N12 (es12.flatMap encInt), .row 3 1 (.slice P212 N212 C212) N212 (es212.flatMap encInt)] w := O
    refine sp F (p_assign rfl) rfl rfl fun a F => c_nil (hK6 _ _ (?_))
    try clear hK6 K6
    refine c_seq fun K7 hK7 => c_seq fun K8 hK8 => c_region (sp F (p_move rfl) rfl rfl fun a F => sp F (p_move rfl) rfl rfl fun a F => so F rfl (o_call (vs := #[.slice P17 N17 C17, .slice P20 N20 C20]) F Try.en_43 rfl rfl ((sameUpdates_ok P17 N17 C17 (RD es12 es212) P20 N20 C20 (RD es12 es212) w (O.arr 1 (es := RD es12 es212) rfl encUp_len (by decide)) (by first | omega | (simp; done) | (simp; omega) | (simp at *; omega)) (by omega) (O.arr 0 (es := RD es12 es212) rfl encUp_len (by decide)) (by first | omega | (simp; done) | (simp; omega) | (simp at *; omega)) (by omega)).mono ?_)))
    rintro e w ⟨rfl, K⟩
    refine ⟨_, rfl, fun a F => ?_⟩
    have O : Own w0 [] [.row 51 3 (.slice P20 N20 C20) N20 ((RD es12 es212).flatMap encUp), .row 51 3 (.slice P17 N17 C17) N17 ((RD es12 es212).flatMap encUp), .row 3 1 (.slice (some ⟨b12, 0, none⟩) N12 C12) N12 (es12.flatMap encInt), .row 3 1 (.slice P212 N212 C212) N212 (es212.flatMap encInt)] w := O.call0 K
    clear K
    have c23 : (RD es12 es212) = (RD es12 es212) := by rfl
    have F := F.setB (d := 23) rfl (decide_eq_true c23)
    have O : Own w0 [] [.row 51 3 (.slice P20 N20 C20) N20 ((RD es12 es212).flatMap encUp), .row 51 3 (.slice P17 N17 C17) N17 ((RD es12 es212).flatMap encUp), .row 3 1 (.slice (some ⟨b12, 0, none⟩) N12 C12) N12 (es12.flatMap encInt), .row 3 1 (.slice P212 N212 C212) N212 (es212.flatMap encInt)] w := O
    refine sp F (p_not rfl) rfl rfl fun a F => c_nil (hK8 _ _ (?_))
    try clear hK8 K8
    refine c_iff F rfl (wp_skip (hK7 _ _ (?_)))
    try clear hK7 K7
    refine c_seq fun K9 hK9 => c_region (sp F (p_move rfl) rfl rfl fun a F => sp F (p_move rfl) rfl rfl fun a F => so F rfl (o_call (vs := #[.slice P212 N212 C212, .slice (some ⟨b12, 0, none⟩) N12 C12]) F Try.en_41 rfl rfl ((iRefsDiffer_ok P212 N212 C212 es212 (some ⟨b12, 0, none⟩) N12 C12 es12 w (O.arr 3 (es := es212) rfl encInt_len (by decide)) (by first | omega | (simp; done) | (simp; omega) | (simp at *; omega)) (by omega) (O.arr 2 (es := es12) rfl encInt_len (by decide)) (by first | omega | (simp; done) | (simp; omega) | (simp at *; omega)) (by omega)).mono ?_)))
    rintro e w ⟨P30, N30, C30, rfl, h30a, h30b, K⟩
    refine ⟨_, rfl, fun a F => ?_⟩
    have O : Own w0 [] [.row 51 3 (.slice P30 N30 C30) N30 ((RD es212 es12).flatMap encUp), .row 51 3 (.slice P20 N20 C20) N20 ((RD es12 es212).flatMap encUp), .row 51 3 (.slice P17 N17 C17) N17 ((RD es12 es212).flatMap encUp), .row 3 1 (.slice (some ⟨b12, 0, none⟩) N12 C12) N12 (es12.flatMap encInt), .row 3 1 (.slice P212 N212 C212) N212 (es212.flatMap encInt)] w := O.call0 K
    clear K
    have O : Own w0 [] [.row 51 3 (.slice P30 N30 C30) N30 ((RD es212 es12).flatMap encUp), .row 51 3 (.slice P20 N20 C20) N20 ((RD es12 es212).flatMap encUp), .row 51 3 (.slice P17 N17 C17) N17 ((RD es12 es212).flatMap encUp), .row 3 1 (.slice (some ⟨b12, 0, none⟩) N12 C12) N12 (es12.flatMap encInt), .row 3 1 (.slice P212 N212 C212) N212 (es212.flatMap encInt)] w := O
    refine sp F (p_move rfl) rfl rfl fun a F => so F rfl (o_call (vs := #[.slice P17 N17 C17]) F Try.en_44 rfl rfl ((inverse_ok P17 N17 C17 (RD es12 es212) w (O.arr 2 (es := RD es12 es212) rfl encUp_len (by decide)) (by first | omega | (simp; done) | (simp; omega) | (simp at *; omega)) (by omega)).mono ?_))
    rintro e w ⟨P32, N32, C32, rfl, h32a, h32b, K⟩
    refine ⟨_, rfl, fun a F => ?_⟩
    have O : Own w0 [] [.row 51 3 (.slice P32 N32 C32) N32 ((invU (RD es12 es212)).flatMap encUp), .row 51 3 (.slice P30 N30 C30) N30 ((RD es212 es12).flatMap encUp), .row 51 3 (.slice P20 N20 C20) N20 ((RD es12 es212).flatMap encUp), .row 51 3 (.slice P17 N17 C17) N17 ((RD es12 es212).flatMap encUp), .row 3 1 (.slice (some ⟨b12, 0, none⟩) N12 C12) N12 (es12.flatMap encInt), .row 3 1 (.slice P212 N212 C212) N212 (es212.flatMap encInt)] w := O.call0 K
    clear K
    have O : Own w0 [] [.row 51 3 (.slice P32 N32 C32) N32 ((invU (RD es12 es212)).flatMap encUp), .row 51 3 (.slice P30 N30 C30) N30 ((RD es212 es12).flatMap encUp), .row 51 3 (.slice P20 N20 C20) N20 ((RD es12 es212).flatMap encUp), .row 51 3 (.slice P17 N17 C17) N17 ((RD es12 es212).flatMap encUp), .row 3 1 (.slice (some ⟨b12, 0, none⟩) N12 C12) N12 (es12.flatMap encInt), .row 3 1 (.slice P212 N212 C212) N212 (es212.flatMap encInt)] w := O
    refine so F rfl (o_call (vs := #[.slice P30 N30 C30, .slice P32 N32 C32]) F Try.en_43 rfl rfl ((sameUpdates_ok P30 N30 C30 (RD es212 es12) P32 N32 C32 (invU (RD es12 es212)) w (O.arr 1 (es := RD es212 es12) rfl encUp_len (by decide)) (by first | omega | (simp; done) | (simp; omega) | (simp at *; omega)) (by omega) (O.arr 0 (es := invU (RD es12 es212)) rfl encUp_len (by decide)) (by first | omega | (simp; done) | (simp; omega) | (simp at *; omega)) (by omega)).mono ?_))
    rintro e w ⟨rfl, K⟩
    refine ⟨_, rfl, fun a F => ?_⟩
    have O : Own w0 [] [.row 51 3 (.slice P32 N32 C32) N32 ((invU (RD es12 es212)).flatMap encUp), .row 51 3 (.slice P30 N30 C30) N30 ((RD es212 es12).flatMap encUp), .row 51 3 (.slice P20 N20 C20) N20 ((RD es12 es212).flatMap encUp), .row 51 3 (.slice P17 N17 C17) N17 ((RD es12 es212).flatMap encUp), .row 3 1 (.slice (some ⟨b12, 0, none⟩) N12 C12) N12 (es12.flatMap encInt), .row 3 1 (.slice P212 N212 C212) N212 (es212.flatMap encInt)] w := O.call0 K
    clear K
    have c33 : (RD es212 es12) = (invU (RD es12 es212)) := by exact RD_back
    have F := F.setB (d := 33) rfl (decide_eq_true c33)
    have O : Own w0 [] [.row 51 3 (.slice P32 N32 C32) N32 ((invU (RD es12 es212)).flatMap encUp), .row 51 3 (.slice P30 N30 C30) N30 ((RD es212 es12).flatMap encUp), .row 51 3 (.slice P20 N20 C20) N20 ((RD es12 es212).flatMap encUp), .row 51 3 (.slice P17 N17 C17) N17 ((RD es12 es212).flatMap encUp), .row 3 1 (.slice (some ⟨b12, 0, none⟩) N12 C12) N12 (es12.flatMap encInt), .row 3 1 (.slice P212 N212 C212) N212 (es212.flatMap encInt)] w := O
    refine sp F (p_assign rfl) rfl rfl fun a F => c_nil (hK9 _ _ (?_))
    try clear hK9 K9
    refine wp_ret (ret1 F rfl rfl (?_))
    have O : Own w0 [] [] w := (O.take 0)
    exact ⟨rfl, O⟩

set_option maxRecDepth 100000 in
theorem differBack_lifted (os : Os) (started : os.Started) (H : Type) (enc : TypeId × Value → H) :
    ReturnsInHanded {} Try.checked os 12 .any (Rows.fnDifferBackSpec.pre6 enc Try.prog Try.f12 Rows.fnDifferBackRow.domain false) (Rows.fnDifferBackSpec.post enc Try.prog Try.f12 false true false false) := by
  have e0 : Rows.fnDifferBackRow.domain = [] := rfl
  rw [e0]
  refine lifted_of (C := Try.checked) Try.facts started (by kernel_rfl) Try.func12 rfl ?_ (tb := 4) (by kernel_rfl) Try.underlying4 (by kernel_rfl)
    (ChangeSpec.witness6 (enc := enc) (C := Try.checked) false ⟨#[], #[.slice none 0 0], []⟩ 8 (by kernel_rfl) (by kernel_rfl) (by kernel_rfl) (by kernel_rfl)) ?_
  · intro ds hds
    match ds, hds with
    | [_], _ => rfl
  intro W base args ds p hval0 hA0
  have hval : ∀ (j : Nat) t v, Try.f12.params[j]? = some t → args[j]? = some v → Value.okWide Try.prog W .any base t v := hval0
  have hA : DataW.TrodAll enc Try.prog W 0 (fun _ => true) true Try.f12.params.toList args.toList ds p := hA0
  clear hA0 hval0
  show Calls Try.prog 12 args W _
  rw [Try.params12] at hA hval
  obtain ⟨v0, d0, hargs, rfl, h0⟩ := trodAll_one hA
  obtain rfl : args = #[v0] := by cases args; simp_all
  obtain ⟨a, n, c, rfl, hC⟩ := open_codeIn (hval 0 26 v0 rfl rfl) h0
  exact (differBack_ok a n c W hC).mono fun e w' h => ⟨h.1, h.2.below⟩

theorem differBack_pkg : ¬ Check.packageOf Try.f12.name = "main" := by
  intro h
  have h2 := congrArg String.toList h
  simp only [Check.packageOf, Try.f12] at h2
  simp at h2

theorem differBack_closed : lawFacts Try.prog 12 Try.f12 Rows.fnDifferBackSpec Rows.fnDifferBackRow = true := by kernel_rfl
theorem differBack_facts : joinedFacts Try.pinned.checked.prog 12 Try.f12 Rows.fnDifferBackSpec Rows.fnDifferBackRow = true := facts_of (P := Try.prog) Try.facts differBack_closed

theorem differBack_wrap : Func.isWrapper Try.pinned.checked.prog Try.f12 Rows.fnDifferBackRow.wrapper Rows.fnDifferBackRow.mainSum := by
  have e1 : Rows.fnDifferBackRow.wrapper = false := rfl
  have e2 : Rows.fnDifferBackRow.mainSum = "" := rfl
  rw [e1, e2]
  exact wrapper_of Try.pinned.checked.prog Try.f12 differBack_pkg

/-- The statement. -/
theorem differBack_over : Rows.fnDifferBackRow.holds Try.pinned (OpenSpec.ofChange Rows.fnDifferBackSpec) :=
  OpenClaim.holds_of_wide 12 Try.f12 rfl rfl rfl rfl rfl rfl rfl ⟨rfl, rfl, rfl, rfl, rfl⟩ rfl rfl rfl rfl rfl (by kernel_rfl) Try.func12 differBack_facts
    (of_decide_eq_true (by kernel_rfl)) differBack_wrap
    (fun os started H enc _ => differBack_lifted os started H enc)
theorem differBack_holds : Rows.FnDifferBackSaid := differBack_over
#print axioms differBack_holds

end Go.Proofs.Ytilpbddeijolbaa
