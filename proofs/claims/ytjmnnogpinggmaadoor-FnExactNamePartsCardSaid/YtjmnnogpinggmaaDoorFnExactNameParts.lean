/- The two programs agree on the parts of a name: the law FnExactNameParts returns true: the row, and its card. No conditions. -/
import Derived.Test.YtjmnnogpinggmaaDoorNamL
import Derived.Test.YtjmnnogpinggmaaDoorDoorN
import Derived.Test.YtjmnnogpinggmaaDoorCards
import Derived.Test.YtjmnnogpinggmaaDoorTie
import Derived.SevenTiedAt
namespace Go.Proofs.YtjmnnogpinggmaaDoor
open Go.ChangeShapes Go.WideShapes Go.ChangeAt Go.RowKit
set_option linter.unusedVariables false
set_option linter.unusedSimpArgs false

set_option maxRecDepth 100000 in
/-- laws.FnExactNameParts -/
theorem exNameParts_ok (s : List UInt8) (m0 : Int) (w0 : World) (hs : (s.length : Int) ≤ 9223372036854775807) (hl_0 : 0 < w0.heap.size) (hm_0_0 : w0.cell? ⟨0, 0, none⟩ = some (.int .i64 (m0))) :
    Calls Tryd.prog 11 #[.string (bs (s))] w0 fun e w => e = .returned (.bool true) ∧ Own w0 [] [] w := by
  have O := Own.start w0
  refine enterO (n := 44) Tryd.func11 rfl rfl rfl O fun a w F O => ?_
  refine c_seq fun K1 hK1 => c_region (sp F (p_assign rfl) rfl rfl fun a F => c_nil (hK1 _ _ (?_)))
  try clear hK1 K1
  refine c_seq fun K2 hK2 => c_seq fun K3 hK3 => c_region (sp F (p_move rfl) rfl rfl fun a F => sp F (p_len_b rfl Tryd.underlying9) rfl rfl fun a F => sp F (p_gtr rfl rfl) rfl rfl fun a F => c_nil (hK3 _ _ (?_)))
  try clear hK3 K3
  by_cases c10 : 1048576 < (s.length : Int)
  · have F := F.setB (d := 10) rfl (decide_eq_true c10)
    refine c_ift F rfl (c_seq fun K4 hK4 => c_region (sp F (p_assign rfl) rfl rfl fun a F => c_nil (hK4 _ _ (?_))))
    try clear hK4 K4
    refine wp_ret (r_then (ret1 F rfl rfl (?_)))
    exact ⟨rfl, O⟩
  · have F := F.setB (d := 10) rfl (decide_eq_false c10)
    refine c_iff F rfl (wp_skip (hK2 _ _ (?_)))
    try clear hK2 K2
    refine c_seq fun K4 hK4 => c_region (sp F (p_move rfl) rfl rfl fun a F => so F rfl (o_call (vs := #[.string (bs (s))]) F Tryd.en_29 rfl rfl ((sNameParts_ok s w (by first | omega | assumption | (simp; omega) | (exact hE _ (List.mem_of_getElem? (by assumption))) | (have := cut_small _ (List.mem_of_getElem? (by assumption)); omega))).mono ?_)))
    rintro e w ⟨P12, N12, C12, rfl, h12a, h12b, K⟩
    refine ⟨_, rfl, fun a F => ?_⟩
    have O : Own w0 [] [.row 9 1 (.slice P12 N12 C12) N12 ((partsL s).flatMap encStr)] w := O.call0 K
    clear K
    have O : Own w0 [] [.row 9 1 (.slice P12 N12 C12) N12 ((partsL s).flatMap encStr)] w := O
    refine sp F (p_assign rfl) rfl rfl fun a F => c_nil (hK4 _ _ (?_))
    try clear hK4 K4
    refine c_seq fun K5 hK5 => c_region (sp F (p_move rfl) rfl rfl fun a F => so F rfl (o_call (vs := #[.string (bs (s))]) F Tryd.en_22 rfl rfl ((iNameParts_ok s m0 w (by first | omega | assumption | (simp; omega) | (exact hE _ (List.mem_of_getElem? (by assumption))) | (have := cut_small _ (List.mem_of_getElem? (by assumption)); omega)) (Nat.lt_of_lt_of_le hl_0 O.size) (((O.old hl_0 (by simp)).trans hm_0_0))).mono ?_)))
    rintro e w ⟨P14, N14, C14, rfl, h14a, h14b, K⟩
    refine ⟨_, rfl, fun a F => ?_⟩
    have O : Own w0 [] [.row 9 1 (.slice P14 N14 C14) N14 ((partsL s).flatMap encStr), .row 9 1 (.slice P12 N12 C12) N12 ((partsL s).flatMap encStr)] w := O.call0 K
    clear K
    have O : Own w0 [] [.row 9 1 (.slice P14 N14 C14) N14 ((partsL s).flatMap encStr), .row 9 1 (.slice P12 N12 C12) N12 ((partsL s).flatMap encStr)] w := O
    refine sp F (p_assign rfl) rfl rfl fun a F => c_nil (hK5 _ _ (?_))
    try clear hK5 K5
    refine c_seq fun K6 hK6 => c_seq fun K7 hK7 => c_region (sp F (p_move rfl) rfl rfl fun a F => sp F (p_move rfl) rfl rfl fun a F => so F rfl (o_call (vs := #[.slice P14 N14 C14, .slice P12 N12 C12]) F Tryd.en_30 rfl rfl ((eqStringS_ok P14 N14 C14 (partsL s) P12 N12 C12 (partsL s) w (O.arr 0 (es := partsL s) rfl encStr_len (by decide)) (by first | omega | (simp; done) | (simp; omega) | (simp at *; omega)) (by omega) (O.arr 1 (es := partsL s) rfl encStr_len (by decide)) (by first | omega | (simp; done) | (simp; omega) | (simp at *; omega)) (by omega)).mono ?_)))
    rintro e w ⟨rfl, K⟩
    refine ⟨_, rfl, fun a F => ?_⟩
    have O : Own w0 [] [.row 9 1 (.slice P14 N14 C14) N14 ((partsL s).flatMap encStr), .row 9 1 (.slice P12 N12 C12) N12 ((partsL s).flatMap encStr)] w := O.call0 K
    clear K
    have c17 : (partsL s) = (partsL s) := by rfl
    have F := F.setB (d := 17) rfl (decide_eq_true c17)
    have O : Own w0 [] [.row 9 1 (.slice P14 N14 C14) N14 ((partsL s).flatMap encStr), .row 9 1 (.slice P12 N12 C12) N12 ((partsL s).flatMap encStr)] w := O
    refine sp F (p_not rfl) rfl rfl fun a F => c_nil (hK7 _ _ (?_))
    try clear hK7 K7
    refine c_iff F rfl (wp_skip (hK6 _ _ (?_)))
    try clear hK6 K6
    refine c_seq fun K8 hK8 => c_region (sp F (p_assign rfl) rfl rfl fun a F => c_nil (hK8 _ _ (?_)))
    try clear hK8 K8
    refine c_seq fun K9 hK9 => c_region (sp F (p_move rfl) rfl rfl fun a F => sp F (p_move rfl) rfl rfl fun a F => so F rfl (o_call (vs := #[.slice P14 N14 C14, .int .i64 (1)]) F Tryd.en_31 rfl rfl ((markStringS P14 N14 C14 (partsL s) 1 w (by first | omega | (simp; done) | (simp; omega) | (simp at *; omega)) (by omega) (by omega) (by omega) O.handR).mono ?_)))
    rintro e w ⟨es121, rfl, h21a, h21b, K⟩
    refine ⟨_, rfl, fun a F => ?_⟩
    have O : Own w0 [] [.row 9 1 (.slice P14 N14 C14) N14 (es121.flatMap encStr), .row 9 1 (.slice P12 N12 C12) N12 ((partsL s).flatMap encStr)] w := O.callR K
    clear K
    have O : Own w0 [] [.row 9 1 (.slice P14 N14 C14) N14 (es121.flatMap encStr), .row 9 1 (.slice P12 N12 C12) N12 ((partsL s).flatMap encStr)] w := O
    refine sp F (p_assign rfl) rfl rfl fun a F => c_nil (hK9 _ _ (?_))
    try clear hK9 K9
    refine c_seq fun K10 hK10 => c_region (sp F (p_assign rfl) rfl rfl fun a F => c_nil (hK10 _ _ (?_)))
    try clear hK10 K10
    refine c_seq fun K11 hK11 => c_region (sp F (p_move rfl) rfl rfl fun a F => sp F (p_move rfl) rfl rfl fun a F => so F rfl (o_call (vs := #[.slice P14 N14 C14, .int .i64 (1)]) F Tryd.en_32 rfl rfl ((heldStringS_ok P14 N14 C14 es121 1 w (O.arr 0 (es := es121) rfl encStr_len (by decide)) (by first | omega | (simp; done) | (simp; omega) | (simp at *; omega)) (by omega) (by assumption) (by omega) (by omega)).mono ?_)))
    rintro e w ⟨rfl, K⟩
    refine ⟨_, rfl, fun a F => ?_⟩
    have O : Own w0 [] [.row 9 1 (.slice P14 N14 C14) N14 (es121.flatMap encStr), .row 9 1 (.slice P12 N12 C12) N12 ((partsL s).flatMap encStr)] w := O.call0 K
    clear K
    have O : Own w0 [] [.row 9 1 (.slice P14 N14 C14) N14 (es121.flatMap encStr), .row 9 1 (.slice P12 N12 C12) N12 ((partsL s).flatMap encStr)] w := O
    refine sp F (p_assign rfl) rfl rfl fun a F => c_nil (hK11 _ _ (?_))
    try clear hK11 K11
    refine c_seq fun K12 hK12 => c_seq fun K13 hK13 => c_region (sp F (p_move rfl) rfl rfl fun a F => sp F (p_lss rfl rfl) rfl rfl fun a F => ?_)
    have c26 : ¬ ((1 + (N14 : Int)) < 0) := by omega
    have F := F.setB (d := 26) rfl (decide_eq_false c26)
    refine c_nil (hK13 _ _ (?_))
    try clear hK13 K13
    refine c_iff F rfl (wp_skip (hK12 _ _ (?_)))
    try clear hK12 K12
    refine c_seq fun K14 hK14 => c_seq fun K15 hK15 => c_region (sp F (p_move rfl) rfl rfl fun a F => sp F (p_move rfl) rfl rfl fun a F => sp F (p_neq rfl rfl) rfl rfl fun a F => ?_)
    have c29 : (1 + (N14 : Int)) = (1 + (N14 : Int)) := by omega
    have F := F.setB (d := 29) rfl (decide_eq_false (fun h => h c29))
    refine c_nil (hK15 _ _ (?_))
    try clear hK15 K15
    refine c_iff F rfl (wp_skip (hK14 _ _ (?_)))
    try clear hK14 K14
    refine c_seq fun K16 hK16 => c_region (sp F (p_move rfl) rfl rfl fun a F => so F rfl (o_call (vs := #[.string (bs (s))]) F Tryd.en_22 rfl rfl ((iNameParts_ok s m0 w (by first | omega | assumption | (simp; omega) | (exact hE _ (List.mem_of_getElem? (by assumption))) | (have := cut_small _ (List.mem_of_getElem? (by assumption)); omega)) (Nat.lt_of_lt_of_le hl_0 O.size) (((O.old hl_0 (by simp)).trans hm_0_0))).mono ?_)))
    rintro e w ⟨P31, N31, C31, rfl, h31a, h31b, K⟩
    refine ⟨_, rfl, fun a F => ?_⟩
    have O : Own w0 [] [.row 9 1 (.slice P31 N31 C31) N31 ((partsL s).flatMap encStr), .row 9 1 (.slice P14 N14 C14) N14 (es121.flatMap encStr), .row 9 1 (.slice P12 N12 C12) N12 ((partsL s).flatMap encStr)] w := O.call0 K
    clear K
    have O : Own w0 [] [.row 9 1 (.slice P31 N31 C31) N31 ((partsL s).flatMap encStr), .row 9 1 (.slice P14 N14 C14) N14 (es121.flatMap encStr), .row 9 1 (.slice P12 N12 C12) N12 ((partsL s).flatMap encStr)] w := O
    refine sp F (p_assign rfl) rfl rfl fun a F => c_nil (hK16 _ _ (?_))
    try clear hK16 K16
    refine c_seq fun K17 hK17 => c_seq fun K18 hK18 => c_region (sp F (p_move rfl) rfl rfl fun a F => sp F (p_move rfl) rfl rfl fun a F => so F rfl (o_call (vs := #[.slice P31 N31 C31, .slice P12 N12 C12]) F Tryd.en_30 rfl rfl ((eqStringS_ok P31 N31 C31 (partsL s) P12 N12 C12 (partsL s) w (O.arr 0 (es := partsL s) rfl encStr_len (by decide)) (by first | omega | (simp; done) | (simp; omega) | (simp at *; omega)) (by omega) (O.arr 2 (es := partsL s) rfl encStr_len (by decide)) (by first | omega | (simp; done) | (simp; omega) | (simp at *; omega)) (by omega)).mono ?_)))
    rintro e w ⟨rfl, K⟩
    refine ⟨_, rfl, fun a F => ?_⟩
    have O : Own w0 [] [.row 9 1 (.slice P31 N31 C31) N31 ((partsL s).flatMap encStr), .row 9 1 (.slice P14 N14 C14) N14 (es121.flatMap encStr), .row 9 1 (.slice P12 N12 C12) N12 ((partsL s).flatMap encStr)] w := O.call0 K
    clear K
    have F := F.setB (d := 34) rfl (decide_eq_true c17)
    have O : Own w0 [] [.row 9 1 (.slice P31 N31 C31) N31 ((partsL s).flatMap encStr), .row 9 1 (.slice P14 N14 C14) N14 (es121.flatMap encStr), .row 9 1 (.slice P12 N12 C12) N12 ((partsL s).flatMap encStr)] w := O
    refine sp F (p_not rfl) rfl rfl fun a F => c_nil (hK18 _ _ (?_))
    try clear hK18 K18
    refine c_iff F rfl (wp_skip (hK17 _ _ (?_)))
    try clear hK17 K17
    refine c_seq fun K19 hK19 => c_region (sp F (p_assign rfl) rfl rfl fun a F => c_nil (hK19 _ _ (?_)))
    try clear hK19 K19
    refine c_seq fun K20 hK20 => c_region (sp F (p_move rfl) rfl rfl fun a F => sp F (p_move rfl) rfl rfl fun a F => so F rfl (o_call (vs := #[.slice P14 N14 C14, .int .i64 (1)]) F Tryd.en_32 rfl rfl ((heldStringS_ok P14 N14 C14 es121 1 w (O.arr 1 (es := es121) rfl encStr_len (by decide)) (by first | omega | (simp; done) | (simp; omega) | (simp at *; omega)) (by omega) (by assumption) (by omega) (by omega)).mono ?_)))
    rintro e w ⟨rfl, K⟩
    refine ⟨_, rfl, fun a F => ?_⟩
    have O : Own w0 [] [.row 9 1 (.slice P31 N31 C31) N31 ((partsL s).flatMap encStr), .row 9 1 (.slice P14 N14 C14) N14 (es121.flatMap encStr), .row 9 1 (.slice P12 N12 C12) N12 ((partsL s).flatMap encStr)] w := O.call0 K
    clear K
    have O : Own w0 [] [.row 9 1 (.slice P31 N31 C31) N31 ((partsL s).flatMap encStr), .row 9 1 (.slice P14 N14 C14) N14 (es121.flatMap encStr), .row 9 1 (.slice P12 N12 C12) N12 ((partsL s).flatMap encStr)] w := O
    refine sp F (p_assign rfl) rfl rfl fun a F => c_nil (hK20 _ _ (?_))
    try clear hK20 K20
    refine c_seq fun K21 hK21 => c_seq fun K22 hK22 => c_region (sp F (p_move rfl) rfl rfl fun a F => sp F (p_lss rfl rfl) rfl rfl fun a F => ?_)
    have F := F.setB (d := 40) rfl (decide_eq_false c26)
    refine c_nil (hK22 _ _ (?_))
    try clear hK22 K22
    refine c_iff F rfl (wp_skip (hK21 _ _ (?_)))
    try clear hK21 K21
    refine c_seq fun K23 hK23 => c_seq fun K24 hK24 => c_region (sp F (p_move rfl) rfl rfl fun a F => sp F (p_move rfl) rfl rfl fun a F => sp F (p_neq rfl rfl) rfl rfl fun a F => ?_)
    have F := F.setB (d := 43) rfl (decide_eq_false (fun h => h c29))
    refine c_nil (hK24 _ _ (?_))
    try clear hK24 K24
    refine c_iff F rfl (wp_skip (hK23 _ _ (?_)))
    try clear hK23 K23
    refine c_seq fun K25 hK25 => c_region (sp F (p_assign rfl) rfl rfl fun a F => c_nil (hK25 _ _ (?_)))
    try clear hK25 K25
    refine wp_ret (ret1 F rfl rfl (?_))
    have O : Own w0 [] [] w := (O.take 0)
    exact ⟨rfl, O⟩

set_option maxRecDepth 100000 in
theorem exNameParts_lifted (os : Os) (started : os.Started) (H : Type) (enc : TypeId × Value → H) :
    ReturnsInHanded {} Tryd.checked os 11 .any (fun w args => (Rows.fnExactNamePartsSpec.pre enc Tryd.prog Tryd.f11 [] false w args ∧ laidMet Tryd.prog laidList w) ∧ sizedMet enc Tryd.prog Tryd.f11 (OpenSpec.ofChange Rows.fnExactNamePartsSpec) false w args)
      (Rows.fnExactNamePartsSpec.post enc Tryd.prog Tryd.f11 false true false false) := by
  refine lifted_laid started (by kernel_rfl) Tryd.func11 rfl ?_ (by kernel_rfl) (by kernel_rfl)
    (ChangeSpec.witness_at (enc := enc) (C := Tryd.checked) (os := os) (X := fun w _ => laidMet Tryd.prog laidList w) false (laidWorld os) #[.string ByteArray.empty] 8 rfl (laid_vars os _) (laid_rest os _) (by kernel_rfl) (by kernel_rfl) (by kernel_rfl) (laidWorld_met os _)) ?_
  · intro ds hds
    match ds, hds with
    | [_], _ => rfl
  intro W base args ds p m0 hval0 hA0 hm hl
  have hval : ∀ (j : Nat) t v, Tryd.f11.params[j]? = some t → args[j]? = some v → Value.okWide Tryd.prog W .any base t v := hval0
  have hA : DataW.TrodAll enc Tryd.prog W 0 (fun _ => true) true Tryd.f11.params.toList args.toList ds p := hA0
  clear hA0 hval0
  show Calls Tryd.prog 11 args W _
  rw [Tryd.params11] at hA hval
  obtain ⟨v0, d0, hargs, rfl, h0⟩ := trodAll_one hA
  obtain rfl : args = #[v0] := by cases args; simp_all
  obtain ⟨s0, rfl, hs0⟩ := open_text (hval 0 9 v0 rfl rfl) h0
  exact (exNameParts_ok s0 m0 W hs0 hl hm).mono fun e w' h => ⟨h.1, h.2.below⟩

theorem exNameParts_pkg : ¬ Check.packageOf Tryd.f11.name = "main" := by
  intro h
  have h2 := congrArg String.toList h
  simp only [Check.packageOf, Tryd.f11] at h2
  simp at h2
theorem exNameParts_closed : lawFacts Tryd.prog 11 Tryd.f11 Rows.fnExactNamePartsSpec Rows.fnExactNamePartsRow = true := by kernel_rfl
theorem exNameParts_facts : joinedFacts Tryd.pinned.checked.prog 11 Tryd.f11 Rows.fnExactNamePartsSpec Rows.fnExactNamePartsRow = true := facts_of (P := Tryd.prog) Tryd.facts exNameParts_closed
theorem exNameParts_wrap : Func.isWrapper Tryd.pinned.checked.prog Tryd.f11 Rows.fnExactNamePartsRow.wrapper Rows.fnExactNamePartsRow.mainSum := by
  have e1 : Rows.fnExactNamePartsRow.wrapper = false := rfl
  have e2 : Rows.fnExactNamePartsRow.mainSum = "" := rfl
  rw [e1, e2]
  exact wrapper_of Tryd.pinned.checked.prog Tryd.f11 exNameParts_pkg

/-- The row's statement. -/
theorem exNameParts_row : Rows.FnExactNamePartsSaid :=
  OpenClaim.holds_of_wide 11 Tryd.f11 rfl rfl rfl rfl rfl rfl rfl ⟨rfl, rfl, rfl, rfl, rfl⟩ rfl rfl rfl rfl rfl (by kernel_rfl) Tryd.func11 exNameParts_facts
    (of_decide_eq_true (by kernel_rfl)) exNameParts_wrap
    (fun os started H enc _ => exNameParts_lifted os started H enc)

/-- The card. -/
theorem exNameParts_card : Rows.FnExactNamePartsCardSaid :=
  Claim7.holds_tied_plain_at .later [] [.data, .pinned] true (true, "5d7b27699adf6aa4303d3de668a7c3150c04e5a87965bab53939a9c73c259877") false
    exNameParts_row (fun _ h => by cases h) (by kernel_rfl) (fun _ h => by cases h) fnExactNameParts_row_tie rfl ⟨rfl, rfl⟩ (by kernel_rfl) rfl
    (fun f fn hf hfn => by
      obtain rfl : f = 11 := Option.some.inj ((show Tryd.prog.funcNamed "loop.example/atomicpush/laws.FnExactNameParts" = some 11 by kernel_rfl).symm.trans hf) |>.symm
      obtain rfl : fn = Tryd.f11 := (Option.some.inj (Tryd.func11.symm.trans hfn)).symm
      exact ⟨by kernel_rfl, fun j t ht => by
        rw [Tryd.params11] at ht
        rcases j with _ | _ | _ | j <;> simp at ht <;> subst ht <;> kernel_rfl⟩)
    (by kernel_rfl)
#print axioms exNameParts_card
end Go.Proofs.YtjmnnogpinggmaaDoor
