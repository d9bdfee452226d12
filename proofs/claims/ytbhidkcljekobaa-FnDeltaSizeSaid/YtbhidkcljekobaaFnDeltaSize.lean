/- A delta is not larger than the text: the law FnDeltaSize returns true. No conditions. -/
import Derived.Test.YtbhidkcljekobaaDelC
import Derived.Test.YtbhidkcljekobaaOpenC
import Derived.Test.YtbhidkcljekobaaDoorD
namespace Go.Proofs.Ytbhidkcljekobaa
open Go.ChangeShapes Go.WideShapes Go.ChangeAt Go.RowKit
set_option linter.unusedVariables false
set_option linter.unusedSimpArgs false


section
variable {b t : List UInt8} {acc l : List Op3} {e : Op3}
def dsz (acc : List Op3) : Int := acc.length + tsz acc
def bon (acc : List Op3) : Int := if (lastOp acc).2.1 = 0 then 1 else 0
theorem dsz_snoc : dsz (l ++ [e]) = dsz l + 1 + e.2.2.length := by unfold dsz; rw [tsz_snoc]; simp; omega
theorem lastOp_snoc : lastOp (l ++ [e]) = e := by unfold lastOp; simp [List.getD_eq_getElem?_getD]
theorem set_last {o : Op3} : (l ++ [o]).set ((l ++ [o]).length - 1) e = l ++ [e] := by simp
theorem bon_bd : 0 ≤ bon acc ∧ bon acc ≤ 1 := by unfold bon; split <;> omega
theorem mkD_size : ∀ (f : Nat) (t : List UInt8) (acc : List Op3) (c : Int), t.length ≤ f → dsz acc ≤ c + bon acc → dsz (mkD b f t acc) ≤ c + t.length + 1
  | 0, t, acc, c, hf, h => by have := bon_bd (acc := acc); show dsz acc ≤ _; omega
  | f + 1, t, acc, c, hf, h => by
    have hb := bon_bd (acc := acc)
    rw [mkD]
    by_cases ht : t = []
    · rw [if_pos ht]; omega
    · rw [if_neg ht]
      have h0 := List.length_pos_iff.2 ht
      have hz := longZ_le (b := b) (t := t)
      have hd : ((t.drop (mkLen b t)).length : Int) = t.length - mkLen b t := by rw [List.length_drop]; unfold mkLen; split <;> omega
      have hm : 1 ≤ mkLen b t := by unfold mkLen; split <;> omega
      have ih := mkD_size f (t.drop (mkLen b t)) (mkStep b t acc) (c + mkLen b t) (by omega) (by
        unfold mkStep mkLen
        by_cases h2 : 2 ≤ longZ b t
        · rw [if_pos h2, if_pos h2, dsz_snoc]
          have := bon_bd (acc := acc ++ [(longA b t, longZ b t, ([] : List UInt8))])
          simp only [List.length_nil]; omega
        · rw [if_neg h2, if_neg h2]
          by_cases hl : (lastOp acc).2.1 = 0
          · rw [if_pos hl]
            rcases List.eq_nil_or_concat acc with rfl | ⟨l, o, rfl⟩
            · simp [lastOp] at hl
            · rw [List.concat_eq_append] at *
              rw [lastOp_snoc] at hl ⊢
              rw [set_last, dsz_snoc]
              have e1 : bon (l ++ [(o.1, o.2.1, o.2.2 ++ t.take 1)]) = 1 := by unfold bon; rw [lastOp_snoc, if_pos hl]
              rw [dsz_snoc] at h
              have e2 : ((o.2.2 ++ t.take 1).length : Int) = o.2.2.length + 1 := by rw [List.length_append, List.length_take]; omega
              rw [e1]
              simp only [e2]; omega
          · rw [if_neg hl, dsz_snoc]
            have e1 : bon acc = 0 := if_neg hl
            have e3 : bon (acc ++ [((0 : Int), (0 : Int), t.take 1)]) = 1 := by unfold bon; rw [lastOp_snoc, if_pos rfl]
            have e2 : ((t.take 1).length : Int) = 1 := by rw [List.length_take]; omega
            rw [e3]
            simp only [e2]; omega)
      omega
theorem mkStep_pos : 0 < (mkStep b t acc).length ∧ acc.length ≤ (mkStep b t acc).length := by
  unfold mkStep
  split
  · simp
  · split
    · rename_i h
      rcases List.eq_nil_or_concat acc with rfl | ⟨l, o, rfl⟩
      · simp [lastOp] at h
      · simp
    · simp
theorem mkD_grow : ∀ (f : Nat) (t : List UInt8) (acc : List Op3), acc.length ≤ (mkD b f t acc).length
  | 0, t, acc => Nat.le_refl _
  | f + 1, t, acc => by
    rw [mkD]
    split
    · exact Nat.le_refl _
    · exact Nat.le_trans (mkStep_pos (b := b) (t := t) (acc := acc)).2 (mkD_grow f _ _)
theorem makeD_size (h : (b.length : Int) ≤ 8) (h2 : (t.length : Int) ≤ 8) : dsz (makeD b t) ≤ t.length + 1 ∧ (dsz (makeD b t) = 0 ↔ t = []) := by
  rw [makeD_ok ⟨h, h2⟩]
  refine ⟨by have := mkD_size (b := b) t.length t [] 0 (Nat.le_refl _) (by decide); omega, ?_⟩
  constructor
  · intro h3
    by_cases ht : t = []
    · exact ht
    · exfalso
      obtain ⟨f, hf⟩ : ∃ f, t.length = f + 1 := ⟨t.length - 1, by have := List.length_pos_iff.2 ht; omega⟩
      rw [hf, mkD, if_neg ht] at h3
      have h4 := mkD_grow (b := b) f (t.drop (mkLen b t)) (mkStep b t [])
      have h5 := (mkStep_pos (b := b) (t := t) (acc := [])).1
      have h6 := tsz_nonneg (mkD b f (t.drop (mkLen b t)) (mkStep b t []))
      unfold dsz at h3
      omega
  · intro ht; subst ht; rfl
end
set_option maxRecDepth 100000 in
/-- laws.FnDeltaSize -/
theorem deltaSize_ok (A : Option Addr) (cn : Nat) (cc : Nat) (m0 : Int) (w0 : World) (hC : CodeIn w0 A cn cc) (hl_0 : 0 < w0.heap.size) (hm_0_0 : w0.cell? ⟨0, 0, none⟩ = some (.int .i64 (m0))) :
    Calls Try.prog 10 #[.slice A cn cc] w0 fun e w => e = .returned (.bool true) ∧ Own w0 [] [] w := by
  have O := Own.start w0
  have hcc : (cn : Int) ≤ cc := by have := hC.1; omega
  have hcm : (cc : Int) ≤ 9223372036854775807 := by have := hC.2.1; unfold maxLen at this; omega
  refine enterO (n := 53) Try.func10 rfl rfl rfl O fun a w F O => ?_
  refine c_seq fun K1 hK1 => c_region (sp F (p_assign rfl) rfl rfl fun a F => c_nil (hK1 _ _ (?_)))
  try clear hK1 K1
  refine c_seq fun K2 hK2 => c_seq fun K3 hK3 => c_region (sp F (p_move rfl) rfl rfl fun a F => sp F (p_len_l rfl Try.underlying22) rfl rfl fun a F => sp F (p_gtr rfl rfl) rfl rfl fun a F => c_nil (hK3 _ _ (?_)))
  try clear hK3 K3
  by_cases c10 : 1048576 < (cn : Int)
  · have F := F.setB (d := 10) rfl (decide_eq_true c10)
    refine c_ift F rfl (c_seq fun K4 hK4 => c_region (sp F (p_assign rfl) rfl rfl fun a F => c_nil (hK4 _ _ (?_))))
    try clear hK4 K4
    refine wp_ret (r_then (ret1 F rfl rfl (?_)))
    exact ⟨rfl, O⟩
  · have F := F.setB (d := 10) rfl (decide_eq_false c10)
    refine c_iff F rfl (wp_skip (hK2 _ _ (?_)))
    try clear hK2 K2
    refine c_seq fun K4 hK4 => c_region (sp F (p_move rfl) rfl rfl fun a F => so F rfl (o_call (vs := #[.slice A cn cc]) F Try.en_23 rfl rfl ((dDeltaMake_ok A cn cc w (hC.keep O)).mono ?_)))
    rintro e w ⟨L13, M13, rfl, h13a, h13b, K⟩
    refine ⟨_, rfl, fun a F => ?_⟩
    have O : Own w0 [] [] w := O.call0 K
    clear K
    have O : Own w0 [] [] w := O
    refine sp F (p_move rfl) rfl rfl fun a F => sp F (p_extract rfl rfl) rfl rfl fun a F => sp F (p_extract rfl rfl) rfl rfl fun a F => sp F (p_assign rfl) rfl rfl fun a F => sp F (p_assign rfl) rfl rfl fun a F => c_nil (hK4 _ _ (?_))
    try clear hK4 K4
    refine c_seq fun K5 hK5 => c_region (sp F (p_move rfl) rfl rfl fun a F => sp F (p_move rfl) rfl rfl fun a F => so F rfl (o_call (vs := #[.string (bs (L13)), .string (bs (M13))]) F Try.en_24 rfl rfl ((iDeltaMake_ok L13 M13 m0 w (by first | omega | (simp; done) | (simp; omega)) (by first | omega | (simp; done) | (simp; omega)) (Nat.lt_of_lt_of_le hl_0 O.size) (((O.old hl_0 (by simp)).trans hm_0_0))).mono ?_)))
    rintro e w ⟨P18, N18, C18, rfl, h18a, h18b, K⟩
    refine ⟨_, rfl, fun a F => ?_⟩
    have O : Own w0 [] [.row 43 3 (.slice P18 N18 C18) N18 ((makeD L13 M13).flatMap encOp)] w := O.call0 K
    clear K
    have O : Own w0 [] [.row 43 3 (.slice P18 N18 C18) N18 ((makeD L13 M13).flatMap encOp)] w := O
    refine sp F (p_assign rfl) rfl rfl fun a F => c_nil (hK5 _ _ (?_))
    try clear hK5 K5
    refine c_seq fun K6 hK6 => c_region (sp F (p_move rfl) rfl rfl fun a F => sp F (p_move rfl) rfl rfl fun a F => so F rfl (o_call (vs := #[.string (bs (L13)), .string (bs (M13))]) F Try.en_25 rfl rfl ((sDeltaMake_ok L13 M13 w (by first | omega | (simp; done) | (simp; omega)) (by first | omega | (simp; done) | (simp; omega))).mono ?_)))
    rintro e w ⟨P21, N21, C21, rfl, h21a, h21b, K⟩
    refine ⟨_, rfl, fun a F => ?_⟩
    have O : Own w0 [] [.row 43 3 (.slice P21 N21 C21) N21 ((makeD L13 M13).flatMap encOp), .row 43 3 (.slice P18 N18 C18) N18 ((makeD L13 M13).flatMap encOp)] w := O.call0 K
    clear K
    have O : Own w0 [] [.row 43 3 (.slice P21 N21 C21) N21 ((makeD L13 M13).flatMap encOp), .row 43 3 (.slice P18 N18 C18) N18 ((makeD L13 M13).flatMap encOp)] w := O
    refine sp F (p_assign rfl) rfl rfl fun a F => c_nil (hK6 _ _ (?_))
    try clear hK6 K6
    refine c_seq fun K7 hK7 => c_seq fun K8 hK8 => c_region (sp F (p_move rfl) rfl rfl fun a F => sp F (p_move rfl) rfl rfl fun a F => so F rfl (o_call (vs := #[.slice P18 N18 C18, .slice P21 N21 C21]) F Try.en_26 rfl rfl ((sameOps_ok P18 N18 C18 (makeD L13 M13) P21 N21 C21 (makeD L13 M13) w (O.arr 1 (es := makeD L13 M13) rfl encOp_len (by decide)) (by first | omega | (simp; done) | (simp; omega) | (simp at *; omega)) (by omega) (O.arr 0 (es := makeD L13 M13) rfl encOp_len (by decide)) (by first | omega | (simp; done) | (simp; omega) | (simp at *; omega)) (by omega)).mono ?_)))
    rintro e w ⟨rfl, K⟩
    refine ⟨_, rfl, fun a F => ?_⟩
    have O : Own w0 [] [.row 43 3 (.slice P21 N21 C21) N21 ((makeD L13 M13).flatMap encOp), .row 43 3 (.slice P18 N18 C18) N18 ((makeD L13 M13).flatMap encOp)] w := O.call0 K
    clear K
    have c24 : (makeD L13 M13) = (makeD L13 M13) := by rfl
    have F := F.setB (d := 24) rfl (decide_eq_true c24)
    have O : Own w0 [] [.row 43 3 (.slice P21 N21 C21) N21 ((makeD L13 M13).flatMap encOp), .row 43 3 (.slice P18 N18 C18) N18 ((makeD L13 M13).flatMap encOp)] w := O
    refine sp F (p_not rfl) rfl rfl fun a F => sp F (p_move rfl) rfl rfl fun a F => sp F (p_move rfl) rfl rfl fun a F => sp F (p_len_b rfl Try.underlying9) rfl rfl fun a F => sp F (p_gtr rfl rfl) rfl rfl fun a F => sp F (p_pick (t := false) rfl rfl) rfl rfl fun a F => sp F (p_move rfl) rfl rfl fun a F => ?_
    by_cases c31 : 8 < (L13.length : Int)
    · have F := F.setB (d := 29) rfl (decide_eq_true c31)
      have F := F.setB (d := 30) rfl (decide_eq_true c31)
      have F := F.setB (d := 31) rfl (decide_eq_true c31)
      refine ss F rfl rfl fun a F => ss F rfl rfl fun a F => ss F rfl rfl fun a F => sp F (p_pick (t := true) rfl rfl) rfl rfl fun a F => c_nil (hK8 _ _ (?_))
      try clear hK8 K8
      refine c_ift F rfl (c_seq fun K9 hK9 => c_region (sp F (p_move rfl) rfl rfl fun a F => sp F (p_move rfl) rfl rfl fun a F => so F rfl (o_call (vs := #[.slice P18 N18 C18, .slice P21 N21 C21]) F Try.en_26 rfl rfl ((sameOps_ok P18 N18 C18 (makeD L13 M13) P21 N21 C21 (makeD L13 M13) w (O.arr 1 (es := makeD L13 M13) rfl encOp_len (by decide)) (by first | omega | (simp; done) | (simp; omega) | (simp at *; omega)) (by omega) (O.arr 0 (es := makeD L13 M13) rfl encOp_len (by decide)) (by first | omega | (simp; done) | (simp; omega) | (simp at *; omega)) (by omega)).mono ?_))))
      rintro e w ⟨rfl, K⟩
      refine ⟨_, rfl, fun a F => ?_⟩
      have O : Own w0 [] [.row 43 3 (.slice P21 N21 C21) N21 ((makeD L13 M13).flatMap encOp), .row 43 3 (.slice P18 N18 C18) N18 ((makeD L13 M13).flatMap encOp)] w := O.call0 K
      clear K
      have F := F.setB (d := 38) rfl (decide_eq_true c24)
      have O : Own w0 [] [.row 43 3 (.slice P21 N21 C21) N21 ((makeD L13 M13).flatMap encOp), .row 43 3 (.slice P18 N18 C18) N18 ((makeD L13 M13).flatMap encOp)] w := O
      refine sp F (p_assign rfl) rfl rfl fun a F => c_nil (hK9 _ _ (?_))
      try clear hK9 K9
      refine wp_ret (r_then (ret1 F rfl rfl (?_)))
      have O : Own w0 [] [] w := (O.take 0)
      exact ⟨rfl, O⟩
    · have F := F.setB (d := 29) rfl (decide_eq_false c31)
      have F := F.setB (d := 30) rfl (decide_eq_false c31)
      have F := F.setB (d := 31) rfl (decide_eq_false c31)
      refine sp F (p_move rfl) rfl rfl fun a F => sp F (p_len_b rfl Try.underlying9) rfl rfl fun a F => sp F (p_gtr rfl rfl) rfl rfl fun a F => sp F (p_pick (t := false) rfl rfl) rfl rfl fun a F => c_nil (hK8 _ _ (?_))
      try clear hK8 K8
      by_cases c35 : 8 < (M13.length : Int)
      · have F := F.setB (d := 34) rfl (decide_eq_true c35)
        have F := F.setB (d := 35) rfl (decide_eq_true c35)
        refine c_ift F rfl (c_seq fun K9 hK9 => c_region (sp F (p_move rfl) rfl rfl fun a F => sp F (p_move rfl) rfl rfl fun a F => so F rfl (o_call (vs := #[.slice P18 N18 C18, .slice P21 N21 C21]) F Try.en_26 rfl rfl ((sameOps_ok P18 N18 C18 (makeD L13 M13) P21 N21 C21 (makeD L13 M13) w (O.arr 1 (es := makeD L13 M13) rfl encOp_len (by decide)) (by first | omega | (simp; done) | (simp; omega) | (simp at *; omega)) (by omega) (O.arr 0 (es := makeD L13 M13) rfl encOp_len (by decide)) (by first | omega | (simp; done) | (simp; omega) | (simp at *; omega)) (by omega)).mono ?_))))
        rintro e w ⟨rfl, K⟩
        refine ⟨_, rfl, fun a F => ?_⟩
        have O : Own w0 [] [.row 43 3 (.slice P21 N21 C21) N21 ((makeD L13 M13).flatMap encOp), .row 43 3 (.slice P18 N18 C18) N18 ((makeD L13 M13).flatMap encOp)] w := O.call0 K
        clear K
        have F := F.setB (d := 38) rfl (decide_eq_true c24)
        have O : Own w0 [] [.row 43 3 (.slice P21 N21 C21) N21 ((makeD L13 M13).flatMap encOp), .row 43 3 (.slice P18 N18 C18) N18 ((makeD L13 M13).flatMap encOp)] w := O
        refine sp F (p_assign rfl) rfl rfl fun a F => c_nil (hK9 _ _ (?_))
        try clear hK9 K9
        refine wp_ret (r_then (ret1 F rfl rfl (?_)))
        have O : Own w0 [] [] w := (O.take 0)
        exact ⟨rfl, O⟩
      · have F := F.setB (d := 34) rfl (decide_eq_false c35)
        have F := F.setB (d := 35) rfl (decide_eq_false c35)
        refine c_iff F rfl (wp_skip (hK7 _ _ (?_)))
        try clear hK7 K7
        refine c_seq fun K9 hK9 => ?_
        have h5 := (makeD_size (b := L13) (t := M13) (by omega) (by omega)).1
        unfold dsz at h5
        refine c_region (sp F (p_move rfl) rfl rfl fun a F => so F rfl (o_call (vs := #[.slice P18 N18 C18]) F Try.en_13 rfl rfl ((iDeltaSize_ok P18 N18 C18 (makeD L13 M13) w (O.arr 1 (es := makeD L13 M13) rfl encOp_len (by decide)) (by first | omega | (simp; done) | (simp; omega) | (simp at *; omega)) (by omega) (by omega)).mono ?_)))
        rintro e w ⟨rfl, K⟩
        refine ⟨_, rfl, fun a F => ?_⟩
        have O : Own w0 [] [.row 43 3 (.slice P21 N21 C21) N21 ((makeD L13 M13).flatMap encOp), .row 43 3 (.slice P18 N18 C18) N18 ((makeD L13 M13).flatMap encOp)] w := O.call0 K
        clear K
        have O : Own w0 [] [.row 43 3 (.slice P21 N21 C21) N21 ((makeD L13 M13).flatMap encOp), .row 43 3 (.slice P18 N18 C18) N18 ((makeD L13 M13).flatMap encOp)] w := O
        refine sp F (p_assign rfl) rfl rfl fun a F => c_nil (hK9 _ _ (?_))
        try clear hK9 K9
        refine c_seq fun K10 hK10 => c_region (sp F (p_move rfl) rfl rfl fun a F => sp F (p_move rfl) rfl rfl fun a F => sp F (p_len_b rfl Try.underlying9) rfl rfl fun a F => sp F (p_add rfl rfl (by omega) (by omega)) rfl rfl fun a F => sp F (p_leq rfl rfl) rfl rfl fun a F => ?_)
        have c45 : (((makeD L13 M13).length : Int) + tsz (makeD L13 M13)) ≤ ((M13.length : Int) + 1) := by have h5 := (makeD_size (b := L13) (t := M13) (by omega) (by omega)).1; unfold dsz at h5; omega
        have F := F.setB (d := 45) rfl (decide_eq_true c45)
        refine sp F (p_move rfl) rfl rfl fun a F => sp F (p_move rfl) rfl rfl fun a F => sp F (p_eql rfl rfl) rfl rfl fun a F => sp F (p_move rfl) rfl rfl fun a F => sp F (p_seq rfl rfl) rfl rfl fun a F => ?_
        by_cases c48 : (((makeD L13 M13).length : Int) + tsz (makeD L13 M13)) = 0
        · have F := F.setB (d := 48) rfl (decide_eq_true c48)
          have c50 : M13 = ([]) := by have h5 := (makeD_size (b := L13) (t := M13) (by omega) (by omega)).2; unfold dsz at h5; exact h5.1 c48
          have F := F.setB (d := 50) rfl (decide_eq_true c50)
          refine sp F (p_beqL rfl rfl Try.underlying4 true (by rfl)) rfl rfl fun a F => sp F (p_pick (t := true) rfl rfl) rfl rfl fun a F => sp F (p_assign rfl) rfl rfl fun a F => c_nil (hK10 _ _ (?_))
          try clear hK10 K10
          refine wp_ret (ret1 F rfl rfl (?_))
          have O : Own w0 [] [] w := (O.take 0)
          exact ⟨rfl, O⟩
        · have F := F.setB (d := 48) rfl (decide_eq_false c48)
          have c50 : ¬ (M13 = ([])) := by have h5 := (makeD_size (b := L13) (t := M13) (by omega) (by omega)).2; unfold dsz at h5; exact fun h => c48 (h5.2 h)
          have F := F.setB (d := 50) rfl (decide_eq_false c50)
          refine sp F (p_beqL rfl rfl Try.underlying4 true (by rfl)) rfl rfl fun a F => sp F (p_pick (t := true) rfl rfl) rfl rfl fun a F => sp F (p_assign rfl) rfl rfl fun a F => c_nil (hK10 _ _ (?_))
          try clear hK10 K10
          refine wp_ret (ret1 F rfl rfl (?_))
          have O : Own w0 [] [] w := (O.take 0)
          exact ⟨rfl, O⟩

set_option maxRecDepth 100000 in
theorem deltaSize_lifted (os : Os) (started : os.Started) (H : Type) (enc : TypeId × Value → H) :
    ReturnsInHanded {} Try.checked os 10 .any (Rows.fnDeltaSizeSpec.pre6 enc Try.prog Try.f10 Rows.fnDeltaSizeRow.domain false) (Rows.fnDeltaSizeSpec.post enc Try.prog Try.f10 false true false false) := by
  have e0 : Rows.fnDeltaSizeRow.domain = [] := rfl
  rw [e0]
  refine lifted_shaped started (by kernel_rfl) Try.func10 rfl ?_ (by kernel_rfl) (by kernel_rfl)
    (ChangeSpec.witness6 (enc := enc) (C := Try.checked) false ⟨#[], #[.slice none 0 0], []⟩ 8 (by kernel_rfl) (by kernel_rfl) (by kernel_rfl) (by kernel_rfl)) ?_
  · intro ds hds
    match ds, hds with
    | [_], _ => rfl
  intro W base args ds p m0 hval0 hA0 hm hl
  have hval : ∀ (j : Nat) t v, Try.f10.params[j]? = some t → args[j]? = some v → Value.okWide Try.prog W .any base t v := hval0
  have hA : DataW.TrodAll enc Try.prog W 0 (fun _ => true) true Try.f10.params.toList args.toList ds p := hA0
  clear hA0 hval0
  show Calls Try.prog 10 args W _
  rw [Try.params10] at hA hval
  obtain ⟨v0, d0, hargs, rfl, h0⟩ := trodAll_one hA
  obtain rfl : args = #[v0] := by cases args; simp_all
  obtain ⟨a, n, c, rfl, hC⟩ := open_codeIn (hval 0 22 v0 rfl rfl) h0
  exact (deltaSize_ok a n c m0 W hC hl hm).mono fun e w' h => ⟨h.1, h.2.below⟩

theorem deltaSize_pkg : ¬ Check.packageOf Try.f10.name = "main" := by
  intro h
  have h2 := congrArg String.toList h
  simp only [Check.packageOf, Try.f10] at h2
  simp at h2

theorem deltaSize_closed : lawFacts Try.prog 10 Try.f10 Rows.fnDeltaSizeSpec Rows.fnDeltaSizeRow = true := by kernel_rfl
theorem deltaSize_facts : joinedFacts Try.pinned.checked.prog 10 Try.f10 Rows.fnDeltaSizeSpec Rows.fnDeltaSizeRow = true := facts_of (P := Try.prog) Try.facts deltaSize_closed

theorem deltaSize_wrap : Func.isWrapper Try.pinned.checked.prog Try.f10 Rows.fnDeltaSizeRow.wrapper Rows.fnDeltaSizeRow.mainSum := by
  have e1 : Rows.fnDeltaSizeRow.wrapper = false := rfl
  have e2 : Rows.fnDeltaSizeRow.mainSum = "" := rfl
  rw [e1, e2]
  exact wrapper_of Try.pinned.checked.prog Try.f10 deltaSize_pkg

/-- The statement. -/
theorem deltaSize_over : Rows.fnDeltaSizeRow.holds Try.pinned (OpenSpec.ofChange Rows.fnDeltaSizeSpec) :=
  OpenClaim.holds_of_wide 10 Try.f10 rfl rfl rfl rfl rfl rfl rfl ⟨rfl, rfl, rfl, rfl, rfl⟩ rfl rfl rfl rfl rfl (by kernel_rfl) Try.func10 deltaSize_facts
    (of_decide_eq_true (by kernel_rfl)) deltaSize_wrap
    (fun os started H enc _ => deltaSize_lifted os started H enc)
theorem deltaSize_holds : Rows.FnDeltaSizeSaid := deltaSize_over
#print axioms deltaSize_holds

end Go.Proofs.Ytbhidkcljekobaa
