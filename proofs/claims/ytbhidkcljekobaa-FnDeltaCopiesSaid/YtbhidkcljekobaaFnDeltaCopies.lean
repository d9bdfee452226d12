/- Only parts of two bytes or more are copied: the law FnDeltaCopies returns true. No conditions. -/
import Derived.Test.YtbhidkcljekobaaDelC
import Derived.Test.YtbhidkcljekobaaOpenC
import Derived.Test.YtbhidkcljekobaaDoorD
namespace Go.Proofs.Ytbhidkcljekobaa
open Go.ChangeShapes Go.WideShapes Go.ChangeAt Go.RowKit
set_option linter.unusedVariables false
set_option linter.unusedSimpArgs false


section
variable {b t : List UInt8} {acc l : List Op3} {e : Op3}
theorem lastOp_snoc : lastOp (l ++ [e]) = e := by unfold lastOp; simp [List.getD_eq_getElem?_getD]
theorem set_last {o : Op3} : (l ++ [o]).set ((l ++ [o]).length - 1) e = l ++ [e] := by simp
def OkOp (e : Op3) : Prop := (e.2.1 = 0 ∨ 2 ≤ e.2.1) ∧ (0 < e.2.1 → e.2.2 = [])
def OkOps (acc : List Op3) : Prop := (∀ (i : Nat) e, acc[i]? = some e → OkOp e) ∧ ∀ (i : Nat) e f, acc[i]? = some e → acc[i + 1]? = some f → ¬ (e.2.1 = 0 ∧ f.2.1 = 0)
theorem okOps_nil : OkOps [] := ⟨fun i e h => by simp at h, fun i e f h => by simp at h⟩
theorem okOps_pre (h : OkOps (l ++ [e])) : OkOps l := ⟨fun i f hf => h.1 i f (by rw [List.getElem?_append_left (List.getElem?_eq_some_iff.1 hf).1]; exact hf), fun i f g hf hg => h.2 i f g (by rw [List.getElem?_append_left (List.getElem?_eq_some_iff.1 hf).1]; exact hf) (by rw [List.getElem?_append_left (List.getElem?_eq_some_iff.1 hg).1]; exact hg)⟩
theorem okOps_snoc (h : OkOps l) (he : OkOp e) (hl : l = [] ∨ ¬ ((lastOp l).2.1 = 0 ∧ e.2.1 = 0)) : OkOps (l ++ [e]) := by
  refine ⟨fun i f hf => ?_, fun i f g hf hg => ?_⟩
  · by_cases hi : i < l.length
    · rw [List.getElem?_append_left hi] at hf; exact h.1 i f hf
    · have h1 := (List.getElem?_eq_some_iff.1 hf).1
      simp at h1
      have : i = l.length := by omega
      subst this
      simp at hf; subst hf; exact he
  · have h1 := (List.getElem?_eq_some_iff.1 hg).1
    simp at h1
    rw [List.getElem?_append_left (by omega)] at hf
    by_cases hi : i + 1 < l.length
    · rw [List.getElem?_append_left hi] at hg; exact h.2 i f g hf hg
    · have : i + 1 = l.length := by omega
      rw [this] at hg
      simp at hg; subst hg
      rcases hl with rfl | hl
      · simp at this
      · have e1 : lastOp l = f := by
          unfold lastOp
          rw [show l.length - 1 = i by omega, List.getD_eq_getElem?_getD, hf]; rfl
        rw [e1] at hl; exact hl
theorem okOps_step (h : OkOps acc) : OkOps (mkStep b t acc) := by
  unfold mkStep
  by_cases h2 : 2 ≤ longZ b t
  · rw [if_pos h2]
    exact okOps_snoc h ⟨.inr h2, fun _ => rfl⟩ (.inr (by simp only; omega))
  · rw [if_neg h2]
    by_cases hl : (lastOp acc).2.1 = 0
    · rw [if_pos hl]
      rcases List.eq_nil_or_concat acc with rfl | ⟨l, o, rfl⟩
      · simp [lastOp] at hl
      · rw [List.concat_eq_append] at *
        rw [lastOp_snoc] at hl ⊢
        rw [set_last]
        refine okOps_snoc (okOps_pre h) ⟨.inl hl, fun h => by simp only at h; omega⟩ ?_
        rcases List.eq_nil_or_concat l with rfl | ⟨l2, o2, rfl⟩
        · exact .inl rfl
        · refine .inr ?_
          rw [List.concat_eq_append] at *
          rw [lastOp_snoc]
          exact h.2 l2.length o2 o (by simp) (by simp)
    · rw [if_neg hl]
      exact okOps_snoc h ⟨.inl rfl, fun h => by simp at h⟩ (.inr (fun h => hl h.1))
theorem mkD_ok : ∀ (f : Nat) (t : List UInt8) (acc : List Op3), OkOps acc → OkOps (mkD b f t acc)
  | 0, t, acc, h => h
  | f + 1, t, acc, h => by
    rw [mkD]
    split
    · exact h
    · exact mkD_ok f _ _ (okOps_step h)
theorem makeD_okOps : OkOps (makeD b t) := by
  unfold makeD
  split
  · exact mkD_ok _ _ _ okOps_nil
  · exact okOps_nil
end
set_option maxRecDepth 100000 in
/-- laws.FnDeltaCopies -/
theorem deltaCopies_ok (A : Option Addr) (cn : Nat) (cc : Nat) (m0 : Int) (w0 : World) (hC : CodeIn w0 A cn cc) (hl_0 : 0 < w0.heap.size) (hm_0_0 : w0.cell? ⟨0, 0, none⟩ = some (.int .i64 (m0))) :
    Calls Try.prog 6 #[.slice A cn cc] w0 fun e w => e = .returned (.bool true) ∧ Own w0 [] [] w := by
  have O := Own.start w0
  have hcc : (cn : Int) ≤ cc := by have := hC.1; omega
  have hcm : (cc : Int) ≤ 9223372036854775807 := by have := hC.2.1; unfold maxLen at this; omega
  refine enterO (n := 78) Try.func6 rfl rfl rfl O fun a w F O => ?_
  refine c_seq fun K1 hK1 => c_region (sp F (p_assign rfl) rfl rfl fun a F => c_nil (hK1 _ _ (?_)))
  try clear hK1 K1
  refine c_seq fun K2 hK2 => c_seq fun K3 hK3 => c_region (sp F (p_move rfl) rfl rfl fun a F => sp F (p_len_l rfl Try.underlying22) rfl rfl fun a F => sp F (p_gtr rfl rfl) rfl rfl fun a F => c_nil (hK3 _ _ (?_)))
  try clear hK3 K3
  by_cases c10 : 1048576 < (cn : Int)
  · have F := F.setB (d := 10) rfl (decide_eq_true c10)
    refine c_ift F rfl (c_seq fun K4 hK4 => c_region (sp F (p_assign rfl) rfl rfl fun a F => c_nil (hK4 _ _ (?_))))
    try clear hK4 K4
    refine wp_ret (r_then (ret1 F rfl rfl (?_)))
    exact ⟨rfl, O⟩
  · have F := F.setB (d := 10) rfl (decide_eq_false c10)
    refine c_iff F rfl (wp_skip (hK2 _ _ (?_)))
    try clear hK2 K2
    refine c_seq fun K4 hK4 => c_region (sp F (p_move rfl) rfl rfl fun a F => so F rfl (o_call (vs := #[.slice A cn cc]) F Try.en_23 rfl rfl ((dDeltaMake_ok A cn cc w (hC.keep O)).mono ?_)))
    rintro e w ⟨L13, M13, rfl, h13a, h13b, K⟩
    refine ⟨_, rfl, fun a F => ?_⟩
    have O : Own w0 [] [] w := O.call0 K
    clear K
    have O : Own w0 [] [] w := O
    refine sp F (p_move rfl) rfl rfl fun a F => sp F (p_extract rfl rfl) rfl rfl fun a F => sp F (p_extract rfl rfl) rfl rfl fun a F => sp F (p_assign rfl) rfl rfl fun a F => sp F (p_assign rfl) rfl rfl fun a F => c_nil (hK4 _ _ (?_))
    try clear hK4 K4
    refine c_seq fun K5 hK5 => c_region (sp F (p_move rfl) rfl rfl fun a F => sp F (p_move rfl) rfl rfl fun a F => so F rfl (o_call (vs := #[.string (bs (L13)), .string (bs (M13))]) F Try.en_24 rfl rfl ((iDeltaMake_ok L13 M13 m0 w (by first | omega | (simp; done) | (simp; omega)) (by first | omega | (simp; done) | (simp; omega)) (Nat.lt_of_lt_of_le hl_0 O.size) (((O.old hl_0 (by simp)).trans hm_0_0))).mono ?_)))
    rintro e w ⟨P18, N18, C18, rfl, h18a, h18b, K⟩
    refine ⟨_, rfl, fun a F => ?_⟩
    have O : Own w0 [] [.row 43 3 (.slice P18 N18 C18) N18 ((makeD L13 M13).flatMap encOp)] w := O.call0 K
    clear K
    have O : Own w0 [] [.row 43 3 (.slice P18 N18 C18) N18 ((makeD L13 M13).flatMap encOp)] w := O
    refine sp F (p_assign rfl) rfl rfl fun a F => c_nil (hK5 _ _ (?_))
    try clear hK5 K5
    refine c_seq fun K6 hK6 => c_region (sp F (p_move rfl) rfl rfl fun a F => sp F (p_move rfl) rfl rfl fun a F => so F rfl (o_call (vs := #[.string (bs (L13)), .string (bs (M13))]) F Try.en_25 rfl rfl ((sDeltaMake_ok L13 M13 w (by first | omega | (simp; done) | (simp; omega)) (by first | omega | (simp; done) | (simp; omega))).mono ?_)))
    rintro e w ⟨P21, N21, C21, rfl, h21a, h21b, K⟩
    refine ⟨_, rfl, fun a F => ?_⟩
    have O : Own w0 [] [.row 43 3 (.slice P21 N21 C21) N21 ((makeD L13 M13).flatMap encOp), .row 43 3 (.slice P18 N18 C18) N18 ((makeD L13 M13).flatMap encOp)] w := O.call0 K
    clear K
    have O : Own w0 [] [.row 43 3 (.slice P21 N21 C21) N21 ((makeD L13 M13).flatMap encOp), .row 43 3 (.slice P18 N18 C18) N18 ((makeD L13 M13).flatMap encOp)] w := O
    refine sp F (p_assign rfl) rfl rfl fun a F => c_nil (hK6 _ _ (?_))
    try clear hK6 K6
    refine c_seq fun K7 hK7 => c_seq fun K8 hK8 => c_region (sp F (p_move rfl) rfl rfl fun a F => sp F (p_move rfl) rfl rfl fun a F => so F rfl (o_call (vs := #[.slice P18 N18 C18, .slice P21 N21 C21]) F Try.en_26 rfl rfl ((sameOps_ok P18 N18 C18 (makeD L13 M13) P21 N21 C21 (makeD L13 M13) w (O.arr 1 (es := makeD L13 M13) rfl encOp_len (by decide)) (by first | omega | (simp; done) | (simp; omega) | (simp at *; omega)) (by omega) (O.arr 0 (es := makeD L13 M13) rfl encOp_len (by decide)) (by first | omega | (simp; done) | (simp; omega) | (simp at *; omega)) (by omega)).mono ?_)))
    rintro e w ⟨rfl, K⟩
    refine ⟨_, rfl, fun a F => ?_⟩
    have O : Own w0 [] [.row 43 3 (.slice P21 N21 C21) N21 ((makeD L13 M13).flatMap encOp), .row 43 3 (.slice P18 N18 C18) N18 ((makeD L13 M13).flatMap encOp)] w := O.call0 K
    clear K
    have c24 : (makeD L13 M13) = (makeD L13 M13) := by rfl
    have F := F.setB (d := 24) rfl (decide_eq_true c24)
    have O : Own w0 [] [.row 43 3 (.slice P21 N21 C21) N21 ((makeD L13 M13).flatMap encOp), .row 43 3 (.slice P18 N18 C18) N18 ((makeD L13 M13).flatMap encOp)] w := O
    refine sp F (p_not rfl) rfl rfl fun a F => c_nil (hK8 _ _ (?_))
    try clear hK8 K8
    refine c_iff F rfl (wp_skip (hK7 _ _ (?_)))
    try clear hK7 K7
    refine c_seq fun K9 hK9 => c_seq fun K10 hK10 => c_region (sp F (p_assign rfl) rfl rfl fun a F => c_nil (hK10 _ _ (?_)))
    try clear hK10 K10
    refine wp_block (?_)
    refine c_loop (fun mm a w => ∃ (k : Int), mm = ((N18 : Int) - k).toNat ∧ Has 78 [(0, .slice A cn cc), (10, .bool false), (3, .string (bs (L13))), (4, .string (bs (M13))), (5, .slice P18 N18 C18), (6, .slice P21 N21 C21), (25, .bool false), (7, .int .i64 (k))] a ∧ Own w0 [] [.row 43 3 (.slice P21 N21 C21) N21 ((makeD L13 M13).flatMap encOp), .row 43 3 (.slice P18 N18 C18) N18 ((makeD L13 M13).flatMap encOp)] w ∧ (0 ≤ k) ∧ (k ≤ N18)) ?_ ?_
    · have F : Has 78 [(0, .slice A cn cc), (10, .bool false), (3, .string (bs (L13))), (4, .string (bs (M13))), (5, .slice P18 N18 C18), (6, .slice P21 N21 C21), (25, .bool false), (7, .int .i64 (0))] a := F.pick ⟨rfl, rfl, rfl, rfl, rfl, rfl, rfl, rfl, trivial⟩
      exact ⟨((N18 : Int) - 0).toNat, 0, rfl, F, O, by first | assumption | omega, by first | assumption | omega⟩
    · rintro mm a w ⟨k, rfl, F, O, hi0a, hi0b⟩
      refine c_seq fun K11 hK11 => c_seq fun K12 hK12 => c_region (sp F (p_move rfl) rfl rfl fun a F => sp F (p_move rfl) rfl rfl fun a F => sp F (p_len_l rfl Try.underlying23) rfl rfl fun a F => sp F (p_lss rfl rfl) rfl rfl fun a F => c_nil (hK12 _ _ (?_)))
      try clear hK12 K12
      by_cases c32 : k < (N18 : Int)
      · have F := F.setB (d := 32) rfl (decide_eq_true c32)
        refine c_ift F rfl (wp_skip (hK11 _ _ (?_)))
        try clear hK11 K11
        refine c_seq fun K13 hK13 => wp_block (c_seq fun K14 hK14 => c_region (sp F (p_move rfl) rfl rfl fun a F => sp F (p_move rfl) rfl rfl fun a F => ?_))
        obtain ⟨b37, hp37⟩ := O.rowSome 1 rfl (by omega)
        rw [hp37] at O
        try rw [hp37] at F
        obtain ⟨e37, he37⟩ := get_some (l := makeD L13 M13) (i := k) (by omega) (by first | omega | (simp; omega))
        have hok := (makeD_okOps (b := L13) (t := M13)).1 _ _ he37
        unfold OkOp at hok
        refine sp F (p_iaddr rfl rfl Try.underlying23 Try.sz_43 (by omega) (by omega)) rfl rfl fun a F => sp F (p_faddr rfl Try.foff_43_1) rfl rfl fun a F => sp F (p_load rfl Try.agg_3 (fun _ h => (ld1 ((O.loadRow 1 rfl (flat_get encOp_len he37 (j := 1) rfl))) h))) rfl rfl fun a F => sp F (p_eql rfl rfl) rfl rfl fun a F => ?_
        have c40 : ¬ (e37.2.1 = 1) := by omega
        have F := F.setB (d := 40) rfl (decide_eq_false c40)
        refine sp F (p_move rfl) rfl rfl fun a F => sp F (p_move rfl) rfl rfl fun a F => sp F (p_move rfl) rfl rfl fun a F => ?_
        have hok := (makeD_okOps (b := L13) (t := M13)).1 _ _ he37
        unfold OkOp at hok
        refine sp F (p_iaddr rfl rfl Try.underlying23 Try.sz_43 (by omega) (by omega)) rfl rfl fun a F => sp F (p_faddr rfl Try.foff_43_1) rfl rfl fun a F => sp F (p_load rfl Try.agg_3 (fun _ h => (ld1 ((O.loadRow 1 rfl (flat_get encOp_len he37 (j := 1) rfl))) h))) rfl rfl fun a F => sp F (p_gtr rfl rfl) rfl rfl fun a F => sp F (p_move rfl) rfl rfl fun a F => ?_
        by_cases c48 : 0 < e37.2.1
        · have F := F.setB (d := 47) rfl (decide_eq_true c48)
          have F := F.setB (d := 48) rfl (decide_eq_true c48)
          refine sp F (p_move rfl) rfl rfl fun a F => sp F (p_move rfl) rfl rfl fun a F => ?_
          have hok := (makeD_okOps (b := L13) (t := M13)).1 _ _ he37
          unfold OkOp at hok
          refine sp F (p_iaddr rfl rfl Try.underlying23 Try.sz_43 (by omega) (by omega)) rfl rfl fun a F => sp F (p_faddr rfl Try.foff_43_2) rfl rfl fun a F => sp F (p_load rfl Try.agg_9 (fun _ h => (ld1 ((O.loadRow 1 rfl (flat_get encOp_len he37 (j := 2) rfl))) h))) rfl rfl fun a F => sp F (p_sne rfl rfl) rfl rfl fun a F => ?_
          have c54 : e37.2.2 = ([]) := by exact hok.2 (by omega)
          have F := F.setB (d := 54) rfl (decide_eq_false (fun h => h c54))
          refine sp F (p_pick (t := true) rfl rfl) rfl rfl fun a F => sp F (p_pick (t := false) rfl rfl) rfl rfl fun a F => sp F (p_move rfl) rfl rfl fun a F => sp F (p_move rfl) rfl rfl fun a F => sp F (p_gtr rfl rfl) rfl rfl fun a F => sp F (p_move rfl) rfl rfl fun a F => ?_
          by_cases c60 : 0 < k
          · have F := F.setB (d := 59) rfl (decide_eq_true c60)
            have F := F.setB (d := 60) rfl (decide_eq_true c60)
            refine sp F (p_move rfl) rfl rfl fun a F => sp F (p_move rfl) rfl rfl fun a F => ?_
            have hok := (makeD_okOps (b := L13) (t := M13)).1 _ _ he37
            unfold OkOp at hok
            refine sp F (p_iaddr rfl rfl Try.underlying23 Try.sz_43 (by omega) (by omega)) rfl rfl fun a F => sp F (p_faddr rfl Try.foff_43_1) rfl rfl fun a F => sp F (p_load rfl Try.agg_3 (fun _ h => (ld1 ((O.loadRow 1 rfl (flat_get encOp_len he37 (j := 1) rfl))) h))) rfl rfl fun a F => sp F (p_eql rfl rfl) rfl rfl fun a F => sp F (p_pick (t := true) rfl rfl) rfl rfl fun a F => sp F (p_move rfl) rfl rfl fun a F => ?_
            by_cases c68 : e37.2.1 = 0
            · have F := F.setB (d := 66) rfl (decide_eq_true c68)
              have F := F.setB (d := 67) rfl (decide_eq_true c68)
              have F := F.setB (d := 68) rfl (decide_eq_true c68)
              refine sp F (p_move rfl) rfl rfl fun a F => sp F (p_move rfl) rfl rfl fun a F => sp F (p_sub rfl rfl (by omega) (by omega)) rfl rfl fun a F => ?_
              obtain ⟨e72, he72⟩ := get_some (l := makeD L13 M13) (i := k - 1) (by omega) (by first | omega | (simp; omega))
              refine sp F (p_iaddr rfl rfl Try.underlying23 Try.sz_43 (by omega) (by omega)) rfl rfl fun a F => sp F (p_faddr rfl Try.foff_43_1) rfl rfl fun a F => sp F (p_load rfl Try.agg_3 (fun _ h => (ld1 ((O.loadRow 1 rfl (flat_get encOp_len he72 (j := 1) rfl))) h))) rfl rfl fun a F => sp F (p_eql rfl rfl) rfl rfl fun a F => ?_
              have c75 : ¬ (e72.2.1 = 0) := by intro h9; have h8 := (makeD_okOps (b := L13) (t := M13)).2 (k - 1).toNat e72 e37 (by first | exact he72 | simpa using he72) (by rw [show (k - 1).toNat + 1 = k.toNat by omega]; exact he37); exact h8 ⟨h9, by omega⟩
              have F := F.setB (d := 75) rfl (decide_eq_false c75)
              refine sp F (p_pick (t := true) rfl rfl) rfl rfl fun a F => sp F (p_pick (t := false) rfl rfl) rfl rfl fun a F => c_nil (hK14 _ _ (?_))
              try clear hK14 K14
              refine c_iff F rfl (wp_skip (hK13 _ _ (?_)))
              try clear hK13 K13
              refine c_region (sp F (p_move rfl) rfl rfl fun a F => sp F (p_add rfl rfl (by omega) (by omega)) rfl rfl fun a F => sp F (p_assign rfl) rfl rfl fun a F => c_nil (?_))
              try rw [← hp37] at F
              try rw [← hp37] at O
              have F : Has 78 [(0, .slice A cn cc), (10, .bool false), (3, .string (bs (L13))), (4, .string (bs (M13))), (5, .slice P18 N18 C18), (6, .slice P21 N21 C21), (25, .bool false), (7, .int .i64 (k + 1))] a := F.pick ⟨rfl, rfl, rfl, rfl, rfl, rfl, rfl, rfl, trivial⟩
              exact ⟨((N18 : Int) - (k + 1)).toNat, by omega, (k + 1), rfl, F, O, by first | assumption | omega, by first | assumption | omega⟩
            · have F := F.setB (d := 66) rfl (decide_eq_false c68)
              have F := F.setB (d := 67) rfl (decide_eq_false c68)
              have F := F.setB (d := 68) rfl (decide_eq_false c68)
              refine ss F rfl rfl fun a F => ss F rfl rfl fun a F => ss F rfl rfl fun a F => ss F rfl rfl fun a F => ss F rfl rfl fun a F => ss F rfl rfl fun a F => ss F rfl rfl fun a F => sp F (p_pick (t := false) rfl rfl) rfl rfl fun a F => sp F (p_pick (t := false) rfl rfl) rfl rfl fun a F => c_nil (hK14 _ _ (?_))
              try clear hK14 K14
              refine c_iff F rfl (wp_skip (hK13 _ _ (?_)))
              try clear hK13 K13
              refine c_region (sp F (p_move rfl) rfl rfl fun a F => sp F (p_add rfl rfl (by omega) (by omega)) rfl rfl fun a F => sp F (p_assign rfl) rfl rfl fun a F => c_nil (?_))
              try rw [← hp37] at F
              try rw [← hp37] at O
              have F : Has 78 [(0, .slice A cn cc), (10, .bool false), (3, .string (bs (L13))), (4, .string (bs (M13))), (5, .slice P18 N18 C18), (6, .slice P21 N21 C21), (25, .bool false), (7, .int .i64 (k + 1))] a := F.pick ⟨rfl, rfl, rfl, rfl, rfl, rfl, rfl, rfl, trivial⟩
              exact ⟨((N18 : Int) - (k + 1)).toNat, by omega, (k + 1), rfl, F, O, by first | assumption | omega, by first | assumption | omega⟩
          · have F := F.setB (d := 59) rfl (decide_eq_false c60)
            have F := F.setB (d := 60) rfl (decide_eq_false c60)
            refine ss F rfl rfl fun a F => ss F rfl rfl fun a F => ss F rfl rfl fun a F => ss F rfl rfl fun a F => ss F rfl rfl fun a F => ss F rfl rfl fun a F => sp F (p_pick (t := false) rfl rfl) rfl rfl fun a F => sp F (p_move rfl) rfl rfl fun a F => ss F rfl rfl fun a F => ss F rfl rfl fun a F => ss F rfl rfl fun a F => ss F rfl rfl fun a F => ss F rfl rfl fun a F => ?_
            refine ss F rfl rfl fun a F => ss F rfl rfl fun a F => sp F (p_pick (t := false) rfl rfl) rfl rfl fun a F => sp F (p_pick (t := false) rfl rfl) rfl rfl fun a F => c_nil (hK14 _ _ (?_))
            try clear hK14 K14
            refine c_iff F rfl (wp_skip (hK13 _ _ (?_)))
            try clear hK13 K13
            refine c_region (sp F (p_move rfl) rfl rfl fun a F => sp F (p_add rfl rfl (by omega) (by omega)) rfl rfl fun a F => sp F (p_assign rfl) rfl rfl fun a F => c_nil (?_))
            try rw [← hp37] at F
            try rw [← hp37] at O
            have F : Has 78 [(0, .slice A cn cc), (10, .bool false), (3, .string (bs (L13))), (4, .string (bs (M13))), (5, .slice P18 N18 C18), (6, .slice P21 N21 C21), (25, .bool false), (7, .int .i64 (k + 1))] a := F.pick ⟨rfl, rfl, rfl, rfl, rfl, rfl, rfl, rfl, trivial⟩
            exact ⟨((N18 : Int) - (k + 1)).toNat, by omega, (k + 1), rfl, F, O, by first | assumption | omega, by first | assumption | omega⟩
        · have F := F.setB (d := 47) rfl (decide_eq_false c48)
          have F := F.setB (d := 48) rfl (decide_eq_false c48)
          refine ss F rfl rfl fun a F => ss F rfl rfl fun a F => ss F rfl rfl fun a F => ss F rfl rfl fun a F => ss F rfl rfl fun a F => ss F rfl rfl fun a F => sp F (p_pick (t := false) rfl rfl) rfl rfl fun a F => sp F (p_pick (t := false) rfl rfl) rfl rfl fun a F => sp F (p_move rfl) rfl rfl fun a F => sp F (p_move rfl) rfl rfl fun a F => sp F (p_gtr rfl rfl) rfl rfl fun a F => sp F (p_move rfl) rfl rfl fun a F => ?_
          by_cases c60 : 0 < k
          · have F := F.setB (d := 59) rfl (decide_eq_true c60)
            have F := F.setB (d := 60) rfl (decide_eq_true c60)
            refine sp F (p_move rfl) rfl rfl fun a F => sp F (p_move rfl) rfl rfl fun a F => ?_
            have hok := (makeD_okOps (b := L13) (t := M13)).1 _ _ he37
            unfold OkOp at hok
            refine sp F (p_iaddr rfl rfl Try.underlying23 Try.sz_43 (by omega) (by omega)) rfl rfl fun a F => sp F (p_faddr rfl Try.foff_43_1) rfl rfl fun a F => sp F (p_load rfl Try.agg_3 (fun _ h => (ld1 ((O.loadRow 1 rfl (flat_get encOp_len he37 (j := 1) rfl))) h))) rfl rfl fun a F => sp F (p_eql rfl rfl) rfl rfl fun a F => sp F (p_pick (t := true) rfl rfl) rfl rfl fun a F => sp F (p_move rfl) rfl rfl fun a F => ?_
            by_cases c68 : e37.2.1 = 0
            · have F := F.setB (d := 66) rfl (decide_eq_true c68)
              have F := F.setB (d := 67) rfl (decide_eq_true c68)
              have F := F.setB (d := 68) rfl (decide_eq_true c68)
              refine sp F (p_move rfl) rfl rfl fun a F => sp F (p_move rfl) rfl rfl fun a F => sp F (p_sub rfl rfl (by omega) (by omega)) rfl rfl fun a F => ?_
              obtain ⟨e72, he72⟩ := get_some (l := makeD L13 M13) (i := k - 1) (by omega) (by first | omega | (simp; omega))
              refine sp F (p_iaddr rfl rfl Try.underlying23 Try.sz_43 (by omega) (by omega)) rfl rfl fun a F => sp F (p_faddr rfl Try.foff_43_1) rfl rfl fun a F => sp F (p_load rfl Try.agg_3 (fun _ h => (ld1 ((O.loadRow 1 rfl (flat_get encOp_len he72 (j := 1) rfl))) h))) rfl rfl fun a F => sp F (p_eql rfl rfl) rfl rfl fun a F => ?_
              have c75 : ¬ (e72.2.1 = 0) := by intro h9; have h8 := (makeD_okOps (b := L13) (t := M13)).2 (k - 1).toNat e72 e37 (by first | exact he72 | simpa using he72) (by rw [show (k - 1).toNat + 1 = k.toNat by omega]; exact he37); exact h8 ⟨h9, by omega⟩
              have F := F.setB (d := 75) rfl (decide_eq_false c75)
              refine sp F (p_pick (t := true) rfl rfl) rfl rfl fun a F => sp F (p_pick (t := false) rfl rfl) rfl rfl fun a F => c_nil (hK14 _ _ (?_))
              try clear hK14 K14
              refine c_iff F rfl (wp_skip (hK13 _ _ (?_)))
              try clear hK13 K13
              refine c_region (sp F (p_move rfl) rfl rfl fun a F => sp F (p_add rfl rfl (by omega) (by omega)) rfl rfl fun a F => sp F (p_assign rfl) rfl rfl fun a F => c_nil (?_))
              try rw [← hp37] at F
              try rw [← hp37] at O
              have F : Has 78 [(0, .slice A cn cc), (10, .bool false), (3, .string (bs (L13))), (4, .string (bs (M13))), (5, .slice P18 N18 C18), (6, .slice P21 N21 C21), (25, .bool false), (7, .int .i64 (k + 1))] a := F.pick ⟨rfl, rfl, rfl, rfl, rfl, rfl, rfl, rfl, trivial⟩
              exact ⟨((N18 : Int) - (k + 1)).toNat, by omega, (k + 1), rfl, F, O, by first | assumption | omega, by first | assumption | omega⟩
            · have F := F.setB (d := 66) rfl (decide_eq_false c68)
              have F := F.setB (d := 67) rfl (decide_eq_false c68)
              have F := F.setB (d := 68) rfl (decide_eq_false c68)
              refine ss F rfl rfl fun a F => ss F rfl rfl fun a F => ss F rfl rfl fun a F => ss F rfl rfl fun a F => ss F rfl rfl fun a F => ss F rfl rfl fun a F => ss F rfl rfl fun a F => sp F (p_pick (t := false) rfl rfl) rfl rfl fun a F => sp F (p_pick (t := false) rfl rfl) rfl rfl fun a F => c_nil (hK14 _ _ (?_))
              try clear hK14 K14
              refine c_iff F rfl (wp_skip (hK13 _ _ (?_)))
              try clear hK13 K13
              refine c_region (sp F (p_move rfl) rfl rfl fun a F => sp F (p_add rfl rfl (by omega) (by omega)) rfl rfl fun a F => sp F (p_assign rfl) rfl rfl fun a F => c_nil (?_))
              try rw [← hp37] at F
              try rw [← hp37] at O
              have F : Has 78 [(0, .slice A cn cc), (10, .bool false), (3, .string (bs (L13))), (4, .string (bs (M13))), (5, .slice P18 N18 C18), (6, .slice P21 N21 C21), (25, .bool false), (7, .int .i64 (k + 1))] a := F.pick ⟨rfl, rfl, rfl, rfl, rfl, rfl, rfl, rfl, trivial⟩
              exact ⟨((N18 : Int) - (k + 1)).toNat, by omega, (k + 1), rfl, F, O, by first | assumption | omega, by first | assumption | omega⟩
          · have F := F.setB (d := 59) rfl (decide_eq_false c60)
            have F := F.setB (d := 60) rfl (decide_eq_false c60)
            refine ss F rfl rfl fun a F => ss F rfl rfl fun a F => ss F rfl rfl fun a F => ss F rfl rfl fun a F => ss F rfl rfl fun a F => ss F rfl rfl fun a F => sp F (p_pick (t := false) rfl rfl) rfl rfl fun a F => sp F (p_move rfl) rfl rfl fun a F => ss F rfl rfl fun a F => ss F rfl rfl fun a F => ss F rfl rfl fun a F => ss F rfl rfl fun a F => ss F rfl rfl fun a F => ?_
            refine ss F rfl rfl fun a F => ss F rfl rfl fun a F => sp F (p_pick (t := false) rfl rfl) rfl rfl fun a F => sp F (p_pick (t := false) rfl rfl) rfl rfl fun a F => c_nil (hK14 _ _ (?_))
            try clear hK14 K14
            refine c_iff F rfl (wp_skip (hK13 _ _ (?_)))
            try clear hK13 K13
            refine c_region (sp F (p_move rfl) rfl rfl fun a F => sp F (p_add rfl rfl (by omega) (by omega)) rfl rfl fun a F => sp F (p_assign rfl) rfl rfl fun a F => c_nil (?_))
            try rw [← hp37] at F
            try rw [← hp37] at O
            have F : Has 78 [(0, .slice A cn cc), (10, .bool false), (3, .string (bs (L13))), (4, .string (bs (M13))), (5, .slice P18 N18 C18), (6, .slice P21 N21 C21), (25, .bool false), (7, .int .i64 (k + 1))] a := F.pick ⟨rfl, rfl, rfl, rfl, rfl, rfl, rfl, rfl, trivial⟩
            exact ⟨((N18 : Int) - (k + 1)).toNat, by omega, (k + 1), rfl, F, O, by first | assumption | omega, by first | assumption | omega⟩
      · have F := F.setB (d := 32) rfl (decide_eq_false c32)
        refine c_iff F rfl (wp_exit (e_then (e_then (e_here (hK9 _ _ (?_))))))
        try clear hK9 K9
        refine c_seq fun K13 hK13 => c_region (sp F (p_assign rfl) rfl rfl fun a F => c_nil (hK13 _ _ (?_)))
        try clear hK13 K13
        refine wp_ret (ret1 F rfl rfl (?_))
        have O : Own w0 [] [] w := (O.take 0)
        exact ⟨rfl, O⟩

set_option maxRecDepth 100000 in
theorem deltaCopies_lifted (os : Os) (started : os.Started) (H : Type) (enc : TypeId × Value → H) :
    ReturnsInHanded {} Try.checked os 6 .any (Rows.fnDeltaCopiesSpec.pre6 enc Try.prog Try.f6 Rows.fnDeltaCopiesRow.domain false) (Rows.fnDeltaCopiesSpec.post enc Try.prog Try.f6 false true false false) := by
  have e0 : Rows.fnDeltaCopiesRow.domain = [] := rfl
  rw [e0]
  refine lifted_shaped started (by kernel_rfl) Try.func6 rfl ?_ (by kernel_rfl) (by kernel_rfl)
    (ChangeSpec.witness6 (enc := enc) (C := Try.checked) false ⟨#[], #[.slice none 0 0], []⟩ 8 (by kernel_rfl) (by kernel_rfl) (by kernel_rfl) (by kernel_rfl)) ?_
  · intro ds hds
    match ds, hds with
    | [_], _ => rfl
  intro W base args ds p m0 hval0 hA0 hm hl
  have hval : ∀ (j : Nat) t v, Try.f6.params[j]? = some t → args[j]? = some v → Value.okWide Try.prog W .any base t v := hval0
  have hA : DataW.TrodAll enc Try.prog W 0 (fun _ => true) true Try.f6.params.toList args.toList ds p := hA0
  clear hA0 hval0
  show Calls Try.prog 6 args W _
  rw [Try.params6] at hA hval
  obtain ⟨v0, d0, hargs, rfl, h0⟩ := trodAll_one hA
  obtain rfl : args = #[v0] := by cases args; simp_all
  obtain ⟨a, n, c, rfl, hC⟩ := open_codeIn (hval 0 22 v0 rfl rfl) h0
  exact (deltaCopies_ok a n c m0 W hC hl hm).mono fun e w' h => ⟨h.1, h.2.below⟩

theorem deltaCopies_pkg : ¬ Check.packageOf Try.f6.name = "main" := by
  intro h
  have h2 := congrArg String.toList h
  simp only [Check.packageOf, Try.f6] at h2
  simp at h2

theorem deltaCopies_closed : lawFacts Try.prog 6 Try.f6 Rows.fnDeltaCopiesSpec Rows.fnDeltaCopiesRow = true := by kernel_rfl
theorem deltaCopies_facts : joinedFacts Try.pinned.checked.prog 6 Try.f6 Rows.fnDeltaCopiesSpec Rows.fnDeltaCopiesRow = true := facts_of (P := Try.prog) Try.facts deltaCopies_closed

theorem deltaCopies_wrap : Func.isWrapper Try.pinned.checked.prog Try.f6 Rows.fnDeltaCopiesRow.wrapper Rows.fnDeltaCopiesRow.mainSum := by
  have e1 : Rows.fnDeltaCopiesRow.wrapper = false := rfl
  have e2 : Rows.fnDeltaCopiesRow.mainSum = "" := rfl
  rw [e1, e2]
  exact wrapper_of Try.pinned.checked.prog Try.f6 deltaCopies_pkg

/-- The statement. -/
theorem deltaCopies_over : Rows.fnDeltaCopiesRow.holds Try.pinned (OpenSpec.ofChange Rows.fnDeltaCopiesSpec) :=
  OpenClaim.holds_of_wide 6 Try.f6 rfl rfl rfl rfl rfl rfl rfl ⟨rfl, rfl, rfl, rfl, rfl⟩ rfl rfl rfl rfl rfl (by kernel_rfl) Try.func6 deltaCopies_facts
    (of_decide_eq_true (by kernel_rfl)) deltaCopies_wrap
    (fun os started H enc _ => deltaCopies_lifted os started H enc)
theorem deltaCopies_holds : Rows.FnDeltaCopiesSaid := deltaCopies_over
#print axioms deltaCopies_holds

end Go.Proofs.Ytbhidkcljekobaa
