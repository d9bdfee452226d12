/- Contracts of the functions on refs and locks that check ranges; lists of numbers copied and compared. No conditions but those on lengths. -/
import Derived.Test.YtilpbddeijolbaaDoorPick
namespace Go.Proofs.YtilpbddeijolbaaDoor
open Go.ChangeShapes Go.WideShapes Go.ChangeAt Go.RowKit
set_option linter.unusedVariables false
set_option linter.unusedSimpArgs false


def okIn (lo hi : Int) (es : List Int) : Bool := es.all fun e => decide (lo ≤ e ∧ e ≤ hi)
def OkTo (lo hi k : Int) (es : List Int) : Prop := ∀ (i : Nat) e, (i : Int) < k → es[i]? = some e → lo ≤ e ∧ e ≤ hi
section
variable {lo hi k e : Int} {es es2 : List Int}
theorem okTo_zero : OkTo lo hi 0 es := fun i e h => by omega
theorem okTo_step (h : OkTo lo hi k es) (h0 : 0 ≤ k) (he : es[k.toNat]? = some e) (hle : lo ≤ e ∧ e ≤ hi) : OkTo lo hi (k + 1) es := fun i e' hi' he' => by
  by_cases hik : (i : Int) < k
  · exact h i e' hik he'
  · have : i = k.toNat := by omega
    subst this
    rw [he] at he'
    injection he' with he'
    omega
theorem okIn_iff : okIn lo hi es = true ↔ ∀ (i : Nat) e, es[i]? = some e → lo ≤ e ∧ e ≤ hi := by
  unfold okIn
  rw [List.all_eq_true]
  constructor
  · intro h i e he
    have := h e (List.mem_of_getElem? he)
    simpa using this
  · intro h x hx
    obtain ⟨i, hi'⟩ := List.getElem?_of_mem hx
    simpa using h i x hi'
theorem okIn_of (h : OkTo lo hi k es) (hk : (es.length : Int) ≤ k) : okIn lo hi es = true := okIn_iff.2 fun i e he => h i e (by have := (List.getElem?_eq_some_iff.1 he).1; omega) he
theorem okIn_not {i : Nat} (he : es[i]? = some e) (h : ¬ (lo ≤ e ∧ e ≤ hi)) : okIn lo hi es = false := Bool.eq_false_iff.2 fun h' => h (okIn_iff.1 h' i e he)
end
section
variable {α : Type} {k : Int} {es es1 es2 : List α} {e e1 e2 : α}
def SameTo (k : Int) (es es2 : List α) : Prop := ∀ i : Nat, (i : Int) < k → es[i]? = es2[i]?
theorem sameTo_zero : SameTo 0 es es2 := fun i h => by omega
theorem sameTo_step (h : SameTo k es es2) (h0 : 0 ≤ k) (he : es[k.toNat]? = some e1) (he2 : es2[k.toNat]? = some e2) (hh : e1 = e2) : SameTo (k + 1) es es2 := fun i hi => by
  by_cases hik : (i : Int) < k
  · exact h i hik
  · have : i = k.toNat := by omega
    subst this; rw [he, he2, hh]
theorem sameTo_set (h : SameTo k es1 es) (h0 : 0 ≤ k) (he : es[k.toNat]? = some e) (hl : k < es1.length) : SameTo (k + 1) (es1.set k.toNat e) es := fun i hi => by
  by_cases hik : i = k.toNat
  · subst hik
    rw [List.getElem?_set_self (by omega), he]
  · rw [List.getElem?_set_ne (by omega)]
    exact h i (by omega)
theorem same_ext (h : SameTo k es es2) (hk : (es.length : Int) ≤ k) (hl : (es.length : Int) = es2.length) : es = es2 := by
  apply List.ext_getElem?
  intro i
  by_cases hi : i < es.length
  · exact h i (by omega)
  · rw [List.getElem?_eq_none (by omega), List.getElem?_eq_none (by omega)]
end
set_option maxRecDepth 100000 in
/-- spec.l6In -/
theorem l6In_ok (n : Int) (lo : Int) (hi : Int) (w0 : World) :
    Calls Tryd.prog 36 #[.int .i64 (n), .int .i64 (lo), .int .i64 (hi)] w0 fun e w => e = .returned (.bool (decide (lo ≤ n ∧ n ≤ hi))) ∧ Own w0 [] [] w := by
  have O := Own.start w0
  refine enterO (n := 15) Tryd.func36 rfl rfl rfl O fun a w F O => ?_
  refine c_seq fun K1 hK1 => c_region (sp F (p_assign rfl) rfl rfl fun a F => c_nil (hK1 _ _ (?_)))
  try clear hK1 K1
  refine c_seq fun K2 hK2 => c_region (sp F (p_move rfl) rfl rfl fun a F => sp F (p_move rfl) rfl rfl fun a F => sp F (p_geq rfl rfl) rfl rfl fun a F => sp F (p_move rfl) rfl rfl fun a F => ?_)
  by_cases c10 : lo ≤ n
  · have F := F.setB (d := 9) rfl (decide_eq_true c10)
    have F := F.setB (d := 10) rfl (decide_eq_true c10)
    refine sp F (p_move rfl) rfl rfl fun a F => sp F (p_move rfl) rfl rfl fun a F => sp F (p_leq rfl rfl) rfl rfl fun a F => sp F (p_pick (t := true) rfl rfl) rfl rfl fun a F => sp F (p_assign rfl) rfl rfl fun a F => c_nil (hK2 _ _ (?_))
    try clear hK2 K2
    refine wp_ret (ret1 F rfl rfl (?_))
    exact ⟨congrArg Ending.returned (show Value.bool (decide (n ≤ hi)) = .bool (decide (lo ≤ n ∧ n ≤ hi)) from by exact vbi (by omega)), O⟩
  · have F := F.setB (d := 9) rfl (decide_eq_false c10)
    have F := F.setB (d := 10) rfl (decide_eq_false c10)
    refine ss F rfl rfl fun a F => ss F rfl rfl fun a F => ss F rfl rfl fun a F => sp F (p_pick (t := false) rfl rfl) rfl rfl fun a F => sp F (p_assign rfl) rfl rfl fun a F => c_nil (hK2 _ _ (?_))
    try clear hK2 K2
    refine wp_ret (ret1 F rfl rfl (?_))
    exact ⟨congrArg Ending.returned (show Value.bool false = .bool (decide (lo ≤ n ∧ n ≤ hi)) from by exact vbf (by omega)), O⟩

set_option maxRecDepth 100000 in
/-- impl.inRange -/
theorem inRange_ok (n : Int) (lo : Int) (hi : Int) (w0 : World) :
    Calls Tryd.prog 38 #[.int .i64 (n), .int .i64 (lo), .int .i64 (hi)] w0 fun e w => e = .returned (.bool (decide (lo ≤ n ∧ n ≤ hi))) ∧ Own w0 [] [] w := by
  have O := Own.start w0
  refine enterO (n := 15) Tryd.func38 rfl rfl rfl O fun a w F O => ?_
  refine c_seq fun K1 hK1 => c_region (sp F (p_assign rfl) rfl rfl fun a F => c_nil (hK1 _ _ (?_)))
  try clear hK1 K1
  refine c_seq fun K2 hK2 => c_region (sp F (p_move rfl) rfl rfl fun a F => sp F (p_move rfl) rfl rfl fun a F => sp F (p_leq rfl rfl) rfl rfl fun a F => sp F (p_move rfl) rfl rfl fun a F => ?_)
  by_cases c10 : lo ≤ n
  · have F := F.setB (d := 9) rfl (decide_eq_true c10)
    have F := F.setB (d := 10) rfl (decide_eq_true c10)
    refine sp F (p_move rfl) rfl rfl fun a F => sp F (p_move rfl) rfl rfl fun a F => sp F (p_leq rfl rfl) rfl rfl fun a F => sp F (p_pick (t := true) rfl rfl) rfl rfl fun a F => sp F (p_assign rfl) rfl rfl fun a F => c_nil (hK2 _ _ (?_))
    try clear hK2 K2
    refine wp_ret (ret1 F rfl rfl (?_))
    exact ⟨congrArg Ending.returned (show Value.bool (decide (n ≤ hi)) = .bool (decide (lo ≤ n ∧ n ≤ hi)) from by exact vbi (by omega)), O⟩
  · have F := F.setB (d := 9) rfl (decide_eq_false c10)
    have F := F.setB (d := 10) rfl (decide_eq_false c10)
    refine ss F rfl rfl fun a F => ss F rfl rfl fun a F => ss F rfl rfl fun a F => sp F (p_pick (t := false) rfl rfl) rfl rfl fun a F => sp F (p_assign rfl) rfl rfl fun a F => c_nil (hK2 _ _ (?_))
    try clear hK2 K2
    refine wp_ret (ret1 F rfl rfl (?_))
    exact ⟨congrArg Ending.returned (show Value.bool false = .bool (decide (lo ≤ n ∧ n ≤ hi)) from by exact vbf (by omega)), O⟩

set_option maxRecDepth 100000 in
/-- spec.l11Value -/
theorem l11Value_ok (n : Int) (w0 : World) :
    Calls Tryd.prog 37 #[.int .i64 (n)] w0 fun e w => e = .returned (.bool (decide (-1 ≤ n ∧ n ≤ 990))) ∧ Own w0 [] [] w := by
  have O := Own.start w0
  refine enterO (n := 5) Tryd.func37 rfl rfl rfl O fun a w F O => ?_
  refine c_seq fun K1 hK1 => c_region (sp F (p_assign rfl) rfl rfl fun a F => c_nil (hK1 _ _ (?_)))
  try clear hK1 K1
  refine c_seq fun K2 hK2 => c_region (sp F (p_move rfl) rfl rfl fun a F => so F rfl (o_call (vs := #[.int .i64 (n), .int .i64 (-1), .int .i64 (990)]) F Tryd.en_36 rfl rfl ((l6In_ok n (-1) 990 w).mono ?_)))
  rintro e w ⟨rfl, K⟩
  refine ⟨_, rfl, fun a F => ?_⟩
  have O : Own w0 [] [] w := O.call0 K
  clear K
  have O : Own w0 [] [] w := O
  refine sp F (p_assign rfl) rfl rfl fun a F => c_nil (hK2 _ _ (?_))
  try clear hK2 K2
  refine wp_ret (ret1 F rfl rfl (?_))
  exact ⟨congrArg Ending.returned (show Value.bool (decide ((-1) ≤ n ∧ n ≤ 990)) = .bool (decide (-1 ≤ n ∧ n ≤ 990)) from by exact vbi (by omega)), O⟩

set_option maxRecDepth 100000 in
/-- impl.isRefId -/
theorem isRefId_ok (n : Int) (w0 : World) :
    Calls Tryd.prog 39 #[.int .i64 (n)] w0 fun e w => e = .returned (.bool (decide (-1 ≤ n ∧ n ≤ 990))) ∧ Own w0 [] [] w := by
  have O := Own.start w0
  refine enterO (n := 5) Tryd.func39 rfl rfl rfl O fun a w F O => ?_
  refine c_seq fun K1 hK1 => c_region (sp F (p_assign rfl) rfl rfl fun a F => c_nil (hK1 _ _ (?_)))
  try clear hK1 K1
  refine c_seq fun K2 hK2 => c_region (sp F (p_move rfl) rfl rfl fun a F => so F rfl (o_call (vs := #[.int .i64 (n), .int .i64 (-1), .int .i64 (990)]) F Tryd.en_38 rfl rfl ((inRange_ok n (-1) 990 w).mono ?_)))
  rintro e w ⟨rfl, K⟩
  refine ⟨_, rfl, fun a F => ?_⟩
  have O : Own w0 [] [] w := O.call0 K
  clear K
  have O : Own w0 [] [] w := O
  refine sp F (p_assign rfl) rfl rfl fun a F => c_nil (hK2 _ _ (?_))
  try clear hK2 K2
  refine wp_ret (ret1 F rfl rfl (?_))
  exact ⟨congrArg Ending.returned (show Value.bool (decide ((-1) ≤ n ∧ n ≤ 990)) = .bool (decide (-1 ≤ n ∧ n ≤ 990)) from by exact vbi (by omega)), O⟩

set_option maxRecDepth 100000 in
/-- impl.isTxn -/
theorem isTxn_ok (n : Int) (w0 : World) :
    Calls Tryd.prog 24 #[.int .i64 (n)] w0 fun e w => e = .returned (.bool (decide (0 ≤ n ∧ n ≤ 11))) ∧ Own w0 [] [] w := by
  have O := Own.start w0
  refine enterO (n := 5) Tryd.func24 rfl rfl rfl O fun a w F O => ?_
  refine c_seq fun K1 hK1 => c_region (sp F (p_assign rfl) rfl rfl fun a F => c_nil (hK1 _ _ (?_)))
  try clear hK1 K1
  refine c_seq fun K2 hK2 => c_region (sp F (p_move rfl) rfl rfl fun a F => so F rfl (o_call (vs := #[.int .i64 (n), .int .i64 (0), .int .i64 (11)]) F Tryd.en_38 rfl rfl ((inRange_ok n 0 11 w).mono ?_)))
  rintro e w ⟨rfl, K⟩
  refine ⟨_, rfl, fun a F => ?_⟩
  have O : Own w0 [] [] w := O.call0 K
  clear K
  have O : Own w0 [] [] w := O
  refine sp F (p_assign rfl) rfl rfl fun a F => c_nil (hK2 _ _ (?_))
  try clear hK2 K2
  refine wp_ret (ret1 F rfl rfl (?_))
  exact ⟨rfl, O⟩

set_option maxRecDepth 100000 in
/-- spec.l12Txn -/
theorem l12Txn_ok (n : Int) (w0 : World) :
    Calls Tryd.prog 20 #[.int .i64 (n)] w0 fun e w => e = .returned (.bool (decide (0 ≤ n ∧ n ≤ 11))) ∧ Own w0 [] [] w := by
  have O := Own.start w0
  refine enterO (n := 5) Tryd.func20 rfl rfl rfl O fun a w F O => ?_
  refine c_seq fun K1 hK1 => c_region (sp F (p_assign rfl) rfl rfl fun a F => c_nil (hK1 _ _ (?_)))
  try clear hK1 K1
  refine c_seq fun K2 hK2 => c_region (sp F (p_move rfl) rfl rfl fun a F => so F rfl (o_call (vs := #[.int .i64 (n), .int .i64 (0), .int .i64 (11)]) F Tryd.en_36 rfl rfl ((l6In_ok n 0 11 w).mono ?_)))
  rintro e w ⟨rfl, K⟩
  refine ⟨_, rfl, fun a F => ?_⟩
  have O : Own w0 [] [] w := O.call0 K
  clear K
  have O : Own w0 [] [] w := O
  refine sp F (p_assign rfl) rfl rfl fun a F => c_nil (hK2 _ _ (?_))
  try clear hK2 K2
  refine wp_ret (ret1 F rfl rfl (?_))
  exact ⟨rfl, O⟩

set_option maxRecDepth 100000 in
/-- impl.LocksValid$1 -/
theorem locksCl_ok (n : Int) (w0 : World) :
    Calls Tryd.prog 35 #[.int .i64 (n)] w0 fun e w => e = .returned (.bool (decide (¬ (-1 ≤ n ∧ n ≤ 11)))) ∧ Own w0 [] [] w := by
  have O := Own.start w0
  refine enterO (n := 10) Tryd.func35 rfl rfl rfl O fun a w F O => ?_
  refine c_seq fun K1 hK1 => c_region (sp F (p_assign rfl) rfl rfl fun a F => c_nil (hK1 _ _ (?_)))
  try clear hK1 K1
  refine c_seq fun K2 hK2 => c_region (sp F (p_move rfl) rfl rfl fun a F => sp F (p_neq rfl rfl) rfl rfl fun a F => sp F (p_move rfl) rfl rfl fun a F => ?_)
  by_cases c5 : n = (-1)
  · have F := F.setB (d := 4) rfl (decide_eq_false (fun h => h c5))
    have F := F.setB (d := 5) rfl (decide_eq_false (fun h => h c5))
    refine ss F rfl rfl fun a F => ss F rfl rfl fun a F => ss F rfl rfl fun a F => sp F (p_pick (t := false) rfl rfl) rfl rfl fun a F => sp F (p_assign rfl) rfl rfl fun a F => c_nil (hK2 _ _ (?_))
    try clear hK2 K2
    refine wp_ret (ret1 F rfl rfl (?_))
    exact ⟨congrArg Ending.returned (show Value.bool false = .bool (decide (¬ (-1 ≤ n ∧ n ≤ 11))) from by exact vbf (by omega)), O⟩
  · have F := F.setB (d := 4) rfl (decide_eq_true c5)
    have F := F.setB (d := 5) rfl (decide_eq_true c5)
    refine sp F (p_move rfl) rfl rfl fun a F => so F rfl (o_call (vs := #[.int .i64 (n)]) F Tryd.en_24 rfl rfl ((isTxn_ok n w).mono ?_))
    rintro e w ⟨rfl, K⟩
    refine ⟨_, rfl, fun a F => ?_⟩
    have O : Own w0 [] [] w := O.call0 K
    clear K
    have O : Own w0 [] [] w := O
    by_cases c7 : 0 ≤ n ∧ n ≤ 11
    · have F := F.setB (d := 7) rfl (decide_eq_true c7)
      refine sp F (p_not rfl) rfl rfl fun a F => sp F (p_pick (t := true) rfl rfl) rfl rfl fun a F => sp F (p_assign rfl) rfl rfl fun a F => c_nil (hK2 _ _ (?_))
      try clear hK2 K2
      refine wp_ret (ret1 F rfl rfl (?_))
      exact ⟨congrArg Ending.returned (show Value.bool false = .bool (decide (¬ (-1 ≤ n ∧ n ≤ 11))) from by exact vbf (by omega)), O⟩
    · have F := F.setB (d := 7) rfl (decide_eq_false c7)
      refine sp F (p_not rfl) rfl rfl fun a F => sp F (p_pick (t := true) rfl rfl) rfl rfl fun a F => sp F (p_assign rfl) rfl rfl fun a F => c_nil (hK2 _ _ (?_))
      try clear hK2 K2
      refine wp_ret (ret1 F rfl rfl (?_))
      exact ⟨congrArg Ending.returned (show Value.bool true = .bool (decide (¬ (-1 ≤ n ∧ n ≤ 11))) from by exact vbt (by omega)), O⟩

set_option maxRecDepth 100000 in
/-- slices.IndexFunc[[]int,int] -/
theorem indexLocks_ok (A : Option Addr) (n : Nat) (c : Nat) (es : List (Int)) (w0 : World) (hA : Arr w0 encInt 1 A es) (hn : (n : Int) = es.length) (hb : (n : Int) ≤ 1048600) :
    Calls Tryd.prog 44 #[.slice A n c, .func (.func 35) #[] #[]] w0 fun e w => ∃ (r : Int), e = .returned (.int .i64 (r)) ∧ ((r = -1 ∧ okIn (-1) (11) es = true) ∨ (0 ≤ r ∧ okIn (-1) (11) es = false)) ∧ Own w0 [] [] w := by
  have O := Own.start w0
  refine enterO (n := 19) Tryd.func44 rfl rfl rfl O fun a w F O => ?_
  refine c_seq fun K1 hK1 => c_region (sp F (p_assign rfl) rfl rfl fun a F => c_nil (hK1 _ _ (?_)))
  try clear hK1 K1
  refine c_seq fun K2 hK2 => c_seq fun K3 hK3 => c_region (sp F (p_move rfl) rfl rfl fun a F => sp F (p_len_l rfl Tryd.underlying22) rfl rfl fun a F => sp F (p_move rfl) rfl rfl fun a F => c_nil (hK3 _ _ (?_)))
  try clear hK3 K3
  refine wp_block (?_)
  refine c_loop (fun mm a w => ∃ (k : Int), mm = ((n : Int) - k).toNat ∧ Has 19 [(0, .slice A n c), (1, .func (.func 35) #[] #[]), (7, .int .i64 ((n : Int))), (8, .int .i64 (k))] a ∧ Own w0 [] [] w ∧ (0 ≤ k) ∧ (k ≤ n) ∧ (OkTo (-1) (11) k es)) ?_ ?_
  · have F : Has 19 [(0, .slice A n c), (1, .func (.func 35) #[] #[]), (7, .int .i64 ((n : Int))), (8, .int .i64 (0))] a := F.pick ⟨rfl, rfl, rfl, rfl, trivial⟩
    exact ⟨((n : Int) - 0).toNat, 0, rfl, F, O, by first | assumption | omega, by first | assumption | omega, by exact okTo_zero⟩
  · rintro mm a w ⟨k, rfl, F, O, hi0a, hi0b, hi0c⟩
    refine c_seq fun K4 hK4 => c_region (sp F (p_lss rfl rfl) rfl rfl fun a F => c_nil (hK4 _ _ (?_)))
    try clear hK4 K4
    refine c_seq fun K5 hK5 => ?_
    by_cases c9 : k < (n : Int)
    · have F := F.setB (d := 9) rfl (decide_eq_true c9)
      refine c_ift F rfl (wp_skip (hK5 _ _ (?_)))
      try clear hK5 K5
      refine c_seq fun K6 hK6 => wp_block (c_seq fun K7 hK7 => c_region (sp F (p_move rfl) rfl rfl fun a F => sp F (p_assign rfl) rfl rfl fun a F => c_nil (hK7 _ _ (?_))))
      try clear hK7 K7
      refine c_seq fun K8 hK8 => c_region (sp F (p_move rfl) rfl rfl fun a F => sp F (p_move rfl) rfl rfl fun a F => sp F (p_move rfl) rfl rfl fun a F => ?_)
      obtain ⟨b14, o14, hp14, hb14, hc14⟩ := Arr.out hA (by omega)
      have hA14 := hA; rw [hp14] at hA14 F
      obtain ⟨e14, he14⟩ := get_some (l := es) (i := k) (by omega) (by first | omega | (simp; omega))
      refine sp F (p_iaddr rfl rfl Tryd.underlying22 Tryd.sz_3 (by omega) (by omega)) rfl rfl fun a F => sp F (p_load rfl Tryd.agg_3 (fun _ h => (ld1 (((O.old hb14 (by simp)).trans (hc14 _ _ he14 0 _ rfl))) h))) rfl rfl fun a F => so F rfl (o_callv (vs := #[.int .i64 (e14)]) (lb := #[]) F rfl (by simp) Tryd.en_35 rfl rfl ((locksCl_ok e14 w).mono ?_))
      rintro e w ⟨rfl, K⟩
      refine ⟨_, rfl, fun a F => ?_⟩
      have O : Own w0 [] [] w := O.call0 K
      clear K
      have O : Own w0 [] [] w := O
      refine c_nil (hK8 _ _ (?_))
      try clear hK8 K8
      by_cases c16 : ¬ (-1 ≤ e14 ∧ e14 ≤ 11)
      · have F := F.setB (d := 16) rfl (decide_eq_true c16)
        refine c_ift F rfl (c_seq fun K9 hK9 => c_region (sp F (p_move rfl) rfl rfl fun a F => sp F (p_assign rfl) rfl rfl fun a F => c_nil (hK9 _ _ (?_))))
        try clear hK9 K9
        refine wp_ret (r_block (r_then (r_then (r_block (r_then (ret1 F rfl rfl (?_)))))))
        exact ⟨k, rfl, by exact .inr ⟨by omega, okIn_not he14 c16⟩, O⟩
      · have F := F.setB (d := 16) rfl (decide_eq_false c16)
        refine c_iff F rfl (wp_skip (hK6 _ _ (?_)))
        try clear hK6 K6
        refine c_region (sp F (p_add rfl rfl (by omega) (by omega)) rfl rfl fun a F => sp F (p_move rfl) rfl rfl fun a F => c_nil (?_))
        try rw [← hp14] at F
        try rw [← hp14] at O
        have F : Has 19 [(0, .slice A n c), (1, .func (.func 35) #[] #[]), (7, .int .i64 ((n : Int))), (8, .int .i64 (k + 1))] a := F.pick ⟨rfl, rfl, rfl, rfl, trivial⟩
        exact ⟨((n : Int) - (k + 1)).toNat, by omega, (k + 1), rfl, F, O, by first | assumption | omega, by first | assumption | omega, by exact okTo_step hi0c hi0a he14 (by omega)⟩
    · have F := F.setB (d := 9) rfl (decide_eq_false c9)
      refine c_iff F rfl (wp_exit (e_then (e_then (e_here (hK2 _ _ (?_))))))
      try clear hK2 K2
      refine c_seq fun K6 hK6 => c_region (sp F (p_assign rfl) rfl rfl fun a F => c_nil (hK6 _ _ (?_)))
      try clear hK6 K6
      refine wp_ret (ret1 F rfl rfl (?_))
      exact ⟨(-1), congrArg Ending.returned (show Value.int .i64 (-1) = .int .i64 ((-1)) from by first | exact vint (by omega) | exact vint (by simp; done)), by exact .inl ⟨rfl, okIn_of hi0c (by omega)⟩, O⟩

set_option maxRecDepth 100000 in
/-- slices.ContainsFunc[[]int,int] -/
theorem containsLocks_ok (A : Option Addr) (n : Nat) (c : Nat) (es : List (Int)) (w0 : World) (hA : Arr w0 encInt 1 A es) (hn : (n : Int) = es.length) (hb : (n : Int) ≤ 1048600) :
    Calls Tryd.prog 34 #[.slice A n c, .func (.func 35) #[] #[]] w0 fun e w => e = .returned (.bool (decide (okIn (-1) (11) es = false))) ∧ Own w0 [] [] w := by
  have O := Own.start w0
  refine enterO (n := 9) Tryd.func34 rfl rfl rfl O fun a w F O => ?_
  refine c_seq fun K1 hK1 => c_region (sp F (p_assign rfl) rfl rfl fun a F => c_nil (hK1 _ _ (?_)))
  try clear hK1 K1
  refine c_seq fun K2 hK2 => c_region (sp F (p_move rfl) rfl rfl fun a F => sp F (p_move rfl) rfl rfl fun a F => so F rfl (o_call (vs := #[.slice A n c, .func (.func 35) #[] #[]]) F Tryd.en_44 rfl rfl ((indexLocks_ok A n c es w (hA.keep O) (by first | omega | (simp; done) | (simp; omega) | (simp at *; omega)) (by omega)).mono ?_)))
  rintro e w ⟨r7, rfl, h7a, K⟩
  refine ⟨_, rfl, fun a F => ?_⟩
  have O : Own w0 [] [] w := O.call0 K
  clear K
  have O : Own w0 [] [] w := O
  refine sp F (p_geq rfl rfl) rfl rfl fun a F => sp F (p_assign rfl) rfl rfl fun a F => c_nil (hK2 _ _ (?_))
  try clear hK2 K2
  refine wp_ret (ret1 F rfl rfl (?_))
  exact ⟨congrArg Ending.returned (show Value.bool (decide (0 ≤ r7)) = .bool (decide (okIn (-1) (11) es = false)) from by exact vbi ⟨fun h => by rcases h7a with h1 | h1 <;> first | exact h1.2 | omega, fun h => by rcases h7a with h1 | h1 <;> first | omega | exact absurd (h1.2.symm.trans h) (by decide)⟩), O⟩

set_option maxRecDepth 100000 in
/-- impl.LocksValid -/
theorem iLocksValid_ok (A : Option Addr) (n : Nat) (c : Nat) (es : List (Int)) (w0 : World) (hA : Arr w0 encInt 1 A es) (hn : (n : Int) = es.length) (hb : (n : Int) ≤ 1048600) :
    Calls Tryd.prog 18 #[.slice A n c] w0 fun e w => e = .returned (.bool (decide (es.length = 4 ∧ okIn (-1) (11) es = true))) ∧ Own w0 [] [] w := by
  have O := Own.start w0
  refine enterO (n := 11) Tryd.func18 rfl rfl rfl O fun a w F O => ?_
  refine c_seq fun K1 hK1 => c_region (sp F (p_assign rfl) rfl rfl fun a F => c_nil (hK1 _ _ (?_)))
  try clear hK1 K1
  refine c_seq fun K2 hK2 => c_region (sp F (p_move rfl) rfl rfl fun a F => sp F (p_len_l rfl Tryd.underlying22) rfl rfl fun a F => sp F (p_eql rfl rfl) rfl rfl fun a F => sp F (p_move rfl) rfl rfl fun a F => ?_)
  by_cases c6 : (n : Int) = 4
  · have F := F.setB (d := 5) rfl (decide_eq_true c6)
    have F := F.setB (d := 6) rfl (decide_eq_true c6)
    refine sp F (p_move rfl) rfl rfl fun a F => so F rfl (o_call (vs := #[.slice A n c, .func (.func 35) #[] #[]]) F Tryd.en_34 rfl rfl ((containsLocks_ok A n c es w (hA.keep O) (by first | omega | (simp; done) | (simp; omega) | (simp at *; omega)) (by omega)).mono ?_))
    rintro e w ⟨rfl, K⟩
    refine ⟨_, rfl, fun a F => ?_⟩
    have O : Own w0 [] [] w := O.call0 K
    clear K
    have O : Own w0 [] [] w := O
    by_cases c8 : okIn (-1) (11) es = false
    · have F := F.setB (d := 8) rfl (decide_eq_true c8)
      refine sp F (p_not rfl) rfl rfl fun a F => sp F (p_pick (t := true) rfl rfl) rfl rfl fun a F => sp F (p_assign rfl) rfl rfl fun a F => c_nil (hK2 _ _ (?_))
      try clear hK2 K2
      refine wp_ret (ret1 F rfl rfl (?_))
      exact ⟨congrArg Ending.returned (show Value.bool false = .bool (decide (es.length = 4 ∧ okIn (-1) (11) es = true)) from by exact vbf (fun h => by first | omega | simp_all)), O⟩
    · have F := F.setB (d := 8) rfl (decide_eq_false c8)
      refine sp F (p_not rfl) rfl rfl fun a F => sp F (p_pick (t := true) rfl rfl) rfl rfl fun a F => sp F (p_assign rfl) rfl rfl fun a F => c_nil (hK2 _ _ (?_))
      try clear hK2 K2
      refine wp_ret (ret1 F rfl rfl (?_))
      exact ⟨congrArg Ending.returned (show Value.bool true = .bool (decide (es.length = 4 ∧ okIn (-1) (11) es = true)) from by exact vbt ⟨by omega, by simpa using c8⟩), O⟩
  · have F := F.setB (d := 5) rfl (decide_eq_false c6)
    have F := F.setB (d := 6) rfl (decide_eq_false c6)
    refine ss F rfl rfl fun a F => ss F rfl rfl fun a F => ss F rfl rfl fun a F => sp F (p_pick (t := false) rfl rfl) rfl rfl fun a F => sp F (p_assign rfl) rfl rfl fun a F => c_nil (hK2 _ _ (?_))
    try clear hK2 K2
    refine wp_ret (ret1 F rfl rfl (?_))
    exact ⟨congrArg Ending.returned (show Value.bool false = .bool (decide (es.length = 4 ∧ okIn (-1) (11) es = true)) from by exact vbf (fun h => by first | omega | simp_all)), O⟩

set_option maxRecDepth 100000 in
/-- spec.LocksValid -/
theorem sLocksValid_ok (A : Option Addr) (n : Nat) (c : Nat) (es : List (Int)) (w0 : World) (hA : Arr w0 encInt 1 A es) (hn : (n : Int) = es.length) (hb : (n : Int) ≤ 1048600) :
    Calls Tryd.prog 19 #[.slice A n c] w0 fun e w => e = .returned (.bool (decide (es.length = 4 ∧ okIn (-1) (11) es = true))) ∧ Own w0 [] [] w := by
  have O := Own.start w0
  refine enterO (n := 19) Tryd.func19 rfl rfl rfl O fun a w F O => ?_
  refine c_seq fun K1 hK1 => c_region (sp F (p_assign rfl) rfl rfl fun a F => c_nil (hK1 _ _ (?_)))
  try clear hK1 K1
  refine c_seq fun K2 hK2 => c_seq fun K3 hK3 => c_region (sp F (p_assign rfl) rfl rfl fun a F => c_nil (hK3 _ _ (?_)))
  try clear hK3 K3
  refine wp_block (?_)
  refine c_loop (fun mm a w => ∃ (k : Int), mm = ((n : Int) - k).toNat ∧ Has 19 [(0, .slice A n c), (3, .int .i64 (k))] a ∧ Own w0 [] [] w ∧ (0 ≤ k) ∧ (k ≤ n) ∧ (OkTo (-1) (11) k es)) ?_ ?_
  · have F : Has 19 [(0, .slice A n c), (3, .int .i64 (0))] a := F.pick ⟨rfl, rfl, trivial⟩
    exact ⟨((n : Int) - 0).toNat, 0, rfl, F, O, by first | assumption | omega, by first | assumption | omega, by exact okTo_zero⟩
  · rintro mm a w ⟨k, rfl, F, O, hi0a, hi0b, hi0c⟩
    refine c_seq fun K4 hK4 => c_seq fun K5 hK5 => c_region (sp F (p_move rfl) rfl rfl fun a F => sp F (p_move rfl) rfl rfl fun a F => sp F (p_len_l rfl Tryd.underlying22) rfl rfl fun a F => sp F (p_lss rfl rfl) rfl rfl fun a F => c_nil (hK5 _ _ (?_)))
    try clear hK5 K5
    by_cases c7 : k < (n : Int)
    · have F := F.setB (d := 7) rfl (decide_eq_true c7)
      refine c_ift F rfl (wp_skip (hK4 _ _ (?_)))
      try clear hK4 K4
      refine c_seq fun K6 hK6 => wp_block (c_seq fun K7 hK7 => c_region (sp F (p_move rfl) rfl rfl fun a F => sp F (p_move rfl) rfl rfl fun a F => ?_))
      obtain ⟨b12, o12, hp12, hb12, hc12⟩ := Arr.out hA (by omega)
      have hA12 := hA; rw [hp12] at hA12 F
      obtain ⟨e12, he12⟩ := get_some (l := es) (i := k) (by omega) (by first | omega | (simp; omega))
      refine sp F (p_iaddr rfl rfl Tryd.underlying22 Tryd.sz_3 (by omega) (by omega)) rfl rfl fun a F => sp F (p_load rfl Tryd.agg_3 (fun _ h => (ld1 (((O.old hb12 (by simp)).trans (hc12 _ _ he12 0 _ rfl))) h))) rfl rfl fun a F => so F rfl (o_call (vs := #[.int .i64 (e12), .int .i64 (-1), .int .i64 (11)]) F Tryd.en_36 rfl rfl ((l6In_ok e12 (-1) 11 w).mono ?_))
      rintro e w ⟨rfl, K⟩
      refine ⟨_, rfl, fun a F => ?_⟩
      have O : Own w0 [] [] w := O.call0 K
      clear K
      have O : Own w0 [] [] w := O
      by_cases c14 : (-1) ≤ e12 ∧ e12 ≤ 11
      · have F := F.setB (d := 14) rfl (decide_eq_true c14)
        refine sp F (p_not rfl) rfl rfl fun a F => c_nil (hK7 _ _ (?_))
        try clear hK7 K7
        refine c_iff F rfl (wp_skip (hK6 _ _ (?_)))
        try clear hK6 K6
        refine c_region (sp F (p_move rfl) rfl rfl fun a F => sp F (p_add rfl rfl (by omega) (by omega)) rfl rfl fun a F => sp F (p_assign rfl) rfl rfl fun a F => c_nil (?_))
        try rw [← hp12] at F
        try rw [← hp12] at O
        have F : Has 19 [(0, .slice A n c), (3, .int .i64 (k + 1))] a := F.pick ⟨rfl, rfl, trivial⟩
        exact ⟨((n : Int) - (k + 1)).toNat, by omega, (k + 1), rfl, F, O, by first | assumption | omega, by first | assumption | omega, by exact okTo_step hi0c hi0a he12 (by omega)⟩
      · have F := F.setB (d := 14) rfl (decide_eq_false c14)
        refine sp F (p_not rfl) rfl rfl fun a F => c_nil (hK7 _ _ (?_))
        try clear hK7 K7
        refine c_ift F rfl (c_seq fun K8 hK8 => c_region (sp F (p_assign rfl) rfl rfl fun a F => c_nil (hK8 _ _ (?_))))
        try clear hK8 K8
        refine wp_ret (r_block (r_then (r_then (r_block (r_then (ret1 F rfl rfl (?_)))))))
        exact ⟨congrArg Ending.returned (show Value.bool false = .bool (decide (es.length = 4 ∧ okIn (-1) (11) es = true)) from by exact vbf (fun h => absurd h.2 (by rw [okIn_not he12 c14]; decide))), O⟩
    · have F := F.setB (d := 7) rfl (decide_eq_false c7)
      refine c_iff F rfl (wp_exit (e_then (e_then (e_here (hK2 _ _ (?_))))))
      try clear hK2 K2
      refine c_seq fun K6 hK6 => c_region (sp F (p_move rfl) rfl rfl fun a F => sp F (p_len_l rfl Tryd.underlying22) rfl rfl fun a F => sp F (p_eql rfl rfl) rfl rfl fun a F => sp F (p_assign rfl) rfl rfl fun a F => c_nil (hK6 _ _ (?_)))
      try clear hK6 K6
      refine wp_ret (ret1 F rfl rfl (?_))
      exact ⟨congrArg Ending.returned (show Value.bool (decide ((n : Int) = 4)) = .bool (decide (es.length = 4 ∧ okIn (-1) (11) es = true)) from by exact vbi ⟨fun h => ⟨by omega, okIn_of hi0c (by omega)⟩, fun h => by omega⟩), O⟩

set_option maxRecDepth 100000 in
/-- laws.toIntS -/
theorem toIntS_ok (A : Option Addr) (n : Nat) (c : Nat) (es : List (Int)) (w0 : World) (hA : Arr w0 encInt 1 A es) (hn : (n : Int) = es.length) (hb : (n : Int) ≤ 1048600) :
    Calls Tryd.prog 8 #[.slice A n c] w0 fun e w => ∃ (b : Nat), ∃ (N : Nat), e = .returned (.slice (some ⟨b, 0, none⟩) N N) ∧ ((N : Int) = es.length) ∧ Own w0 [] [.row 3 1 (.slice (some ⟨b, 0, none⟩) N N) N (es.flatMap encInt)] w := by
  have O := Own.start w0
  refine enterO (n := 22) Tryd.func8 rfl rfl rfl O fun a w F O => ?_
  refine c_seq fun K1 hK1 => c_region (sp F (p_assign rfl) rfl rfl fun a F => c_nil (hK1 _ _ (?_)))
  try clear hK1 K1
  refine c_seq fun K2 hK2 => c_region (sp F (p_move rfl) rfl rfl fun a F => sp F (p_len_l rfl Tryd.underlying22) rfl rfl fun a F => so F rfl (o_make (enc := encInt) (e0 := 0) F O rfl rfl Tryd.underlying22 Tryd.elem_3 Tryd.zero_3 encInt_len (by decide) (by omega) (by omega) rfl rfl fun b7 w O a F => ?_))
  have O : Own w0 [] [.row 3 1 (.slice (some ⟨b7, 0, none⟩) (((n : Int) : Int).toNat) (((n : Int) : Int).toNat)) (((n : Int) : Int).toNat) ((List.replicate (((n : Int) : Int).toNat) 0).flatMap encInt)] w := O
  refine sp F (p_assign rfl) rfl rfl fun a F => c_nil (hK2 _ _ (?_))
  try clear hK2 K2
  refine c_seq fun K3 hK3 => c_seq fun K4 hK4 => c_region (sp F (p_assign rfl) rfl rfl fun a F => c_nil (hK4 _ _ (?_)))
  try clear hK4 K4
  refine wp_block (?_)
  refine c_loop (fun mm a w => ∃ (k : Int), ∃ (es1 : List Int), mm = ((n : Int) - k).toNat ∧ Has 22 [(0, .slice A n c), (2, .slice none 0 0), (3, .slice (some ⟨b7, 0, none⟩) (((n : Int) : Int).toNat) (((n : Int) : Int).toNat)), (4, .int .i64 (k))] a ∧ Own w0 [] [.row 3 1 (.slice (some ⟨b7, 0, none⟩) (((n : Int) : Int).toNat) (((n : Int) : Int).toNat)) (((n : Int) : Int).toNat) (es1.flatMap encInt)] w ∧ (0 ≤ k) ∧ (k ≤ n) ∧ ((es1.length : Int) = n) ∧ (SameTo k es1 es)) ?_ ?_
  · have F : Has 22 [(0, .slice A n c), (2, .slice none 0 0), (3, .slice (some ⟨b7, 0, none⟩) (((n : Int) : Int).toNat) (((n : Int) : Int).toNat)), (4, .int .i64 (0))] a := F.pick ⟨rfl, rfl, rfl, rfl, trivial⟩
    exact ⟨((n : Int) - 0).toNat, 0, (List.replicate (((n : Int) : Int).toNat) 0), rfl, F, O, by first | assumption | omega, by first | assumption | omega, by simp, by exact sameTo_zero⟩
  · rintro mm a w ⟨k, es1, rfl, F, O, hi0a, hi0b, hi0c, hi0d⟩
    refine c_seq fun K5 hK5 => c_seq fun K6 hK6 => c_region (sp F (p_move rfl) rfl rfl fun a F => sp F (p_move rfl) rfl rfl fun a F => sp F (p_len_l rfl Tryd.underlying22) rfl rfl fun a F => sp F (p_lss rfl rfl) rfl rfl fun a F => c_nil (hK6 _ _ (?_)))
    try clear hK6 K6
    by_cases c11 : k < (n : Int)
    · have F := F.setB (d := 11) rfl (decide_eq_true c11)
      refine c_ift F rfl (wp_skip (hK5 _ _ (?_)))
      try clear hK5 K5
      refine c_seq fun K7 hK7 => wp_block (c_region (sp F (p_move rfl) rfl rfl fun a F => sp F (p_move rfl) rfl rfl fun a F => sp F (p_move rfl) rfl rfl fun a F => sp F (p_move rfl) rfl rfl fun a F => ?_))
      obtain ⟨b18, o18, hp18, hb18, hc18⟩ := Arr.out hA (by omega)
      have hA18 := hA; rw [hp18] at hA18 F
      obtain ⟨e18, he18⟩ := get_some (l := es) (i := k) (by omega) (by first | omega | (simp; omega))
      refine sp F (p_iaddr rfl rfl Tryd.underlying22 Tryd.sz_3 (by omega) (by omega)) rfl rfl fun a F => sp F (p_load rfl Tryd.agg_3 (fun _ h => (ld1 (((O.old hb18 (by simp)).trans (hc18 _ _ he18 0 _ rfl))) h))) rfl rfl fun a F => ?_
      obtain ⟨e20, he20⟩ := get_some (l := es1) (i := k) (by omega) (by first | omega | (simp; omega))
      refine sp F (p_iaddr rfl rfl Tryd.underlying22 Tryd.sz_3 (by omega) (by omega)) rfl rfl fun a F => so F rfl (o_storeRow F O rfl rfl Tryd.sz_3 rfl rfl 0 rfl (by rw [flat_len encInt_len]; first | omega | (simp; omega)) fun w O => ?_)
      have hst : (es1.flatMap encInt).set (0 + (k : Int).toNat * 1) (.int .i64 (e18)) = (es1.set (k : Int).toNat e18).flatMap encInt := flat_set encInt_len he20 (j := 0) rfl (by decide)
      have O := O.setR 0 rfl (congrArg (Res.row 3 1 (.slice (some ⟨b7, 0, none⟩) (((n : Int) : Int).toNat) (((n : Int) : Int).toNat)) (((n : Int) : Int).toNat)) hst)
      have O : Own w0 [] [.row 3 1 (.slice (some ⟨b7, 0, none⟩) (((n : Int) : Int).toNat) (((n : Int) : Int).toNat)) (((n : Int) : Int).toNat) ((es1.set (k : Int).toNat e18).flatMap encInt)] w := O
      refine c_nil (hK7 _ _ (?_))
      try clear hK7 K7
      refine c_region (sp F (p_move rfl) rfl rfl fun a F => sp F (p_add rfl rfl (by omega) (by omega)) rfl rfl fun a F => sp F (p_assign rfl) rfl rfl fun a F => c_nil (?_))
      try rw [← hp18] at F
      try rw [← hp18] at O
      have F : Has 22 [(0, .slice A n c), (2, .slice none 0 0), (3, .slice (some ⟨b7, 0, none⟩) (((n : Int) : Int).toNat) (((n : Int) : Int).toNat)), (4, .int .i64 (k + 1))] a := F.pick ⟨rfl, rfl, rfl, rfl, trivial⟩
      exact ⟨((n : Int) - (k + 1)).toNat, by omega, (k + 1), (es1.set (k : Int).toNat e18), rfl, F, O, by first | assumption | omega, by first | assumption | omega, by simp; omega, by exact sameTo_set hi0d hi0a he18 (by omega)⟩
    · have F := F.setB (d := 11) rfl (decide_eq_false c11)
      refine c_iff F rfl (wp_exit (e_then (e_then (e_here (hK3 _ _ (?_))))))
      try clear hK3 K3
      refine c_seq fun K7 hK7 => ?_
      obtain rfl : es = es1 := (same_ext hi0d (by omega) (by omega)).symm
      refine c_region (sp F (p_move rfl) rfl rfl fun a F => sp F (p_assign rfl) rfl rfl fun a F => c_nil (hK7 _ _ (?_)))
      try clear hK7 K7
      refine wp_ret (ret1 F rfl rfl (?_))
      exact ⟨b7, (((n : Int) : Int).toNat), rfl, by first | assumption | omega, O⟩

set_option maxRecDepth 100000 in
/-- laws.eqIntS -/
theorem eqIntS_ok (A : Option Addr) (n : Nat) (c : Nat) (es : List (Int)) (A2 : Option Addr) (n2 : Nat) (c2 : Nat) (es2 : List (Int)) (w0 : World) (hA : Arr w0 encInt 1 A es) (hn : (n : Int) = es.length) (hb : (n : Int) ≤ 1048600) (hA2 : Arr w0 encInt 1 A2 es2) (hn2 : (n2 : Int) = es2.length) (hb2 : (n2 : Int) ≤ 1048600) :
    Calls Tryd.prog 11 #[.slice A n c, .slice A2 n2 c2] w0 fun e w => e = .returned (.bool (decide (es = es2))) ∧ Own w0 [] [] w := by
  have O := Own.start w0
  refine enterO (n := 26) Tryd.func11 rfl rfl rfl O fun a w F O => ?_
  refine c_seq fun K1 hK1 => c_region (sp F (p_assign rfl) rfl rfl fun a F => c_nil (hK1 _ _ (?_)))
  try clear hK1 K1
  refine c_seq fun K2 hK2 => c_seq fun K3 hK3 => c_region (sp F (p_move rfl) rfl rfl fun a F => sp F (p_len_l rfl Tryd.underlying22) rfl rfl fun a F => sp F (p_move rfl) rfl rfl fun a F => sp F (p_len_l rfl Tryd.underlying22) rfl rfl fun a F => sp F (p_neq rfl rfl) rfl rfl fun a F => c_nil (hK3 _ _ (?_)))
  try clear hK3 K3
  by_cases c10 : (n : Int) = (n2 : Int)
  · have F := F.setB (d := 10) rfl (decide_eq_false (fun h => h c10))
    refine c_iff F rfl (wp_skip (hK2 _ _ (?_)))
    try clear hK2 K2
    refine c_seq fun K4 hK4 => c_seq fun K5 hK5 => c_region (sp F (p_assign rfl) rfl rfl fun a F => c_nil (hK5 _ _ (?_)))
    try clear hK5 K5
    refine wp_block (?_)
    refine c_loop (fun mm a w => ∃ (k : Int), mm = ((n : Int) - k).toNat ∧ Has 26 [(0, .slice A n c), (1, .slice A2 n2 c2), (10, .bool false), (5, .int .i64 (k))] a ∧ Own w0 [] [] w ∧ (0 ≤ k) ∧ (k ≤ n) ∧ (SameTo k es es2)) ?_ ?_
    · have F : Has 26 [(0, .slice A n c), (1, .slice A2 n2 c2), (10, .bool false), (5, .int .i64 (0))] a := F.pick ⟨rfl, rfl, rfl, rfl, trivial⟩
      exact ⟨((n : Int) - 0).toNat, 0, rfl, F, O, by first | assumption | omega, by first | assumption | omega, by exact sameTo_zero⟩
    · rintro mm a w ⟨k, rfl, F, O, hi0a, hi0b, hi0c⟩
      refine c_seq fun K6 hK6 => c_seq fun K7 hK7 => c_region (sp F (p_move rfl) rfl rfl fun a F => sp F (p_move rfl) rfl rfl fun a F => sp F (p_len_l rfl Tryd.underlying22) rfl rfl fun a F => sp F (p_lss rfl rfl) rfl rfl fun a F => c_nil (hK7 _ _ (?_)))
      try clear hK7 K7
      by_cases c14 : k < (n : Int)
      · have F := F.setB (d := 14) rfl (decide_eq_true c14)
        refine c_ift F rfl (wp_skip (hK6 _ _ (?_)))
        try clear hK6 K6
        refine c_seq fun K8 hK8 => wp_block (c_seq fun K9 hK9 => ?_)
        obtain ⟨b19, o19, hp19, hb19, hc19⟩ := Arr.out hA (by omega)
        have hA19 := hA; rw [hp19] at hA19 F
        obtain ⟨e19, he19⟩ := get_some (l := es) (i := k) (by omega) (by first | omega | (simp; omega))
        obtain ⟨b23, o23, hp23, hb23, hc23⟩ := Arr.out hA2 (by omega)
        have hA23 := hA2; rw [hp23] at hA23 F
        obtain ⟨e23, he23⟩ := get_some (l := es2) (i := k) (by omega) (by first | omega | (simp; omega))
        refine c_draw Tryd.mixed (SC [(b19, o19 + (k : Int).toNat * 1, .int .i64 (e19)), (b23, o23 + (k : Int).toNat * 1, .int .i64 (e23))]) [] _ (fun a w h => h) ?_
        have O := O.drawn (w.drawn + 1)
        generalize { w with drawn := w.drawn + 1 } = w at O ⊢
        have hS : SC [(b19, o19 + (k : Int).toNat * 1, .int .i64 (e19)), (b23, o23 + (k : Int).toNat * 1, .int .i64 (e23))] w := (SC.cons (((O.old hb19 (by simp)).trans (hc19 _ _ he19 0 _ rfl))) (SC.cons (((O.old hb23 (by simp)).trans (hc23 _ _ he23 0 _ rfl))) SC.nil))
        refine d_take 0 rfl (by kernel_rfl) F (p_move rfl) rfl rfl hS fun a F => d_take 1 rfl (by kernel_rfl) F (p_move rfl) rfl rfl hS fun a F => d_take 2 rfl (by kernel_rfl) F (p_iaddr rfl rfl Tryd.underlying22 Tryd.sz_3 (by omega) (by omega)) rfl rfl hS fun a F => d_take 3 rfl (by kernel_rfl) F (p_load rfl Tryd.agg_3 (fun _ h => (SC.get h 0 rfl))) rfl rfl hS fun a F => d_take 4 rfl (by kernel_rfl) F (p_move rfl) rfl rfl hS fun a F => d_take 5 rfl (by kernel_rfl) F (p_move rfl) rfl rfl hS fun a F => d_take 6 rfl (by kernel_rfl) F (p_iaddr rfl rfl Tryd.underlying22 Tryd.sz_3 (by omega) (by omega)) rfl rfl hS fun a F => d_take 7 rfl (by kernel_rfl) F (p_load rfl Tryd.agg_3 (fun _ h => (SC.get h 1 rfl))) rfl rfl hS fun a F => d_take 8 rfl (by kernel_rfl) F (p_neq rfl rfl) rfl rfl hS fun a F => d_done (by kernel_rfl) (hK9 _ _ (?_))
        try clear hK9 K9
        by_cases c25 : e19 = e23
        · have F := F.setB (d := 25) rfl (decide_eq_false (fun h => h c25))
          refine c_iff F rfl (wp_skip (hK8 _ _ (?_)))
          try clear hK8 K8
          refine c_region (sp F (p_move rfl) rfl rfl fun a F => sp F (p_add rfl rfl (by omega) (by omega)) rfl rfl fun a F => sp F (p_assign rfl) rfl rfl fun a F => c_nil (?_))
          try rw [← hp23] at F
          try rw [← hp23] at O
          try rw [← hp19] at F
          try rw [← hp19] at O
          have F : Has 26 [(0, .slice A n c), (1, .slice A2 n2 c2), (10, .bool false), (5, .int .i64 (k + 1))] a := F.pick ⟨rfl, rfl, rfl, rfl, trivial⟩
          exact ⟨((n : Int) - (k + 1)).toNat, by omega, (k + 1), rfl, F, O, by first | assumption | omega, by first | assumption | omega, by exact sameTo_step hi0c hi0a he19 he23 (by omega)⟩
        · have F := F.setB (d := 25) rfl (decide_eq_true c25)
          refine c_ift F rfl (c_seq fun K10 hK10 => c_region (sp F (p_assign rfl) rfl rfl fun a F => c_nil (hK10 _ _ (?_))))
          try clear hK10 K10
          refine wp_ret (r_block (r_then (r_then (r_block (r_then (ret1 F rfl rfl (?_)))))))
          exact ⟨congrArg Ending.returned (show Value.bool false = .bool (decide (es = es2)) from by exact vbf (fun h => by subst h; first | omega | (rw [he19] at he23; injection he23; omega))), O⟩
      · have F := F.setB (d := 14) rfl (decide_eq_false c14)
        refine c_iff F rfl (wp_exit (e_then (e_then (e_here (hK4 _ _ (?_))))))
        try clear hK4 K4
        refine c_seq fun K8 hK8 => c_region (sp F (p_assign rfl) rfl rfl fun a F => c_nil (hK8 _ _ (?_)))
        try clear hK8 K8
        refine wp_ret (ret1 F rfl rfl (?_))
        exact ⟨congrArg Ending.returned (show Value.bool true = .bool (decide (es = es2)) from by exact vbt (same_ext hi0c (by omega) (by omega))), O⟩
  · have F := F.setB (d := 10) rfl (decide_eq_true c10)
    refine c_ift F rfl (c_seq fun K4 hK4 => c_region (sp F (p_assign rfl) rfl rfl fun a F => c_nil (hK4 _ _ (?_))))
    try clear hK4 K4
    refine wp_ret (r_then (ret1 F rfl rfl (?_)))
    exact ⟨congrArg Ending.returned (show Value.bool false = .bool (decide (es = es2)) from by exact vbf (fun h => by subst h; first | omega | (rw [he19] at he23; injection he23; omega))), O⟩

end Go.Proofs.YtilpbddeijolbaaDoor
