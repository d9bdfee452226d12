/- Contracts of the functions on updates. No conditions but those on lengths. -/
import Derived.Test.YtilpbddeijolbaaDoorRefA
namespace Go.Proofs.YtilpbddeijolbaaDoor
open Go.ChangeShapes Go.WideShapes Go.ChangeAt Go.RowKit
set_option linter.unusedVariables false
set_option linter.unusedSimpArgs false


def upB (u : Int × Int × Int) : Bool := decide (0 ≤ u.1 ∧ u.1 ≤ 3 ∧ -1 ≤ u.2.1 ∧ u.2.1 ≤ 990 ∧ -1 ≤ u.2.2 ∧ u.2.2 ≤ 990 ∧ u.2.1 ≠ u.2.2)
def upsB (l : List (Int × Int × Int)) : Bool := (List.range l.length).all fun i => upB (l.getD i (0, 0, 0)) && (decide (i = 0) || decide ((l.getD (i - 1) (0, 0, 0)).1 < (l.getD i (0, 0, 0)).1))
def UpsTo (k : Int) (l : List (Int × Int × Int)) : Prop := ∀ (i : Nat) e, (i : Int) < k → l[i]? = some e → upB e = true ∧ ∀ (i' : Nat) e', i = i' + 1 → l[i']? = some e' → e'.1 < e.1
def hasRef (x : Int) (l : List (Int × Int × Int)) : Bool := l.any fun v => decide (x = v.1)
def crossB (a b : List (Int × Int × Int)) : Bool := a.any fun u => hasRef u.1 b
def NoRef (x k : Int) (l : List (Int × Int × Int)) : Prop := ∀ (i : Nat) e, (i : Int) < k → l[i]? = some e → x ≠ e.1
def NoCross (k : Int) (a b : List (Int × Int × Int)) : Prop := ∀ (i : Nat) e, (i : Int) < k → a[i]? = some e → hasRef e.1 b = false
section
variable {k x : Int} {l b : List (Int × Int × Int)} {e e' : Int × Int × Int}
theorem upB_iff : upB e = true ↔ 0 ≤ e.1 ∧ e.1 ≤ 3 ∧ -1 ≤ e.2.1 ∧ e.2.1 ≤ 990 ∧ -1 ≤ e.2.2 ∧ e.2.2 ≤ 990 ∧ e.2.1 ≠ e.2.2 := by unfold upB; simp
theorem upsB_iff : upsB l = true ↔ UpsTo l.length l := by
  unfold upsB
  rw [List.all_eq_true]
  constructor
  · intro h i e hi he
    have := h i (by simp; omega)
    rw [List.getD_eq_getElem?_getD, he] at this
    simp only [Option.getD_some, Bool.and_eq_true, Bool.or_eq_true, decide_eq_true_eq] at this
    refine ⟨this.1, fun i' e' hi' he' => ?_⟩
    rcases this.2 with h0 | h0
    · omega
    · subst hi'
      rw [List.getD_eq_getElem?_getD, Nat.add_sub_cancel, he'] at h0
      exact h0
  · intro h i hi
    simp only [List.mem_range] at hi
    have he : l[i]? = some l[i] := List.getElem?_eq_getElem hi
    obtain ⟨h1, h2⟩ := h i _ (by omega) he
    rw [List.getD_eq_getElem?_getD, he]
    simp only [Option.getD_some, Bool.and_eq_true, Bool.or_eq_true, decide_eq_true_eq]
    refine ⟨h1, ?_⟩
    by_cases h0 : i = 0
    · exact .inl h0
    · right
      have he' : l[i - 1]? = some l[i - 1] := List.getElem?_eq_getElem (by omega)
      rw [List.getD_eq_getElem?_getD, he']
      exact h2 (i - 1) _ (by omega) he'
theorem upsTo_zero : UpsTo 0 l := fun i e h => by omega
theorem upsTo_first (he : l[(0 : Int).toNat]? = some e) (hu : upB e = true) : UpsTo (0 + 1) l := fun i e1 hi he1 => by
  have : i = 0 := by omega
  subst this
  have he : l[0]? = some e := he
  rw [he] at he1; injection he1 with he1; subst he1
  exact ⟨hu, fun i' e' hi' => by omega⟩
theorem upsTo_step (h : UpsTo k l) (h0 : 0 ≤ k) (he : l[k.toNat]? = some e) (hu : upB e = true) (hp : 0 < k → ∃ e', l[(k - 1).toNat]? = some e' ∧ e'.1 < e.1) : UpsTo (k + 1) l := fun i e1 hi he1 => by
  by_cases hik : (i : Int) < k
  · exact h i e1 hik he1
  · have : i = k.toNat := by omega
    subst this
    rw [he] at he1; injection he1 with he1; subst he1
    refine ⟨hu, fun i' e' hi' he' => ?_⟩
    obtain ⟨e2, h2, h3⟩ := hp (by omega)
    have : (k - 1).toNat = i' := by omega
    rw [this, he'] at h2; injection h2 with h2; subst h2
    exact h3
theorem upsB_of (h : UpsTo k l) (hk : (l.length : Int) ≤ k) : upsB l = true := upsB_iff.2 fun i e hi he => h i e (by omega) he
theorem upsB_not {i : Nat} (he : l[i]? = some e) (h : upB e = false) : upsB l = false := Bool.eq_false_iff.2 fun h' => by
  have := (upsB_iff.1 h' i e (by have := (List.getElem?_eq_some_iff.1 he).1; omega) he).1
  rw [h] at this; cases this
theorem upB_not (h : ¬ (0 ≤ e.1 ∧ e.1 ≤ 3 ∧ -1 ≤ e.2.1 ∧ e.2.1 ≤ 990 ∧ -1 ≤ e.2.2 ∧ e.2.2 ≤ 990 ∧ e.2.1 ≠ e.2.2)) : upB e = false := Bool.eq_false_iff.2 fun h' => h (upB_iff.1 h')
theorem upsB_notO (h0 : 0 < k) (he : l[k.toNat]? = some e) (he' : l[(k - 1).toNat]? = some e') (h : ¬ (e'.1 < e.1)) : upsB l = false := Bool.eq_false_iff.2 fun hh => by
  have := (upsB_iff.1 hh k.toNat e (by have := (List.getElem?_eq_some_iff.1 he).1; omega) he).2 (k - 1).toNat e' (by omega) he'
  exact h this
theorem noRef_zero : NoRef x 0 l := fun i e h => by omega
theorem noRef_step (h : NoRef x k l) (h0 : 0 ≤ k) (he : l[k.toNat]? = some e) (hx : ¬ x = e.1) : NoRef x (k + 1) l := fun i e1 hi he1 => by
  by_cases hik : (i : Int) < k
  · exact h i e1 hik he1
  · have : i = k.toNat := by omega
    subst this
    rw [he] at he1; injection he1 with he1; subst he1
    exact hx
theorem hasRef_not (h : NoRef x k l) (hk : (l.length : Int) ≤ k) : hasRef x l = false := by
  unfold hasRef
  rw [List.any_eq_false]
  intro v hv
  obtain ⟨i, hi⟩ := List.getElem?_of_mem hv
  have := h i v (by have := (List.getElem?_eq_some_iff.1 hi).1; omega) hi
  simpa using this
theorem hasRef_of {i : Nat} (he : l[i]? = some e) (hx : x = e.1) : hasRef x l = true := by
  unfold hasRef
  rw [List.any_eq_true]
  exact ⟨e, List.mem_of_getElem? he, by simpa using hx⟩
theorem noCross_zero : NoCross 0 l b := fun i e h => by omega
theorem noCross_step (h : NoCross k l b) (h0 : 0 ≤ k) (he : l[k.toNat]? = some e) (hx : hasRef e.1 b = false) : NoCross (k + 1) l b := fun i e1 hi he1 => by
  by_cases hik : (i : Int) < k
  · exact h i e1 hik he1
  · have : i = k.toNat := by omega
    subst this
    rw [he] at he1; injection he1 with he1; subst he1
    exact hx
theorem crossB_not (h : NoCross k l b) (hk : (l.length : Int) ≤ k) : crossB l b = false := by
  unfold crossB
  rw [List.any_eq_false]
  intro v hv
  obtain ⟨i, hi⟩ := List.getElem?_of_mem hv
  have := h i v (by have := (List.getElem?_eq_some_iff.1 hi).1; omega) hi
  simpa using this
theorem crossB_of {i : Nat} (he : l[i]? = some e) (hx : hasRef e.1 b = true) : crossB l b = true := by
  unfold crossB
  rw [List.any_eq_true]
  exact ⟨e, List.mem_of_getElem? he, hx⟩
end
set_option maxRecDepth 100000 in
/-- laws.toUpdate -/
theorem toUpdate_ok (u0 : Int) (u1 : Int) (u2 : Int) (w0 : World) :
    Calls Tryd.prog 23 #[.agg #[.int .i64 (u0), .int .i64 (u1), .int .i64 (u2)]] w0 fun e w => e = .returned (.agg #[.int .i64 (u0), .int .i64 (u1), .int .i64 (u2)]) ∧ Own w0 [] [] w := by
  have O := Own.start w0
  refine enterO (n := 14) Tryd.func23 rfl rfl rfl O fun a w F O => ?_
  refine c_seq fun K1 hK1 => c_region (so F rfl (o_box F O rfl rfl fun b1 w O a F => ?_))
  have O : Own w0 [] [.cells b1 [.int .i64 (u0), .int .i64 (u1), .int .i64 (u2)] 45] w := O
  refine so F rfl (o_alloc F O Tryd.zero_39 rfl fun b2 w O a F => ?_)
  have O : Own w0 [] [.cells b2 [.int .i64 (0), .int .i64 (0), .int .i64 (0)] 39, .cells b1 [.int .i64 (u0), .int .i64 (u1), .int .i64 (u2)] 45] w := O
  refine c_nil (hK1 _ _ (?_))
  try clear hK1 K1
  refine c_seq fun K2 hK2 => c_region (so F rfl (o_alloc F O Tryd.zero_39 rfl fun b3 w O a F => ?_))
  have O : Own w0 [] [.cells b3 [.int .i64 (0), .int .i64 (0), .int .i64 (0)] 39, .cells b2 [.int .i64 (0), .int .i64 (0), .int .i64 (0)] 39, .cells b1 [.int .i64 (u0), .int .i64 (u1), .int .i64 (u2)] 45] w := O
  refine c_nil (hK2 _ _ (?_))
  try clear hK2 K2
  refine c_seq fun K3 hK3 => c_region (sp F (p_faddr rfl Tryd.foff_45_0) rfl rfl fun a F => sp F (p_load rfl Tryd.agg_3 (fun _ h => (ld1 (O.load 2 rfl rfl) h))) rfl rfl fun a F => sp F (p_faddr rfl Tryd.foff_39_0) rfl rfl fun a F => so F rfl (o_store F O rfl rfl Tryd.sz_3 rfl rfl 0 rfl rfl fun w O => ?_))
  have O : Own w0 [] [.cells b3 [.int .i64 (u0), .int .i64 (0), .int .i64 (0)] 39, .cells b2 [.int .i64 (0), .int .i64 (0), .int .i64 (0)] 39, .cells b1 [.int .i64 (u0), .int .i64 (u1), .int .i64 (u2)] 45] w := O
  refine c_nil (hK3 _ _ (?_))
  try clear hK3 K3
  refine c_seq fun K4 hK4 => c_region (sp F (p_faddr rfl Tryd.foff_45_1) rfl rfl fun a F => sp F (p_load rfl Tryd.agg_3 (fun _ h => (ld1 (O.load 2 rfl rfl) h))) rfl rfl fun a F => sp F (p_faddr rfl Tryd.foff_39_1) rfl rfl fun a F => so F rfl (o_store F O rfl rfl Tryd.sz_3 rfl rfl 0 rfl rfl fun w O => ?_))
  have O : Own w0 [] [.cells b3 [.int .i64 (u0), .int .i64 (u1), .int .i64 (0)] 39, .cells b2 [.int .i64 (0), .int .i64 (0), .int .i64 (0)] 39, .cells b1 [.int .i64 (u0), .int .i64 (u1), .int .i64 (u2)] 45] w := O
  refine c_nil (hK4 _ _ (?_))
  try clear hK4 K4
  refine c_seq fun K5 hK5 => c_region (sp F (p_faddr rfl Tryd.foff_45_2) rfl rfl fun a F => sp F (p_load rfl Tryd.agg_3 (fun _ h => (ld1 (O.load 2 rfl rfl) h))) rfl rfl fun a F => sp F (p_faddr rfl Tryd.foff_39_2) rfl rfl fun a F => so F rfl (o_store F O rfl rfl Tryd.sz_3 rfl rfl 0 rfl rfl fun w O => ?_))
  have O : Own w0 [] [.cells b3 [.int .i64 (u0), .int .i64 (u1), .int .i64 (u2)] 39, .cells b2 [.int .i64 (0), .int .i64 (0), .int .i64 (0)] 39, .cells b1 [.int .i64 (u0), .int .i64 (u1), .int .i64 (u2)] 45] w := O
  refine c_nil (hK5 _ _ (?_))
  try clear hK5 K5
  refine c_seq fun K6 hK6 => c_region (sp F (p_loadC (cs := [.int .i64 (u0), .int .i64 (u1), .int .i64 (u2)]) rfl Tryd.agg_39 Tryd.sz_39 (fun _ h => (CA.cons (ld1 (O.load 0 rfl rfl) h) (CA.cons (ld1 (O.load 0 rfl rfl) h) (CA.cons (ld1 (O.load 0 rfl rfl) h) CA.nil))))) rfl rfl fun a F => so F rfl (o_storeA (vs := [.int .i64 (u0), .int .i64 (u1), .int .i64 (u2)]) F O rfl rfl Tryd.sz_39 (by simp [Value.oneCell']) 1 rfl rfl fun w O => ?_))
  have O : Own w0 [] [.cells b3 [.int .i64 (u0), .int .i64 (u1), .int .i64 (u2)] 39, .cells b2 [.int .i64 (u0), .int .i64 (u1), .int .i64 (u2)] 39, .cells b1 [.int .i64 (u0), .int .i64 (u1), .int .i64 (u2)] 45] w := O
  refine c_nil (hK6 _ _ (?_))
  try clear hK6 K6
  refine wp_ret (retC F O rfl rfl 1 rfl Tryd.agg_39 Tryd.sz_39 (?_))
  have O : Own w0 [] [] w := (O.take 0)
  exact ⟨rfl, O⟩

set_option maxRecDepth 100000 in
/-- laws.eqUpdate -/
theorem eqUpdate_ok (u0 : Int) (u1 : Int) (u2 : Int) (v0 : Int) (v1 : Int) (v2 : Int) (w0 : World) :
    Calls Tryd.prog 29 #[.agg #[.int .i64 (u0), .int .i64 (u1), .int .i64 (u2)], .agg #[.int .i64 (v0), .int .i64 (v1), .int .i64 (v2)]] w0 fun e w => e = .returned (.bool (decide (u0 = v0 ∧ u1 = v1 ∧ u2 = v2))) ∧ Own w0 [] [] w := by
  have O := Own.start w0
  refine enterO (n := 20) Tryd.func29 rfl rfl rfl O fun a w F O => ?_
  refine c_seq fun K1 hK1 => c_region (so F rfl (o_box F O rfl rfl fun b2 w O a F => ?_))
  have O : Own w0 [] [.cells b2 [.int .i64 (u0), .int .i64 (u1), .int .i64 (u2)] 39] w := O
  refine so F rfl (o_box F O rfl rfl fun b3 w O a F => ?_)
  have O : Own w0 [] [.cells b3 [.int .i64 (v0), .int .i64 (v1), .int .i64 (v2)] 39, .cells b2 [.int .i64 (u0), .int .i64 (u1), .int .i64 (u2)] 39] w := O
  refine sp F (p_assign rfl) rfl rfl fun a F => c_nil (hK1 _ _ (?_))
  try clear hK1 K1
  refine c_seq fun K2 hK2 => c_seq fun K3 hK3 => c_region (sp F (p_faddr rfl Tryd.foff_39_0) rfl rfl fun a F => sp F (p_load rfl Tryd.agg_3 (fun _ h => (ld1 (O.load 1 rfl rfl) h))) rfl rfl fun a F => sp F (p_faddr rfl Tryd.foff_39_0) rfl rfl fun a F => sp F (p_load rfl Tryd.agg_3 (fun _ h => (ld1 (O.load 0 rfl rfl) h))) rfl rfl fun a F => sp F (p_neq rfl rfl) rfl rfl fun a F => c_nil (hK3 _ _ (?_)))
  try clear hK3 K3
  by_cases c9 : u0 = v0
  · have F := F.setB (d := 9) rfl (decide_eq_false (fun h => h c9))
    refine c_iff F rfl (wp_skip (hK2 _ _ (?_)))
    try clear hK2 K2
    refine c_seq fun K4 hK4 => c_seq fun K5 hK5 => c_region (sp F (p_faddr rfl Tryd.foff_39_1) rfl rfl fun a F => sp F (p_load rfl Tryd.agg_3 (fun _ h => (ld1 (O.load 1 rfl rfl) h))) rfl rfl fun a F => sp F (p_faddr rfl Tryd.foff_39_1) rfl rfl fun a F => sp F (p_load rfl Tryd.agg_3 (fun _ h => (ld1 (O.load 0 rfl rfl) h))) rfl rfl fun a F => sp F (p_neq rfl rfl) rfl rfl fun a F => c_nil (hK5 _ _ (?_)))
    try clear hK5 K5
    by_cases c14 : u1 = v1
    · have F := F.setB (d := 14) rfl (decide_eq_false (fun h => h c14))
      refine c_iff F rfl (wp_skip (hK4 _ _ (?_)))
      try clear hK4 K4
      refine c_seq fun K6 hK6 => c_seq fun K7 hK7 => c_region (sp F (p_faddr rfl Tryd.foff_39_2) rfl rfl fun a F => sp F (p_load rfl Tryd.agg_3 (fun _ h => (ld1 (O.load 1 rfl rfl) h))) rfl rfl fun a F => sp F (p_faddr rfl Tryd.foff_39_2) rfl rfl fun a F => sp F (p_load rfl Tryd.agg_3 (fun _ h => (ld1 (O.load 0 rfl rfl) h))) rfl rfl fun a F => sp F (p_neq rfl rfl) rfl rfl fun a F => c_nil (hK7 _ _ (?_)))
      try clear hK7 K7
      by_cases c19 : u2 = v2
      · have F := F.setB (d := 19) rfl (decide_eq_false (fun h => h c19))
        refine c_iff F rfl (wp_skip (hK6 _ _ (?_)))
        try clear hK6 K6
        refine c_seq fun K8 hK8 => c_region (sp F (p_assign rfl) rfl rfl fun a F => c_nil (hK8 _ _ (?_)))
        try clear hK8 K8
        refine wp_ret (ret1 F rfl rfl (?_))
        have O : Own w0 [] [] w := (O.take 0)
        exact ⟨congrArg Ending.returned (show Value.bool true = .bool (decide (u0 = v0 ∧ u1 = v1 ∧ u2 = v2)) from by exact vbt (by omega)), O⟩
      · have F := F.setB (d := 19) rfl (decide_eq_true c19)
        refine c_ift F rfl (c_seq fun K8 hK8 => c_region (sp F (p_assign rfl) rfl rfl fun a F => c_nil (hK8 _ _ (?_))))
        try clear hK8 K8
        refine wp_ret (r_then (ret1 F rfl rfl (?_)))
        have O : Own w0 [] [] w := (O.take 0)
        exact ⟨congrArg Ending.returned (show Value.bool false = .bool (decide (u0 = v0 ∧ u1 = v1 ∧ u2 = v2)) from by exact vbf (by omega)), O⟩
    · have F := F.setB (d := 14) rfl (decide_eq_true c14)
      refine c_ift F rfl (c_seq fun K6 hK6 => c_region (sp F (p_assign rfl) rfl rfl fun a F => c_nil (hK6 _ _ (?_))))
      try clear hK6 K6
      refine wp_ret (r_then (ret1 F rfl rfl (?_)))
      have O : Own w0 [] [] w := (O.take 0)
      exact ⟨congrArg Ending.returned (show Value.bool false = .bool (decide (u0 = v0 ∧ u1 = v1 ∧ u2 = v2)) from by exact vbf (by omega)), O⟩
  · have F := F.setB (d := 9) rfl (decide_eq_true c9)
    refine c_ift F rfl (c_seq fun K4 hK4 => c_region (sp F (p_assign rfl) rfl rfl fun a F => c_nil (hK4 _ _ (?_))))
    try clear hK4 K4
    refine wp_ret (r_then (ret1 F rfl rfl (?_)))
    have O : Own w0 [] [] w := (O.take 0)
    exact ⟨congrArg Ending.returned (show Value.bool false = .bool (decide (u0 = v0 ∧ u1 = v1 ∧ u2 = v2)) from by exact vbf (by omega)), O⟩

set_option maxRecDepth 100000 in
/-- laws.szUpdateS -/
theorem szUpdateS_ok (A : Option Addr) (n : Nat) (c : Nat) (es : List (Int × Int × Int)) (left : Int) (w0 : World) (hA : Arr w0 encUp 3 A es) (hn : (n : Int) = es.length) (hb : (n : Int) ≤ 9223372036854775807) (h0 : 0 ≤ left) (h1 : left ≤ 1048576) :
    Calls Tryd.prog 6 #[.slice A n c, .int .i64 (left)] w0 fun e w => ∃ (q : Int), e = .returned (.int .i64 (q)) ∧ ((0 ≤ q ∧ q = left - n) ∨ (q = -1 ∧ left < n)) ∧ Own w0 [] [] w := by
  have O := Own.start w0
  refine enterO (n := 12) Tryd.func6 rfl rfl rfl O fun a w F O => ?_
  refine c_seq fun K1 hK1 => c_region (sp F (p_assign rfl) rfl rfl fun a F => c_nil (hK1 _ _ (?_)))
  try clear hK1 K1
  refine c_seq fun K2 hK2 => c_region (sp F (p_move rfl) rfl rfl fun a F => sp F (p_move rfl) rfl rfl fun a F => sp F (p_len_l rfl Tryd.underlying23) rfl rfl fun a F => sp F (p_sub rfl rfl (by omega) (by omega)) rfl rfl fun a F => sp F (p_assign rfl) rfl rfl fun a F => c_nil (hK2 _ _ (?_)))
  try clear hK2 K2
  refine c_seq fun K3 hK3 => c_seq fun K4 hK4 => c_region (sp F (p_move rfl) rfl rfl fun a F => sp F (p_lss rfl rfl) rfl rfl fun a F => c_nil (hK4 _ _ (?_)))
  try clear hK4 K4
  by_cases c10 : (left - (n : Int)) < 0
  · have F := F.setB (d := 10) rfl (decide_eq_true c10)
    refine c_ift F rfl (c_seq fun K5 hK5 => c_region (sp F (p_assign rfl) rfl rfl fun a F => c_nil (hK5 _ _ (?_))))
    try clear hK5 K5
    refine wp_ret (r_then (ret1 F rfl rfl (?_)))
    exact ⟨(-1), congrArg Ending.returned (show Value.int .i64 (-1) = .int .i64 ((-1)) from by first | exact vint (by omega) | exact vint (by simp; done)), by first | assumption | omega, O⟩
  · have F := F.setB (d := 10) rfl (decide_eq_false c10)
    refine c_iff F rfl (wp_skip (hK3 _ _ (?_)))
    try clear hK3 K3
    refine c_seq fun K5 hK5 => c_region (sp F (p_move rfl) rfl rfl fun a F => sp F (p_assign rfl) rfl rfl fun a F => c_nil (hK5 _ _ (?_)))
    try clear hK5 K5
    refine wp_ret (ret1 F rfl rfl (?_))
    exact ⟨(left - (n : Int)), congrArg Ending.returned (show Value.int .i64 (left - (n : Int)) = .int .i64 ((left - (n : Int))) from by first | exact vint (by omega) | exact vint (by simp; done)), by first | assumption | omega, O⟩

set_option maxRecDepth 100000 in
/-- laws.toUpdateS -/
theorem toUpdateS_ok (A : Option Addr) (n : Nat) (c : Nat) (es : List (Int × Int × Int)) (w0 : World) (hA : Arr w0 encUp 3 A es) (hn : (n : Int) = es.length) (hb : (n : Int) ≤ 1048600) :
    Calls Tryd.prog 9 #[.slice A n c] w0 fun e w => ∃ (b : Nat), ∃ (N : Nat), e = .returned (.slice (some ⟨b, 0, none⟩) N N) ∧ ((N : Int) = es.length) ∧ Own w0 [] [.row 39 3 (.slice (some ⟨b, 0, none⟩) N N) N (es.flatMap encUp)] w := by
  have O := Own.start w0
  refine enterO (n := 23) Tryd.func9 rfl rfl rfl O fun a w F O => ?_
  refine c_seq fun K1 hK1 => c_region (sp F (p_assign rfl) rfl rfl fun a F => c_nil (hK1 _ _ (?_)))
  try clear hK1 K1
  refine c_seq fun K2 hK2 => c_region (sp F (p_move rfl) rfl rfl fun a F => sp F (p_len_l rfl Tryd.underlying23) rfl rfl fun a F => so F rfl (o_make (enc := encUp) (e0 := (0, 0, 0)) F O rfl rfl Tryd.underlying28 Tryd.elem_39 Tryd.zero_39 encUp_len (by decide) (by omega) (by omega) rfl rfl fun b7 w O a F => ?_))
  have O : Own w0 [] [.row 39 3 (.slice (some ⟨b7, 0, none⟩) (((n : Int) : Int).toNat) (((n : Int) : Int).toNat)) (((n : Int) : Int).toNat) ((List.replicate (((n : Int) : Int).toNat) (0, 0, 0)).flatMap encUp)] w := O
  refine sp F (p_assign rfl) rfl rfl fun a F => c_nil (hK2 _ _ (?_))
  try clear hK2 K2
  refine c_seq fun K3 hK3 => c_seq fun K4 hK4 => c_region (sp F (p_assign rfl) rfl rfl fun a F => c_nil (hK4 _ _ (?_)))
  try clear hK4 K4
  refine wp_block (?_)
  refine c_loop (fun mm a w => ∃ (k : Int), ∃ (es1 : List (Int × Int × Int)), mm = ((n : Int) - k).toNat ∧ Has 23 [(0, .slice A n c), (2, .slice none 0 0), (3, .slice (some ⟨b7, 0, none⟩) (((n : Int) : Int).toNat) (((n : Int) : Int).toNat)), (4, .int .i64 (k))] a ∧ Own w0 [] [.row 39 3 (.slice (some ⟨b7, 0, none⟩) (((n : Int) : Int).toNat) (((n : Int) : Int).toNat)) (((n : Int) : Int).toNat) (es1.flatMap encUp)] w ∧ (0 ≤ k) ∧ (k ≤ n) ∧ ((es1.length : Int) = n) ∧ (SameTo k es1 es)) ?_ ?_
  · have F : Has 23 [(0, .slice A n c), (2, .slice none 0 0), (3, .slice (some ⟨b7, 0, none⟩) (((n : Int) : Int).toNat) (((n : Int) : Int).toNat)), (4, .int .i64 (0))] a := F.pick ⟨rfl, rfl, rfl, rfl, trivial⟩
    exact ⟨((n : Int) - 0).toNat, 0, (List.replicate (((n : Int) : Int).toNat) (0, 0, 0)), rfl, F, O, by first | assumption | omega, by first | assumption | omega, by simp, by exact sameTo_zero⟩
  · rintro mm a w ⟨k, es1, rfl, F, O, hi0a, hi0b, hi0c, hi0d⟩
    refine c_seq fun K5 hK5 => c_seq fun K6 hK6 => c_region (sp F (p_move rfl) rfl rfl fun a F => sp F (p_move rfl) rfl rfl fun a F => sp F (p_len_l rfl Tryd.underlying23) rfl rfl fun a F => sp F (p_lss rfl rfl) rfl rfl fun a F => c_nil (hK6 _ _ (?_)))
    try clear hK6 K6
    by_cases c11 : k < (n : Int)
    · have F := F.setB (d := 11) rfl (decide_eq_true c11)
      refine c_ift F rfl (wp_skip (hK5 _ _ (?_)))
      try clear hK5 K5
      refine c_seq fun K7 hK7 => wp_block (c_region (sp F (p_move rfl) rfl rfl fun a F => sp F (p_move rfl) rfl rfl fun a F => sp F (p_move rfl) rfl rfl fun a F => sp F (p_move rfl) rfl rfl fun a F => ?_))
      obtain ⟨b18, o18, hp18, hb18, hc18⟩ := Arr.out hA (by omega)
      have hA18 := hA; rw [hp18] at hA18 F
      obtain ⟨e18, he18⟩ := get_some (l := es) (i := k) (by omega) (by first | omega | (simp; omega))
      refine sp F (p_iaddr rfl rfl Tryd.underlying23 Tryd.sz_45 (by omega) (by omega)) rfl rfl fun a F => sp F (p_loadC (cs := [.int .i64 (e18.1), .int .i64 (e18.2.1), .int .i64 (e18.2.2)]) rfl Tryd.agg_45 Tryd.sz_45 (fun _ h => (CA.cons (ld1 (((O.old hb18 (by simp)).trans (hc18 _ _ he18 0 _ rfl))) h) (CA.cons (ld1 (((O.old hb18 (by simp)).trans (hc18 _ _ he18 1 _ rfl))) h) (CA.cons (ld1 (((O.old hb18 (by simp)).trans (hc18 _ _ he18 2 _ rfl))) h) CA.nil))))) rfl rfl fun a F => so F rfl (o_call (vs := #[.agg #[.int .i64 (e18.1), .int .i64 (e18.2.1), .int .i64 (e18.2.2)]]) F Tryd.en_23 rfl rfl ((toUpdate_ok e18.1 e18.2.1 e18.2.2 w).mono ?_))
      rintro e w ⟨rfl, K⟩
      refine ⟨_, rfl, fun a F => ?_⟩
      have O : Own w0 [] [.row 39 3 (.slice (some ⟨b7, 0, none⟩) (((n : Int) : Int).toNat) (((n : Int) : Int).toNat)) (((n : Int) : Int).toNat) (es1.flatMap encUp)] w := O.call0 K
      clear K
      have O : Own w0 [] [.row 39 3 (.slice (some ⟨b7, 0, none⟩) (((n : Int) : Int).toNat) (((n : Int) : Int).toNat)) (((n : Int) : Int).toNat) (es1.flatMap encUp)] w := O
      obtain ⟨e21, he21⟩ := get_some (l := es1) (i := k) (by omega) (by first | omega | (simp; omega))
      refine sp F (p_iaddr rfl rfl Tryd.underlying28 Tryd.sz_39 (by omega) (by omega)) rfl rfl fun a F => so F rfl (o_storeRowA (vs := [.int .i64 (e18.1), .int .i64 (e18.2.1), .int .i64 (e18.2.2)]) F O rfl rfl Tryd.sz_39 (by simp [Value.oneCell']) 0 rfl (by rw [flat_len encUp_len]; simp only [List.length_cons, List.length_nil]; first | omega | (simp; omega)) fun w O => ?_)
      have hst : (es1.flatMap encUp).take (0 + (k : Int).toNat * 3) ++ [.int .i64 (e18.1), .int .i64 (e18.2.1), .int .i64 (e18.2.2)] ++ (es1.flatMap encUp).drop (0 + (k : Int).toNat * 3 + [(.int .i64 (e18.1) : Value), (.int .i64 (e18.2.1) : Value), (.int .i64 (e18.2.2) : Value)].length) = (es1.set (k : Int).toNat (e18.1, e18.2.1, e18.2.2)).flatMap encUp := flat_setA encUp_len (by first | omega | (simp; omega)) rfl
      have O := O.setR 0 rfl (congrArg (Res.row 39 3 (.slice (some ⟨b7, 0, none⟩) (((n : Int) : Int).toNat) (((n : Int) : Int).toNat)) (((n : Int) : Int).toNat)) hst)
      have O : Own w0 [] [.row 39 3 (.slice (some ⟨b7, 0, none⟩) (((n : Int) : Int).toNat) (((n : Int) : Int).toNat)) (((n : Int) : Int).toNat) ((es1.set (k : Int).toNat (e18.1, e18.2.1, e18.2.2)).flatMap encUp)] w := O
      refine c_nil (hK7 _ _ (?_))
      try clear hK7 K7
      refine c_region (sp F (p_move rfl) rfl rfl fun a F => sp F (p_add rfl rfl (by omega) (by omega)) rfl rfl fun a F => sp F (p_assign rfl) rfl rfl fun a F => c_nil (?_))
      try rw [← hp18] at F
      try rw [← hp18] at O
      have F : Has 23 [(0, .slice A n c), (2, .slice none 0 0), (3, .slice (some ⟨b7, 0, none⟩) (((n : Int) : Int).toNat) (((n : Int) : Int).toNat)), (4, .int .i64 (k + 1))] a := F.pick ⟨rfl, rfl, rfl, rfl, trivial⟩
      exact ⟨((n : Int) - (k + 1)).toNat, by omega, (k + 1), (es1.set (k : Int).toNat (e18.1, e18.2.1, e18.2.2)), rfl, F, O, by first | assumption | omega, by first | assumption | omega, by simp; omega, by exact sameTo_set hi0d hi0a he18 (by omega)⟩
    · have F := F.setB (d := 11) rfl (decide_eq_false c11)
      refine c_iff F rfl (wp_exit (e_then (e_then (e_here (hK3 _ _ (?_))))))
      try clear hK3 K3
      refine c_seq fun K7 hK7 => ?_
      obtain rfl : es = es1 := (same_ext hi0d (by omega) (by omega)).symm
      refine c_region (sp F (p_move rfl) rfl rfl fun a F => sp F (p_assign rfl) rfl rfl fun a F => c_nil (hK7 _ _ (?_)))
      try clear hK7 K7
      refine wp_ret (ret1 F rfl rfl (?_))
      exact ⟨b7, (((n : Int) : Int).toNat), rfl, by first | assumption | omega, O⟩

set_option maxRecDepth 100000 in
/-- laws.eqUpdateS -/
theorem eqUpdateS_ok (A : Option Addr) (n : Nat) (c : Nat) (es : List (Int × Int × Int)) (A2 : Option Addr) (n2 : Nat) (c2 : Nat) (es2 : List (Int × Int × Int)) (w0 : World) (hA : Arr w0 encUp 3 A es) (hn : (n : Int) = es.length) (hb : (n : Int) ≤ 1048600) (hA2 : Arr w0 encUp 3 A2 es2) (hn2 : (n2 : Int) = es2.length) (hb2 : (n2 : Int) ≤ 1048600) :
    Calls Tryd.prog 12 #[.slice A n c, .slice A2 n2 c2] w0 fun e w => e = .returned (.bool (decide (es = es2))) ∧ Own w0 [] [] w := by
  have O := Own.start w0
  refine enterO (n := 27) Tryd.func12 rfl rfl rfl O fun a w F O => ?_
  refine c_seq fun K1 hK1 => c_region (sp F (p_assign rfl) rfl rfl fun a F => c_nil (hK1 _ _ (?_)))
  try clear hK1 K1
  refine c_seq fun K2 hK2 => c_seq fun K3 hK3 => c_region (sp F (p_move rfl) rfl rfl fun a F => sp F (p_len_l rfl Tryd.underlying28) rfl rfl fun a F => sp F (p_move rfl) rfl rfl fun a F => sp F (p_len_l rfl Tryd.underlying28) rfl rfl fun a F => sp F (p_neq rfl rfl) rfl rfl fun a F => c_nil (hK3 _ _ (?_)))
  try clear hK3 K3
  by_cases c10 : (n : Int) = (n2 : Int)
  · have F := F.setB (d := 10) rfl (decide_eq_false (fun h => h c10))
    refine c_iff F rfl (wp_skip (hK2 _ _ (?_)))
    try clear hK2 K2
    refine c_seq fun K4 hK4 => c_seq fun K5 hK5 => c_region (sp F (p_assign rfl) rfl rfl fun a F => c_nil (hK5 _ _ (?_)))
    try clear hK5 K5
    refine wp_block (?_)
    refine c_loop (fun mm a w => ∃ (k : Int), mm = ((n : Int) - k).toNat ∧ Has 27 [(0, .slice A n c), (1, .slice A2 n2 c2), (10, .bool false), (5, .int .i64 (k))] a ∧ Own w0 [] [] w ∧ (0 ≤ k) ∧ (k ≤ n) ∧ (SameTo k es es2)) ?_ ?_
    · have F : Has 27 [(0, .slice A n c), (1, .slice A2 n2 c2), (10, .bool false), (5, .int .i64 (0))] a := F.pick ⟨rfl, rfl, rfl, rfl, trivial⟩
      exact ⟨((n : Int) - 0).toNat, 0, rfl, F, O, by first | assumption | omega, by first | assumption | omega, by exact sameTo_zero⟩
    · rintro mm a w ⟨k, rfl, F, O, hi0a, hi0b, hi0c⟩
      refine c_seq fun K6 hK6 => c_seq fun K7 hK7 => c_region (sp F (p_move rfl) rfl rfl fun a F => sp F (p_move rfl) rfl rfl fun a F => sp F (p_len_l rfl Tryd.underlying28) rfl rfl fun a F => sp F (p_lss rfl rfl) rfl rfl fun a F => c_nil (hK7 _ _ (?_)))
      try clear hK7 K7
      by_cases c14 : k < (n : Int)
      · have F := F.setB (d := 14) rfl (decide_eq_true c14)
        refine c_ift F rfl (wp_skip (hK6 _ _ (?_)))
        try clear hK6 K6
        refine c_seq fun K8 hK8 => wp_block (c_seq fun K9 hK9 => ?_)
        obtain ⟨b19, o19, hp19, hb19, hc19⟩ := Arr.out hA (by omega)
        have hA19 := hA; rw [hp19] at hA19 F
        obtain ⟨e19, he19⟩ := get_some (l := es) (i := k) (by omega) (by first | omega | (simp; omega))
        obtain ⟨b23, o23, hp23, hb23, hc23⟩ := Arr.out hA2 (by omega)
        have hA23 := hA2; rw [hp23] at hA23 F
        obtain ⟨e23, he23⟩ := get_some (l := es2) (i := k) (by omega) (by first | omega | (simp; omega))
        by_cases cc1 : e19.1 = e23.1 ∧ e19.2.1 = e23.2.1 ∧ e19.2.2 = e23.2.2
        · refine c_draw Tryd.mixed (SC [(b19, o19 + (k : Int).toNat * 3, .int .i64 (e19.1)), (b19, o19 + (k : Int).toNat * 3 + 1, .int .i64 (e19.2.1)), (b19, o19 + (k : Int).toNat * 3 + 2, .int .i64 (e19.2.2)), (b23, o23 + (k : Int).toNat * 3, .int .i64 (e23.1)), (b23, o23 + (k : Int).toNat * 3 + 1, .int .i64 (e23.2.1)), (b23, o23 + (k : Int).toNat * 3 + 2, .int .i64 (e23.2.2))]) [] _ (fun a w h => h) ?_
          have O := O.drawn (w.drawn + 1)
          generalize { w with drawn := w.drawn + 1 } = w at O ⊢
          have hS : SC [(b19, o19 + (k : Int).toNat * 3, .int .i64 (e19.1)), (b19, o19 + (k : Int).toNat * 3 + 1, .int .i64 (e19.2.1)), (b19, o19 + (k : Int).toNat * 3 + 2, .int .i64 (e19.2.2)), (b23, o23 + (k : Int).toNat * 3, .int .i64 (e23.1)), (b23, o23 + (k : Int).toNat * 3 + 1, .int .i64 (e23.2.1)), (b23, o23 + (k : Int).toNat * 3 + 2, .int .i64 (e23.2.2))] w := (SC.cons (((O.old hb19 (by simp)).trans (hc19 _ _ he19 0 _ rfl))) (SC.cons (((O.old hb19 (by simp)).trans (hc19 _ _ he19 1 _ rfl))) (SC.cons (((O.old hb19 (by simp)).trans (hc19 _ _ he19 2 _ rfl))) (SC.cons (((O.old hb23 (by simp)).trans (hc23 _ _ he23 0 _ rfl))) (SC.cons (((O.old hb23 (by simp)).trans (hc23 _ _ he23 1 _ rfl))) (SC.cons (((O.old hb23 (by simp)).trans (hc23 _ _ he23 2 _ rfl))) SC.nil))))))
          refine d_take 0 rfl (by kernel_rfl) F (p_move rfl) rfl rfl hS fun a F => d_take 1 rfl (by kernel_rfl) F (p_move rfl) rfl rfl hS fun a F => d_take 2 rfl (by kernel_rfl) F (p_iaddr rfl rfl Tryd.underlying28 Tryd.sz_39 (by omega) (by omega)) rfl rfl hS fun a F => d_take 3 rfl (by kernel_rfl) F (p_loadC (cs := [.int .i64 (e19.1), .int .i64 (e19.2.1), .int .i64 (e19.2.2)]) rfl Tryd.agg_39 Tryd.sz_39 (fun _ h => (CA.cons (SC.get h 0 rfl) (CA.cons (SC.get h 1 rfl) (CA.cons (SC.get h 2 rfl) CA.nil))))) rfl rfl hS fun a F => d_take 4 rfl (by kernel_rfl) F (p_move rfl) rfl rfl hS fun a F => d_take 5 rfl (by kernel_rfl) F (p_move rfl) rfl rfl hS fun a F => d_take 6 rfl (by kernel_rfl) F (p_iaddr rfl rfl Tryd.underlying28 Tryd.sz_39 (by omega) (by omega)) rfl rfl hS fun a F => d_take 7 rfl (by kernel_rfl) F (p_loadC (cs := [.int .i64 (e23.1), .int .i64 (e23.2.1), .int .i64 (e23.2.2)]) rfl Tryd.agg_39 Tryd.sz_39 (fun _ h => (CA.cons (SC.get h 3 rfl) (CA.cons (SC.get h 4 rfl) (CA.cons (SC.get h 5 rfl) CA.nil))))) rfl rfl hS fun a F => d_one 8 (by kernel_rfl) (d_op rfl F rfl (o_call (vs := #[.agg #[.int .i64 (e19.1), .int .i64 (e19.2.1), .int .i64 (e19.2.2)], .agg #[.int .i64 (e23.1), .int .i64 (e23.2.1), .int .i64 (e23.2.2)]]) F Tryd.en_29 rfl rfl ((eqUpdate_ok e19.1 e19.2.1 e19.2.2 e23.1 e23.2.1 e23.2.2 w).mono ?_)))
          rintro e w ⟨rfl, K⟩
          refine ⟨_, rfl, fun a F => ?_⟩
          have O : Own w0 [] [] w := O.call0 K
          clear K
          have F := F.setB (d := 25) rfl (decide_eq_true cc1)
          have O : Own w0 [] [] w := O
          refine ⟨fun _ => (SC.cons (((O.old hb19 (by simp)).trans (hc19 _ _ he19 0 _ rfl))) (SC.cons (((O.old hb19 (by simp)).trans (hc19 _ _ he19 1 _ rfl))) (SC.cons (((O.old hb19 (by simp)).trans (hc19 _ _ he19 2 _ rfl))) (SC.cons (((O.old hb23 (by simp)).trans (hc23 _ _ he23 0 _ rfl))) (SC.cons (((O.old hb23 (by simp)).trans (hc23 _ _ he23 1 _ rfl))) (SC.cons (((O.old hb23 (by simp)).trans (hc23 _ _ he23 2 _ rfl))) SC.nil)))))), ?_⟩
          have hS : SC [(b19, o19 + (k : Int).toNat * 3, .int .i64 (e19.1)), (b19, o19 + (k : Int).toNat * 3 + 1, .int .i64 (e19.2.1)), (b19, o19 + (k : Int).toNat * 3 + 2, .int .i64 (e19.2.2)), (b23, o23 + (k : Int).toNat * 3, .int .i64 (e23.1)), (b23, o23 + (k : Int).toNat * 3 + 1, .int .i64 (e23.2.1)), (b23, o23 + (k : Int).toNat * 3 + 2, .int .i64 (e23.2.2))] w := (SC.cons (((O.old hb19 (by simp)).trans (hc19 _ _ he19 0 _ rfl))) (SC.cons (((O.old hb19 (by simp)).trans (hc19 _ _ he19 1 _ rfl))) (SC.cons (((O.old hb19 (by simp)).trans (hc19 _ _ he19 2 _ rfl))) (SC.cons (((O.old hb23 (by simp)).trans (hc23 _ _ he23 0 _ rfl))) (SC.cons (((O.old hb23 (by simp)).trans (hc23 _ _ he23 1 _ rfl))) (SC.cons (((O.old hb23 (by simp)).trans (hc23 _ _ he23 2 _ rfl))) SC.nil))))))
          refine d_take 9 rfl (by kernel_rfl) F (p_not rfl) rfl rfl hS fun a F => d_done (by kernel_rfl) (hK9 _ _ (?_))
          try clear hK9 K9
          refine c_iff F rfl (wp_skip (hK8 _ _ (?_)))
          try clear hK8 K8
          refine c_region (sp F (p_move rfl) rfl rfl fun a F => sp F (p_add rfl rfl (by omega) (by omega)) rfl rfl fun a F => sp F (p_assign rfl) rfl rfl fun a F => c_nil (?_))
          try rw [← hp23] at F
          try rw [← hp23] at O
          try rw [← hp19] at F
          try rw [← hp19] at O
          have F : Has 27 [(0, .slice A n c), (1, .slice A2 n2 c2), (10, .bool false), (5, .int .i64 (k + 1))] a := F.pick ⟨rfl, rfl, rfl, rfl, trivial⟩
          exact ⟨((n : Int) - (k + 1)).toNat, by omega, (k + 1), rfl, F, O, by first | assumption | omega, by first | assumption | omega, by exact sameTo_step hi0c hi0a he19 he23 (Prod.ext (by omega) (Prod.ext (by omega) (by omega)))⟩
        · refine c_draw Tryd.mixed (SC [(b19, o19 + (k : Int).toNat * 3, .int .i64 (e19.1)), (b19, o19 + (k : Int).toNat * 3 + 1, .int .i64 (e19.2.1)), (b19, o19 + (k : Int).toNat * 3 + 2, .int .i64 (e19.2.2)), (b23, o23 + (k : Int).toNat * 3, .int .i64 (e23.1)), (b23, o23 + (k : Int).toNat * 3 + 1, .int .i64 (e23.2.1)), (b23, o23 + (k : Int).toNat * 3 + 2, .int .i64 (e23.2.2))]) [] _ (fun a w h => h) ?_
          have O := O.drawn (w.drawn + 1)
          generalize { w with drawn := w.drawn + 1 } = w at O ⊢
          have hS : SC [(b19, o19 + (k : Int).toNat * 3, .int .i64 (e19.1)), (b19, o19 + (k : Int).toNat * 3 + 1, .int .i64 (e19.2.1)), (b19, o19 + (k : Int).toNat * 3 + 2, .int .i64 (e19.2.2)), (b23, o23 + (k : Int).toNat * 3, .int .i64 (e23.1)), (b23, o23 + (k : Int).toNat * 3 + 1, .int .i64 (e23.2.1)), (b23, o23 + (k : Int).toNat * 3 + 2, .int .i64 (e23.2.2))] w := (SC.cons (((O.old hb19 (by simp)).trans (hc19 _ _ he19 0 _ rfl))) (SC.cons (((O.old hb19 (by simp)).trans (hc19 _ _ he19 1 _ rfl))) (SC.cons (((O.old hb19 (by simp)).trans (hc19 _ _ he19 2 _ rfl))) (SC.cons (((O.old hb23 (by simp)).trans (hc23 _ _ he23 0 _ rfl))) (SC.cons (((O.old hb23 (by simp)).trans (hc23 _ _ he23 1 _ rfl))) (SC.cons (((O.old hb23 (by simp)).trans (hc23 _ _ he23 2 _ rfl))) SC.nil))))))
          refine d_take 0 rfl (by kernel_rfl) F (p_move rfl) rfl rfl hS fun a F => d_take 1 rfl (by kernel_rfl) F (p_move rfl) rfl rfl hS fun a F => d_take 2 rfl (by kernel_rfl) F (p_iaddr rfl rfl Tryd.underlying28 Tryd.sz_39 (by omega) (by omega)) rfl rfl hS fun a F => d_take 3 rfl (by kernel_rfl) F (p_loadC (cs := [.int .i64 (e19.1), .int .i64 (e19.2.1), .int .i64 (e19.2.2)]) rfl Tryd.agg_39 Tryd.sz_39 (fun _ h => (CA.cons (SC.get h 0 rfl) (CA.cons (SC.get h 1 rfl) (CA.cons (SC.get h 2 rfl) CA.nil))))) rfl rfl hS fun a F => d_take 4 rfl (by kernel_rfl) F (p_move rfl) rfl rfl hS fun a F => d_take 5 rfl (by kernel_rfl) F (p_move rfl) rfl rfl hS fun a F => d_take 6 rfl (by kernel_rfl) F (p_iaddr rfl rfl Tryd.underlying28 Tryd.sz_39 (by omega) (by omega)) rfl rfl hS fun a F => d_take 7 rfl (by kernel_rfl) F (p_loadC (cs := [.int .i64 (e23.1), .int .i64 (e23.2.1), .int .i64 (e23.2.2)]) rfl Tryd.agg_39 Tryd.sz_39 (fun _ h => (CA.cons (SC.get h 3 rfl) (CA.cons (SC.get h 4 rfl) (CA.cons (SC.get h 5 rfl) CA.nil))))) rfl rfl hS fun a F => d_one 8 (by kernel_rfl) (d_op rfl F rfl (o_call (vs := #[.agg #[.int .i64 (e19.1), .int .i64 (e19.2.1), .int .i64 (e19.2.2)], .agg #[.int .i64 (e23.1), .int .i64 (e23.2.1), .int .i64 (e23.2.2)]]) F Tryd.en_29 rfl rfl ((eqUpdate_ok e19.1 e19.2.1 e19.2.2 e23.1 e23.2.1 e23.2.2 w).mono ?_)))
          rintro e w ⟨rfl, K⟩
          refine ⟨_, rfl, fun a F => ?_⟩
          have O : Own w0 [] [] w := O.call0 K
          clear K
          have F := F.setB (d := 25) rfl (decide_eq_false cc1)
          have O : Own w0 [] [] w := O
          refine ⟨fun _ => (SC.cons (((O.old hb19 (by simp)).trans (hc19 _ _ he19 0 _ rfl))) (SC.cons (((O.old hb19 (by simp)).trans (hc19 _ _ he19 1 _ rfl))) (SC.cons (((O.old hb19 (by simp)).trans (hc19 _ _ he19 2 _ rfl))) (SC.cons (((O.old hb23 (by simp)).trans (hc23 _ _ he23 0 _ rfl))) (SC.cons (((O.old hb23 (by simp)).trans (hc23 _ _ he23 1 _ rfl))) (SC.cons (((O.old hb23 (by simp)).trans (hc23 _ _ he23 2 _ rfl))) SC.nil)))))), ?_⟩
          have hS : SC [(b19, o19 + (k : Int).toNat * 3, .int .i64 (e19.1)), (b19, o19 + (k : Int).toNat * 3 + 1, .int .i64 (e19.2.1)), (b19, o19 + (k : Int).toNat * 3 + 2, .int .i64 (e19.2.2)), (b23, o23 + (k : Int).toNat * 3, .int .i64 (e23.1)), (b23, o23 + (k : Int).toNat * 3 + 1, .int .i64 (e23.2.1)), (b23, o23 + (k : Int).toNat * 3 + 2, .int .i64 (e23.2.2))] w := (SC.cons (((O.old hb19 (by simp)).trans (hc19 _ _ he19 0 _ rfl))) (SC.cons (((O.old hb19 (by simp)).trans (hc19 _ _ he19 1 _ rfl))) (SC.cons (((O.old hb19 (by simp)).trans (hc19 _ _ he19 2 _ rfl))) (SC.cons (((O.old hb23 (by simp)).trans (hc23 _ _ he23 0 _ rfl))) (SC.cons (((O.old hb23 (by simp)).trans (hc23 _ _ he23 1 _ rfl))) (SC.cons (((O.old hb23 (by simp)).trans (hc23 _ _ he23 2 _ rfl))) SC.nil))))))
          refine d_take 9 rfl (by kernel_rfl) F (p_not rfl) rfl rfl hS fun a F => d_done (by kernel_rfl) (hK9 _ _ (?_))
          try clear hK9 K9
          refine c_ift F rfl (c_seq fun K10 hK10 => c_region (sp F (p_assign rfl) rfl rfl fun a F => c_nil (hK10 _ _ (?_))))
          try clear hK10 K10
          refine wp_ret (r_block (r_then (r_then (r_block (r_then (ret1 F rfl rfl (?_)))))))
          exact ⟨congrArg Ending.returned (show Value.bool false = .bool (decide (es = es2)) from by exact vbf (fun h => by subst h; first | omega | (rw [he19] at he23; injection he23 with h9; subst h9; omega))), O⟩
      · have F := F.setB (d := 14) rfl (decide_eq_false c14)
        refine c_iff F rfl (wp_exit (e_then (e_then (e_here (hK4 _ _ (?_))))))
        try clear hK4 K4
        refine c_seq fun K8 hK8 => c_region (sp F (p_assign rfl) rfl rfl fun a F => c_nil (hK8 _ _ (?_)))
        try clear hK8 K8
        refine wp_ret (ret1 F rfl rfl (?_))
        exact ⟨congrArg Ending.returned (show Value.bool true = .bool (decide (es = es2)) from by exact vbt (same_ext hi0c (by omega) (by omega))), O⟩
  · have F := F.setB (d := 10) rfl (decide_eq_true c10)
    refine c_ift F rfl (c_seq fun K4 hK4 => c_region (sp F (p_assign rfl) rfl rfl fun a F => c_nil (hK4 _ _ (?_))))
    try clear hK4 K4
    refine wp_ret (r_then (ret1 F rfl rfl (?_)))
    exact ⟨congrArg Ending.returned (show Value.bool false = .bool (decide (es = es2)) from by exact vbf (fun h => by subst h; first | omega | (rw [he19] at he23; injection he23 with h9; subst h9; omega))), O⟩

set_option maxRecDepth 100000 in
set_option maxHeartbeats 1600000 in
/-- spec.UpdatesValid -/
theorem sUpdatesValid_ok (A : Option Addr) (n : Nat) (c : Nat) (es : List (Int × Int × Int)) (w0 : World) (hA : Arr w0 encUp 3 A es) (hn : (n : Int) = es.length) (hb : (n : Int) ≤ 1048600) :
    Calls Tryd.prog 21 #[.slice A n c] w0 fun e w => e = .returned (.bool (decide (0 < es.length ∧ upsB es = true))) ∧ Own w0 [] [] w := by
  have O := Own.start w0
  refine enterO (n := 56) Tryd.func21 rfl rfl rfl O fun a w F O => ?_
  refine c_seq fun K1 hK1 => c_region (sp F (p_assign rfl) rfl rfl fun a F => c_nil (hK1 _ _ (?_)))
  try clear hK1 K1
  refine c_seq fun K2 hK2 => c_seq fun K3 hK3 => c_region (sp F (p_assign rfl) rfl rfl fun a F => c_nil (hK3 _ _ (?_)))
  try clear hK3 K3
  refine wp_block (?_)
  refine c_loop (fun mm a w => ∃ (k : Int), mm = ((n : Int) - k).toNat ∧ Has 56 [(0, .slice A n c), (3, .int .i64 (k))] a ∧ Own w0 [] [] w ∧ (0 ≤ k) ∧ (k ≤ n) ∧ (UpsTo k es)) ?_ ?_
  · have F : Has 56 [(0, .slice A n c), (3, .int .i64 (0))] a := F.pick ⟨rfl, rfl, trivial⟩
    exact ⟨((n : Int) - 0).toNat, 0, rfl, F, O, by first | assumption | omega, by first | assumption | omega, by exact upsTo_zero⟩
  · rintro mm a w ⟨k, rfl, F, O, hi0a, hi0b, hi0c⟩
    refine c_seq fun K4 hK4 => c_seq fun K5 hK5 => c_region (sp F (p_move rfl) rfl rfl fun a F => sp F (p_move rfl) rfl rfl fun a F => sp F (p_len_l rfl Tryd.underlying28) rfl rfl fun a F => sp F (p_lss rfl rfl) rfl rfl fun a F => c_nil (hK5 _ _ (?_)))
    try clear hK5 K5
    by_cases c8 : k < (n : Int)
    · have F := F.setB (d := 8) rfl (decide_eq_true c8)
      refine c_ift F rfl (wp_skip (hK4 _ _ (?_)))
      try clear hK4 K4
      refine c_seq fun K6 hK6 => wp_block (c_seq fun K7 hK7 => c_region (sp F (p_move rfl) rfl rfl fun a F => sp F (p_move rfl) rfl rfl fun a F => ?_))
      obtain ⟨b13, o13, hp13, hb13, hc13⟩ := Arr.out hA (by omega)
      have hA13 := hA; rw [hp13] at hA13 F
      obtain ⟨e13, he13⟩ := get_some (l := es) (i := k) (by omega) (by first | omega | (simp; omega))
      refine sp F (p_iaddr rfl rfl Tryd.underlying28 Tryd.sz_39 (by omega) (by omega)) rfl rfl fun a F => sp F (p_loadC (cs := [.int .i64 (e13.1), .int .i64 (e13.2.1), .int .i64 (e13.2.2)]) rfl Tryd.agg_39 Tryd.sz_39 (fun _ h => (CA.cons (ld1 (((O.old hb13 (by simp)).trans (hc13 _ _ he13 0 _ rfl))) h) (CA.cons (ld1 (((O.old hb13 (by simp)).trans (hc13 _ _ he13 1 _ rfl))) h) (CA.cons (ld1 (((O.old hb13 (by simp)).trans (hc13 _ _ he13 2 _ rfl))) h) CA.nil))))) rfl rfl fun a F => so F rfl (o_alloc F O Tryd.zero_39 rfl fun b4 w O a F => ?_)
      have O : Own w0 [] [.cells b4 [.int .i64 (0), .int .i64 (0), .int .i64 (0)] 39] w := O
      refine so F rfl (o_storeA (vs := [.int .i64 (e13.1), .int .i64 (e13.2.1), .int .i64 (e13.2.2)]) F O rfl rfl Tryd.sz_39 (by simp [Value.oneCell']) 0 rfl rfl fun w O => ?_)
      have O : Own w0 [] [.cells b4 [.int .i64 (e13.1), .int .i64 (e13.2.1), .int .i64 (e13.2.2)] 39] w := O
      refine c_nil (hK7 _ _ (?_))
      try clear hK7 K7
      refine c_seq fun K8 hK8 => ?_
      by_cases cc2 : 0 ≤ e13.1 ∧ e13.1 ≤ 3
      · by_cases cc3 : -1 ≤ e13.2.1 ∧ e13.2.1 ≤ 990
        · by_cases cc4 : -1 ≤ e13.2.2 ∧ e13.2.2 ≤ 990
          · by_cases cc5 : e13.2.1 = e13.2.2
            · refine c_draw Tryd.mixed (SC [(b4, 0, .int .i64 (e13.1)), (b4, 0 + 1, .int .i64 (e13.2.1)), (b4, 0 + 2, .int .i64 (e13.2.2))]) [] _ (fun a w h => h) ?_
              have O := O.drawn (w.drawn + 1)
              generalize { w with drawn := w.drawn + 1 } = w at O ⊢
              have hS : SC [(b4, 0, .int .i64 (e13.1)), (b4, 0 + 1, .int .i64 (e13.2.1)), (b4, 0 + 2, .int .i64 (e13.2.2))] w := (SC.cons (O.load 0 rfl rfl) (SC.cons (O.load 0 rfl rfl) (SC.cons (O.load 0 rfl rfl) SC.nil)))
              refine d_take 0 rfl (by kernel_rfl) F (p_faddr rfl Tryd.foff_39_0) rfl rfl hS fun a F => d_take 1 rfl (by kernel_rfl) F (p_load rfl Tryd.agg_3 (fun _ h => (SC.get h 0 rfl))) rfl rfl hS fun a F => d_one 2 (by kernel_rfl) (d_op rfl F rfl (o_call (vs := #[.int .i64 (e13.1), .int .i64 (0), .int .i64 (3)]) F Tryd.en_36 rfl rfl ((l6In_ok e13.1 0 3 w).mono ?_)))
              rintro e w ⟨rfl, K⟩
              refine ⟨_, rfl, fun a F => ?_⟩
              have O : Own w0 [] [.cells b4 [.int .i64 (e13.1), .int .i64 (e13.2.1), .int .i64 (e13.2.2)] 39] w := O.call0 K
              clear K
              have F := F.setB (d := 17) rfl (decide_eq_true cc2)
              have O : Own w0 [] [.cells b4 [.int .i64 (e13.1), .int .i64 (e13.2.1), .int .i64 (e13.2.2)] 39] w := O
              refine ⟨fun _ => (SC.cons (O.load 0 rfl rfl) (SC.cons (O.load 0 rfl rfl) (SC.cons (O.load 0 rfl rfl) SC.nil))), ?_⟩
              have hS : SC [(b4, 0, .int .i64 (e13.1)), (b4, 0 + 1, .int .i64 (e13.2.1)), (b4, 0 + 2, .int .i64 (e13.2.2))] w := (SC.cons (O.load 0 rfl rfl) (SC.cons (O.load 0 rfl rfl) (SC.cons (O.load 0 rfl rfl) SC.nil)))
              refine d_take 3 rfl (by kernel_rfl) F (p_not rfl) rfl rfl hS fun a F => d_take 4 rfl (by kernel_rfl) F (p_move rfl) rfl rfl hS fun a F => d_take 5 rfl (by kernel_rfl) F (p_faddr rfl Tryd.foff_39_1) rfl rfl hS fun a F => d_take 6 rfl (by kernel_rfl) F (p_load rfl Tryd.agg_3 (fun _ h => (SC.get h 1 rfl))) rfl rfl hS fun a F => d_one 7 (by kernel_rfl) (d_op rfl F rfl (o_call (vs := #[.int .i64 (e13.2.1)]) F Tryd.en_37 rfl rfl ((l11Value_ok e13.2.1 w).mono ?_)))
              rintro e w ⟨rfl, K⟩
              refine ⟨_, rfl, fun a F => ?_⟩
              have O : Own w0 [] [.cells b4 [.int .i64 (e13.1), .int .i64 (e13.2.1), .int .i64 (e13.2.2)] 39] w := O.call0 K
              clear K
              have F := F.setB (d := 22) rfl (decide_eq_true cc3)
              have O : Own w0 [] [.cells b4 [.int .i64 (e13.1), .int .i64 (e13.2.1), .int .i64 (e13.2.2)] 39] w := O
              refine ⟨fun _ => (SC.cons (O.load 0 rfl rfl) (SC.cons (O.load 0 rfl rfl) (SC.cons (O.load 0 rfl rfl) SC.nil))), ?_⟩
              have hS : SC [(b4, 0, .int .i64 (e13.1)), (b4, 0 + 1, .int .i64 (e13.2.1)), (b4, 0 + 2, .int .i64 (e13.2.2))] w := (SC.cons (O.load 0 rfl rfl) (SC.cons (O.load 0 rfl rfl) (SC.cons (O.load 0 rfl rfl) SC.nil)))
              refine d_take 8 rfl (by kernel_rfl) F (p_not rfl) rfl rfl hS fun a F => d_take 9 rfl (by kernel_rfl) F (p_pick (t := false) rfl rfl) rfl rfl hS fun a F => d_take 10 rfl (by kernel_rfl) F (p_move rfl) rfl rfl hS fun a F => d_take 11 rfl (by kernel_rfl) F (p_faddr rfl Tryd.foff_39_2) rfl rfl hS fun a F => d_take 12 rfl (by kernel_rfl) F (p_load rfl Tryd.agg_3 (fun _ h => (SC.get h 2 rfl))) rfl rfl hS fun a F => d_one 13 (by kernel_rfl) (d_op rfl F rfl (o_call (vs := #[.int .i64 (e13.2.2)]) F Tryd.en_37 rfl rfl ((l11Value_ok e13.2.2 w).mono ?_)))
              rintro e w ⟨rfl, K⟩
              refine ⟨_, rfl, fun a F => ?_⟩
              have O : Own w0 [] [.cells b4 [.int .i64 (e13.1), .int .i64 (e13.2.1), .int .i64 (e13.2.2)] 39] w := O.call0 K
              clear K
              have F := F.setB (d := 28) rfl (decide_eq_true cc4)
              have O : Own w0 [] [.cells b4 [.int .i64 (e13.1), .int .i64 (e13.2.1), .int .i64 (e13.2.2)] 39] w := O
              refine ⟨fun _ => (SC.cons (O.load 0 rfl rfl) (SC.cons (O.load 0 rfl rfl) (SC.cons (O.load 0 rfl rfl) SC.nil))), ?_⟩
              have hS : SC [(b4, 0, .int .i64 (e13.1)), (b4, 0 + 1, .int .i64 (e13.2.1)), (b4, 0 + 2, .int .i64 (e13.2.2))] w := (SC.cons (O.load 0 rfl rfl) (SC.cons (O.load 0 rfl rfl) (SC.cons (O.load 0 rfl rfl) SC.nil)))
              refine d_take 14 rfl (by kernel_rfl) F (p_not rfl) rfl rfl hS fun a F => d_take 15 rfl (by kernel_rfl) F (p_pick (t := false) rfl rfl) rfl rfl hS fun a F => d_take 16 rfl (by kernel_rfl) F (p_move rfl) rfl rfl hS fun a F => d_take 17 rfl (by kernel_rfl) F (p_faddr rfl Tryd.foff_39_1) rfl rfl hS fun a F => d_take 18 rfl (by kernel_rfl) F (p_load rfl Tryd.agg_3 (fun _ h => (SC.get h 1 rfl))) rfl rfl hS fun a F => d_take 19 rfl (by kernel_rfl) F (p_faddr rfl Tryd.foff_39_2) rfl rfl hS fun a F => d_take 20 rfl (by kernel_rfl) F (p_load rfl Tryd.agg_3 (fun _ h => (SC.get h 2 rfl))) rfl rfl hS fun a F => d_take 21 rfl (by kernel_rfl) F (p_eql rfl rfl) rfl rfl hS fun a F => ?_
              have F := F.setB (d := 36) rfl (decide_eq_true cc5)
              refine d_take 22 rfl (by kernel_rfl) F (p_pick (t := false) rfl rfl) rfl rfl hS fun a F => d_take 23 rfl (by kernel_rfl) F (p_move rfl) rfl rfl hS fun a F => d_skip 24 rfl (by kernel_rfl) F rfl rfl hS fun a F => d_skip 25 rfl (by kernel_rfl) F rfl rfl hS fun a F => d_skip 26 rfl (by kernel_rfl) F rfl rfl hS fun a F => d_skip 27 rfl (by kernel_rfl) F rfl rfl hS fun a F => d_skip 28 rfl (by kernel_rfl) F rfl rfl hS fun a F => d_skip 29 rfl (by kernel_rfl) F rfl rfl hS fun a F => d_skip 30 rfl (by kernel_rfl) F rfl rfl hS fun a F => d_skip 31 rfl (by kernel_rfl) F rfl rfl hS fun a F => d_skip 32 rfl (by kernel_rfl) F rfl rfl hS fun a F => d_skip 33 rfl (by kernel_rfl) F rfl rfl hS fun a F => d_skip 34 rfl (by kernel_rfl) F rfl rfl hS fun a F => ?_
              refine d_skip 35 rfl (by kernel_rfl) F rfl rfl hS fun a F => d_skip 36 rfl (by kernel_rfl) F rfl rfl hS fun a F => d_take 37 rfl (by kernel_rfl) F (p_pick (t := true) rfl rfl) rfl rfl hS fun a F => d_done (by kernel_rfl) (hK8 _ _ (?_))
              try clear hK8 K8
              refine c_ift F rfl (c_seq fun K9 hK9 => c_region (sp F (p_assign rfl) rfl rfl fun a F => c_nil (hK9 _ _ (?_))))
              try clear hK9 K9
              refine wp_ret (r_block (r_then (r_then (r_block (r_then (ret1 F rfl rfl (?_)))))))
              have O : Own w0 [] [] w := (O.take 0)
              exact ⟨congrArg Ending.returned (show Value.bool false = .bool (decide (0 < es.length ∧ upsB es = true)) from by exact vbf (fun h => absurd h.2 (by rw [show upsB es = false from by first | exact upsB_not he13 (upB_not (by omega)) | exact upsB_notO (by omega) he13 he45 (by omega)]; decide))), O⟩
            · by_cases cc6 : 0 < k
              · obtain ⟨e45, he45⟩ := get_some (l := es) (i := k - 1) (by omega) (by first | omega | (simp; omega))
                refine c_draw Tryd.mixed (SC [(b4, 0, .int .i64 (e13.1)), (b4, 0 + 1, .int .i64 (e13.2.1)), (b4, 0 + 2, .int .i64 (e13.2.2)), (b13, o13 + (k - 1 : Int).toNat * 3, .int .i64 (e45.1))]) [] _ (fun a w h => h) ?_
                have O := O.drawn (w.drawn + 1)
                generalize { w with drawn := w.drawn + 1 } = w at O ⊢
                have hS : SC [(b4, 0, .int .i64 (e13.1)), (b4, 0 + 1, .int .i64 (e13.2.1)), (b4, 0 + 2, .int .i64 (e13.2.2)), (b13, o13 + (k - 1 : Int).toNat * 3, .int .i64 (e45.1))] w := (SC.cons (O.load 0 rfl rfl) (SC.cons (O.load 0 rfl rfl) (SC.cons (O.load 0 rfl rfl) (SC.cons (((O.old hb13 (by simp)).trans (hc13 _ _ he45 0 _ rfl))) SC.nil))))
                refine d_take 0 rfl (by kernel_rfl) F (p_faddr rfl Tryd.foff_39_0) rfl rfl hS fun a F => d_take 1 rfl (by kernel_rfl) F (p_load rfl Tryd.agg_3 (fun _ h => (SC.get h 0 rfl))) rfl rfl hS fun a F => d_one 2 (by kernel_rfl) (d_op rfl F rfl (o_call (vs := #[.int .i64 (e13.1), .int .i64 (0), .int .i64 (3)]) F Tryd.en_36 rfl rfl ((l6In_ok e13.1 0 3 w).mono ?_)))
                rintro e w ⟨rfl, K⟩
                refine ⟨_, rfl, fun a F => ?_⟩
                have O : Own w0 [] [.cells b4 [.int .i64 (e13.1), .int .i64 (e13.2.1), .int .i64 (e13.2.2)] 39] w := O.call0 K
                clear K
                have F := F.setB (d := 17) rfl (decide_eq_true cc2)
                have O : Own w0 [] [.cells b4 [.int .i64 (e13.1), .int .i64 (e13.2.1), .int .i64 (e13.2.2)] 39] w := O
                refine ⟨fun _ => (SC.cons (O.load 0 rfl rfl) (SC.cons (O.load 0 rfl rfl) (SC.cons (O.load 0 rfl rfl) (SC.cons (((O.old hb13 (by simp)).trans (hc13 _ _ he45 0 _ rfl))) SC.nil)))), ?_⟩
                have hS : SC [(b4, 0, .int .i64 (e13.1)), (b4, 0 + 1, .int .i64 (e13.2.1)), (b4, 0 + 2, .int .i64 (e13.2.2)), (b13, o13 + (k - 1 : Int).toNat * 3, .int .i64 (e45.1))] w := (SC.cons (O.load 0 rfl rfl) (SC.cons (O.load 0 rfl rfl) (SC.cons (O.load 0 rfl rfl) (SC.cons (((O.old hb13 (by simp)).trans (hc13 _ _ he45 0 _ rfl))) SC.nil))))
                refine d_take 3 rfl (by kernel_rfl) F (p_not rfl) rfl rfl hS fun a F => d_take 4 rfl (by kernel_rfl) F (p_move rfl) rfl rfl hS fun a F => d_take 5 rfl (by kernel_rfl) F (p_faddr rfl Tryd.foff_39_1) rfl rfl hS fun a F => d_take 6 rfl (by kernel_rfl) F (p_load rfl Tryd.agg_3 (fun _ h => (SC.get h 1 rfl))) rfl rfl hS fun a F => d_one 7 (by kernel_rfl) (d_op rfl F rfl (o_call (vs := #[.int .i64 (e13.2.1)]) F Tryd.en_37 rfl rfl ((l11Value_ok e13.2.1 w).mono ?_)))
                rintro e w ⟨rfl, K⟩
                refine ⟨_, rfl, fun a F => ?_⟩
                have O : Own w0 [] [.cells b4 [.int .i64 (e13.1), .int .i64 (e13.2.1), .int .i64 (e13.2.2)] 39] w := O.call0 K
                clear K
                have F := F.setB (d := 22) rfl (decide_eq_true cc3)
                have O : Own w0 [] [.cells b4 [.int .i64 (e13.1), .int .i64 (e13.2.1), .int .i64 (e13.2.2)] 39] w := O
                refine ⟨fun _ => (SC.cons (O.load 0 rfl rfl) (SC.cons (O.load 0 rfl rfl) (SC.cons (O.load 0 rfl rfl) (SC.cons (((O.old hb13 (by simp)).trans (hc13 _ _ he45 0 _ rfl))) SC.nil)))), ?_⟩
                have hS : SC [(b4, 0, .int .i64 (e13.1)), (b4, 0 + 1, .int .i64 (e13.2.1)), (b4, 0 + 2, .int .i64 (e13.2.2)), (b13, o13 + (k - 1 : Int).toNat * 3, .int .i64 (e45.1))] w := (SC.cons (O.load 0 rfl rfl) (SC.cons (O.load 0 rfl rfl) (SC.cons (O.load 0 rfl rfl) (SC.cons (((O.old hb13 (by simp)).trans (hc13 _ _ he45 0 _ rfl))) SC.nil))))
                refine d_take 8 rfl (by kernel_rfl) F (p_not rfl) rfl rfl hS fun a F => d_take 9 rfl (by kernel_rfl) F (p_pick (t := false) rfl rfl) rfl rfl hS fun a F => d_take 10 rfl (by kernel_rfl) F (p_move rfl) rfl rfl hS fun a F => d_take 11 rfl (by kernel_rfl) F (p_faddr rfl Tryd.foff_39_2) rfl rfl hS fun a F => d_take 12 rfl (by kernel_rfl) F (p_load rfl Tryd.agg_3 (fun _ h => (SC.get h 2 rfl))) rfl rfl hS fun a F => d_one 13 (by kernel_rfl) (d_op rfl F rfl (o_call (vs := #[.int .i64 (e13.2.2)]) F Tryd.en_37 rfl rfl ((l11Value_ok e13.2.2 w).mono ?_)))
                rintro e w ⟨rfl, K⟩
                refine ⟨_, rfl, fun a F => ?_⟩
                have O : Own w0 [] [.cells b4 [.int .i64 (e13.1), .int .i64 (e13.2.1), .int .i64 (e13.2.2)] 39] w := O.call0 K
                clear K
                have F := F.setB (d := 28) rfl (decide_eq_true cc4)
                have O : Own w0 [] [.cells b4 [.int .i64 (e13.1), .int .i64 (e13.2.1), .int .i64 (e13.2.2)] 39] w := O
                refine ⟨fun _ => (SC.cons (O.load 0 rfl rfl) (SC.cons (O.load 0 rfl rfl) (SC.cons (O.load 0 rfl rfl) (SC.cons (((O.old hb13 (by simp)).trans (hc13 _ _ he45 0 _ rfl))) SC.nil)))), ?_⟩
                have hS : SC [(b4, 0, .int .i64 (e13.1)), (b4, 0 + 1, .int .i64 (e13.2.1)), (b4, 0 + 2, .int .i64 (e13.2.2)), (b13, o13 + (k - 1 : Int).toNat * 3, .int .i64 (e45.1))] w := (SC.cons (O.load 0 rfl rfl) (SC.cons (O.load 0 rfl rfl) (SC.cons (O.load 0 rfl rfl) (SC.cons (((O.old hb13 (by simp)).trans (hc13 _ _ he45 0 _ rfl))) SC.nil))))
                refine d_take 14 rfl (by kernel_rfl) F (p_not rfl) rfl rfl hS fun a F => d_take 15 rfl (by kernel_rfl) F (p_pick (t := false) rfl rfl) rfl rfl hS fun a F => d_take 16 rfl (by kernel_rfl) F (p_move rfl) rfl rfl hS fun a F => d_take 17 rfl (by kernel_rfl) F (p_faddr rfl Tryd.foff_39_1) rfl rfl hS fun a F => d_take 18 rfl (by kernel_rfl) F (p_load rfl Tryd.agg_3 (fun _ h => (SC.get h 1 rfl))) rfl rfl hS fun a F => d_take 19 rfl (by kernel_rfl) F (p_faddr rfl Tryd.foff_39_2) rfl rfl hS fun a F => d_take 20 rfl (by kernel_rfl) F (p_load rfl Tryd.agg_3 (fun _ h => (SC.get h 2 rfl))) rfl rfl hS fun a F => d_take 21 rfl (by kernel_rfl) F (p_eql rfl rfl) rfl rfl hS fun a F => ?_
                have F := F.setB (d := 36) rfl (decide_eq_false cc5)
                refine d_take 22 rfl (by kernel_rfl) F (p_pick (t := false) rfl rfl) rfl rfl hS fun a F => d_take 23 rfl (by kernel_rfl) F (p_move rfl) rfl rfl hS fun a F => d_take 24 rfl (by kernel_rfl) F (p_move rfl) rfl rfl hS fun a F => d_take 25 rfl (by kernel_rfl) F (p_gtr rfl rfl) rfl rfl hS fun a F => ?_
                have F := F.setB (d := 40) rfl (decide_eq_true cc6)
                refine d_take 26 rfl (by kernel_rfl) F (p_move rfl) rfl rfl hS fun a F => d_take 27 rfl (by kernel_rfl) F (p_move rfl) rfl rfl hS fun a F => d_take 28 rfl (by kernel_rfl) F (p_move rfl) rfl rfl hS fun a F => d_take 29 rfl (by kernel_rfl) F (p_sub rfl rfl (by omega) (by omega)) rfl rfl hS fun a F => d_take 30 rfl (by kernel_rfl) F (p_iaddr rfl rfl Tryd.underlying28 Tryd.sz_39 (by omega) (by omega)) rfl rfl hS fun a F => d_take 31 rfl (by kernel_rfl) F (p_faddr rfl Tryd.foff_39_0) rfl rfl hS fun a F => d_take 32 rfl (by kernel_rfl) F (p_load rfl Tryd.agg_3 (fun _ h => (SC.get h 3 rfl))) rfl rfl hS fun a F => d_take 33 rfl (by kernel_rfl) F (p_faddr rfl Tryd.foff_39_0) rfl rfl hS fun a F => d_take 34 rfl (by kernel_rfl) F (p_load rfl Tryd.agg_3 (fun _ h => (SC.get h 0 rfl))) rfl rfl hS fun a F => d_take 35 rfl (by kernel_rfl) F (p_geq rfl rfl) rfl rfl hS fun a F => d_take 36 rfl (by kernel_rfl) F (p_pick (t := true) rfl rfl) rfl rfl hS fun a F => d_take 37 rfl (by kernel_rfl) F (p_pick (t := false) rfl rfl) rfl rfl hS fun a F => d_done (by kernel_rfl) (?_)
                refine hK8 _ _ (?_)
                try clear hK8 K8
                by_cases c52 : e13.1 ≤ e45.1
                · have F := F.setB (d := 50) rfl (decide_eq_true c52)
                  have F := F.setB (d := 51) rfl (decide_eq_true c52)
                  have F := F.setB (d := 52) rfl (decide_eq_true c52)
                  refine c_ift F rfl (c_seq fun K9 hK9 => c_region (sp F (p_assign rfl) rfl rfl fun a F => c_nil (hK9 _ _ (?_))))
                  try clear hK9 K9
                  refine wp_ret (r_block (r_then (r_then (r_block (r_then (ret1 F rfl rfl (?_)))))))
                  have O : Own w0 [] [] w := (O.take 0)
                  exact ⟨congrArg Ending.returned (show Value.bool false = .bool (decide (0 < es.length ∧ upsB es = true)) from by exact vbf (fun h => absurd h.2 (by rw [show upsB es = false from by first | exact upsB_not he13 (upB_not (by omega)) | exact upsB_notO (by omega) he13 he45 (by omega)]; decide))), O⟩
                · have F := F.setB (d := 50) rfl (decide_eq_false c52)
                  have F := F.setB (d := 51) rfl (decide_eq_false c52)
                  have F := F.setB (d := 52) rfl (decide_eq_false c52)
                  refine c_iff F rfl (wp_skip (hK6 _ _ (?_)))
                  try clear hK6 K6
                  refine c_region (sp F (p_move rfl) rfl rfl fun a F => sp F (p_add rfl rfl (by omega) (by omega)) rfl rfl fun a F => sp F (p_assign rfl) rfl rfl fun a F => c_nil (?_))
                  try rw [← hp13] at F
                  try rw [← hp13] at O
                  have F : Has 56 [(0, .slice A n c), (3, .int .i64 (k + 1))] a := F.pick ⟨rfl, rfl, trivial⟩
                  have O : Own w0 [] [] w := (O.take 0)
                  exact ⟨((n : Int) - (k + 1)).toNat, by omega, (k + 1), rfl, F, O, by first | assumption | omega, by first | assumption | omega, by exact upsTo_step hi0c hi0a he13 (upB_iff.2 (by omega)) (fun hk0 => by first | exact ⟨_, he45, by omega⟩ | omega)⟩
              · refine c_draw Tryd.mixed (SC [(b4, 0, .int .i64 (e13.1)), (b4, 0 + 1, .int .i64 (e13.2.1)), (b4, 0 + 2, .int .i64 (e13.2.2))]) [] _ (fun a w h => h) ?_
                have O := O.drawn (w.drawn + 1)
                generalize { w with drawn := w.drawn + 1 } = w at O ⊢
                have hS : SC [(b4, 0, .int .i64 (e13.1)), (b4, 0 + 1, .int .i64 (e13.2.1)), (b4, 0 + 2, .int .i64 (e13.2.2))] w := (SC.cons (O.load 0 rfl rfl) (SC.cons (O.load 0 rfl rfl) (SC.cons (O.load 0 rfl rfl) SC.nil)))
                refine d_take 0 rfl (by kernel_rfl) F (p_faddr rfl Tryd.foff_39_0) rfl rfl hS fun a F => d_take 1 rfl (by kernel_rfl) F (p_load rfl Tryd.agg_3 (fun _ h => (SC.get h 0 rfl))) rfl rfl hS fun a F => d_one 2 (by kernel_rfl) (d_op rfl F rfl (o_call (vs := #[.int .i64 (e13.1), .int .i64 (0), .int .i64 (3)]) F Tryd.en_36 rfl rfl ((l6In_ok e13.1 0 3 w).mono ?_)))
                rintro e w ⟨rfl, K⟩
                refine ⟨_, rfl, fun a F => ?_⟩
                have O : Own w0 [] [.cells b4 [.int .i64 (e13.1), .int .i64 (e13.2.1), .int .i64 (e13.2.2)] 39] w := O.call0 K
                clear K
                have F := F.setB (d := 17) rfl (decide_eq_true cc2)
                have O : Own w0 [] [.cells b4 [.int .i64 (e13.1), .int .i64 (e13.2.1), .int .i64 (e13.2.2)] 39] w := O
                refine ⟨fun _ => (SC.cons (O.load 0 rfl rfl) (SC.cons (O.load 0 rfl rfl) (SC.cons (O.load 0 rfl rfl) SC.nil))), ?_⟩
                have hS : SC [(b4, 0, .int .i64 (e13.1)), (b4, 0 + 1, .int .i64 (e13.2.1)), (b4, 0 + 2, .int .i64 (e13.2.2))] w := (SC.cons (O.load 0 rfl rfl) (SC.cons (O.load 0 rfl rfl) (SC.cons (O.load 0 rfl rfl) SC.nil)))
                refine d_take 3 rfl (by kernel_rfl) F (p_not rfl) rfl rfl hS fun a F => d_take 4 rfl (by kernel_rfl) F (p_move rfl) rfl rfl hS fun a F => d_take 5 rfl (by kernel_rfl) F (p_faddr rfl Tryd.foff_39_1) rfl rfl hS fun a F => d_take 6 rfl (by kernel_rfl) F (p_load rfl Tryd.agg_3 (fun _ h => (SC.get h 1 rfl))) rfl rfl hS fun a F => d_one 7 (by kernel_rfl) (d_op rfl F rfl (o_call (vs := #[.int .i64 (e13.2.1)]) F Tryd.en_37 rfl rfl ((l11Value_ok e13.2.1 w).mono ?_)))
                rintro e w ⟨rfl, K⟩
                refine ⟨_, rfl, fun a F => ?_⟩
                have O : Own w0 [] [.cells b4 [.int .i64 (e13.1), .int .i64 (e13.2.1), .int .i64 (e13.2.2)] 39] w := O.call0 K
                clear K
                have F := F.setB (d := 22) rfl (decide_eq_true cc3)
                have O : Own w0 [] [.cells b4 [.int .i64 (e13.1), .int .i64 (e13.2.1), .int .i64 (e13.2.2)] 39] w := O
                refine ⟨fun _ => (SC.cons (O.load 0 rfl rfl) (SC.cons (O.load 0 rfl rfl) (SC.cons (O.load 0 rfl rfl) SC.nil))), ?_⟩
                have hS : SC [(b4, 0, .int .i64 (e13.1)), (b4, 0 + 1, .int .i64 (e13.2.1)), (b4, 0 + 2, .int .i64 (e13.2.2))] w := (SC.cons (O.load 0 rfl rfl) (SC.cons (O.load 0 rfl rfl) (SC.cons (O.load 0 rfl rfl) SC.nil)))
                refine d_take 8 rfl (by kernel_rfl) F (p_not rfl) rfl rfl hS fun a F => d_take 9 rfl (by kernel_rfl) F (p_pick (t := false) rfl rfl) rfl rfl hS fun a F => d_take 10 rfl (by kernel_rfl) F (p_move rfl) rfl rfl hS fun a F => d_take 11 rfl (by kernel_rfl) F (p_faddr rfl Tryd.foff_39_2) rfl rfl hS fun a F => d_take 12 rfl (by kernel_rfl) F (p_load rfl Tryd.agg_3 (fun _ h => (SC.get h 2 rfl))) rfl rfl hS fun a F => d_one 13 (by kernel_rfl) (d_op rfl F rfl (o_call (vs := #[.int .i64 (e13.2.2)]) F Tryd.en_37 rfl rfl ((l11Value_ok e13.2.2 w).mono ?_)))
                rintro e w ⟨rfl, K⟩
                refine ⟨_, rfl, fun a F => ?_⟩
                have O : Own w0 [] [.cells b4 [.int .i64 (e13.1), .int .i64 (e13.2.1), .int .i64 (e13.2.2)] 39] w := O.call0 K
                clear K
                have F := F.setB (d := 28) rfl (decide_eq_true cc4)
                have O : Own w0 [] [.cells b4 [.int .i64 (e13.1), .int .i64 (e13.2.1), .int .i64 (e13.2.2)] 39] w := O
                refine ⟨fun _ => (SC.cons (O.load 0 rfl rfl) (SC.cons (O.load 0 rfl rfl) (SC.cons (O.load 0 rfl rfl) SC.nil))), ?_⟩
                have hS : SC [(b4, 0, .int .i64 (e13.1)), (b4, 0 + 1, .int .i64 (e13.2.1)), (b4, 0 + 2, .int .i64 (e13.2.2))] w := (SC.cons (O.load 0 rfl rfl) (SC.cons (O.load 0 rfl rfl) (SC.cons (O.load 0 rfl rfl) SC.nil)))
                refine d_take 14 rfl (by kernel_rfl) F (p_not rfl) rfl rfl hS fun a F => d_take 15 rfl (by kernel_rfl) F (p_pick (t := false) rfl rfl) rfl rfl hS fun a F => d_take 16 rfl (by kernel_rfl) F (p_move rfl) rfl rfl hS fun a F => d_take 17 rfl (by kernel_rfl) F (p_faddr rfl Tryd.foff_39_1) rfl rfl hS fun a F => d_take 18 rfl (by kernel_rfl) F (p_load rfl Tryd.agg_3 (fun _ h => (SC.get h 1 rfl))) rfl rfl hS fun a F => d_take 19 rfl (by kernel_rfl) F (p_faddr rfl Tryd.foff_39_2) rfl rfl hS fun a F => d_take 20 rfl (by kernel_rfl) F (p_load rfl Tryd.agg_3 (fun _ h => (SC.get h 2 rfl))) rfl rfl hS fun a F => d_take 21 rfl (by kernel_rfl) F (p_eql rfl rfl) rfl rfl hS fun a F => ?_
                have F := F.setB (d := 36) rfl (decide_eq_false cc5)
                refine d_take 22 rfl (by kernel_rfl) F (p_pick (t := false) rfl rfl) rfl rfl hS fun a F => d_take 23 rfl (by kernel_rfl) F (p_move rfl) rfl rfl hS fun a F => d_take 24 rfl (by kernel_rfl) F (p_move rfl) rfl rfl hS fun a F => d_take 25 rfl (by kernel_rfl) F (p_gtr rfl rfl) rfl rfl hS fun a F => ?_
                have F := F.setB (d := 40) rfl (decide_eq_false cc6)
                refine d_take 26 rfl (by kernel_rfl) F (p_move rfl) rfl rfl hS fun a F => d_skip 27 rfl (by kernel_rfl) F rfl rfl hS fun a F => d_skip 28 rfl (by kernel_rfl) F rfl rfl hS fun a F => d_skip 29 rfl (by kernel_rfl) F rfl rfl hS fun a F => d_skip 30 rfl (by kernel_rfl) F rfl rfl hS fun a F => d_skip 31 rfl (by kernel_rfl) F rfl rfl hS fun a F => d_skip 32 rfl (by kernel_rfl) F rfl rfl hS fun a F => d_skip 33 rfl (by kernel_rfl) F rfl rfl hS fun a F => d_skip 34 rfl (by kernel_rfl) F rfl rfl hS fun a F => d_skip 35 rfl (by kernel_rfl) F rfl rfl hS fun a F => d_take 36 rfl (by kernel_rfl) F (p_pick (t := false) rfl rfl) rfl rfl hS fun a F => d_take 37 rfl (by kernel_rfl) F (p_pick (t := false) rfl rfl) rfl rfl hS fun a F => d_done (by kernel_rfl) (?_)
                refine hK8 _ _ (?_)
                try clear hK8 K8
                refine c_iff F rfl (wp_skip (hK6 _ _ (?_)))
                try clear hK6 K6
                refine c_region (sp F (p_move rfl) rfl rfl fun a F => sp F (p_add rfl rfl (by omega) (by omega)) rfl rfl fun a F => sp F (p_assign rfl) rfl rfl fun a F => c_nil (?_))
                try rw [← hp13] at F
                try rw [← hp13] at O
                have F : Has 56 [(0, .slice A n c), (3, .int .i64 (k + 1))] a := F.pick ⟨rfl, rfl, trivial⟩
                have O : Own w0 [] [] w := (O.take 0)
                exact ⟨((n : Int) - (k + 1)).toNat, by omega, (k + 1), rfl, F, O, by first | assumption | omega, by first | assumption | omega, by exact upsTo_step hi0c hi0a he13 (upB_iff.2 (by omega)) (fun hk0 => by first | exact ⟨_, he45, by omega⟩ | omega)⟩
          · refine c_draw Tryd.mixed (SC [(b4, 0, .int .i64 (e13.1)), (b4, 0 + 1, .int .i64 (e13.2.1)), (b4, 0 + 2, .int .i64 (e13.2.2))]) [] _ (fun a w h => h) ?_
            have O := O.drawn (w.drawn + 1)
            generalize { w with drawn := w.drawn + 1 } = w at O ⊢
            have hS : SC [(b4, 0, .int .i64 (e13.1)), (b4, 0 + 1, .int .i64 (e13.2.1)), (b4, 0 + 2, .int .i64 (e13.2.2))] w := (SC.cons (O.load 0 rfl rfl) (SC.cons (O.load 0 rfl rfl) (SC.cons (O.load 0 rfl rfl) SC.nil)))
            refine d_take 0 rfl (by kernel_rfl) F (p_faddr rfl Tryd.foff_39_0) rfl rfl hS fun a F => d_take 1 rfl (by kernel_rfl) F (p_load rfl Tryd.agg_3 (fun _ h => (SC.get h 0 rfl))) rfl rfl hS fun a F => d_one 2 (by kernel_rfl) (d_op rfl F rfl (o_call (vs := #[.int .i64 (e13.1), .int .i64 (0), .int .i64 (3)]) F Tryd.en_36 rfl rfl ((l6In_ok e13.1 0 3 w).mono ?_)))
            rintro e w ⟨rfl, K⟩
            refine ⟨_, rfl, fun a F => ?_⟩
            have O : Own w0 [] [.cells b4 [.int .i64 (e13.1), .int .i64 (e13.2.1), .int .i64 (e13.2.2)] 39] w := O.call0 K
            clear K
            have F := F.setB (d := 17) rfl (decide_eq_true cc2)
            have O : Own w0 [] [.cells b4 [.int .i64 (e13.1), .int .i64 (e13.2.1), .int .i64 (e13.2.2)] 39] w := O
            refine ⟨fun _ => (SC.cons (O.load 0 rfl rfl) (SC.cons (O.load 0 rfl rfl) (SC.cons (O.load 0 rfl rfl) SC.nil))), ?_⟩
            have hS : SC [(b4, 0, .int .i64 (e13.1)), (b4, 0 + 1, .int .i64 (e13.2.1)), (b4, 0 + 2, .int .i64 (e13.2.2))] w := (SC.cons (O.load 0 rfl rfl) (SC.cons (O.load 0 rfl rfl) (SC.cons (O.load 0 rfl rfl) SC.nil)))
            refine d_take 3 rfl (by kernel_rfl) F (p_not rfl) rfl rfl hS fun a F => d_take 4 rfl (by kernel_rfl) F (p_move rfl) rfl rfl hS fun a F => d_take 5 rfl (by kernel_rfl) F (p_faddr rfl Tryd.foff_39_1) rfl rfl hS fun a F => d_take 6 rfl (by kernel_rfl) F (p_load rfl Tryd.agg_3 (fun _ h => (SC.get h 1 rfl))) rfl rfl hS fun a F => d_one 7 (by kernel_rfl) (d_op rfl F rfl (o_call (vs := #[.int .i64 (e13.2.1)]) F Tryd.en_37 rfl rfl ((l11Value_ok e13.2.1 w).mono ?_)))
            rintro e w ⟨rfl, K⟩
            refine ⟨_, rfl, fun a F => ?_⟩
            have O : Own w0 [] [.cells b4 [.int .i64 (e13.1), .int .i64 (e13.2.1), .int .i64 (e13.2.2)] 39] w := O.call0 K
            clear K
            have F := F.setB (d := 22) rfl (decide_eq_true cc3)
            have O : Own w0 [] [.cells b4 [.int .i64 (e13.1), .int .i64 (e13.2.1), .int .i64 (e13.2.2)] 39] w := O
            refine ⟨fun _ => (SC.cons (O.load 0 rfl rfl) (SC.cons (O.load 0 rfl rfl) (SC.cons (O.load 0 rfl rfl) SC.nil))), ?_⟩
            have hS : SC [(b4, 0, .int .i64 (e13.1)), (b4, 0 + 1, .int .i64 (e13.2.1)), (b4, 0 + 2, .int .i64 (e13.2.2))] w := (SC.cons (O.load 0 rfl rfl) (SC.cons (O.load 0 rfl rfl) (SC.cons (O.load 0 rfl rfl) SC.nil)))
            refine d_take 8 rfl (by kernel_rfl) F (p_not rfl) rfl rfl hS fun a F => d_take 9 rfl (by kernel_rfl) F (p_pick (t := false) rfl rfl) rfl rfl hS fun a F => d_take 10 rfl (by kernel_rfl) F (p_move rfl) rfl rfl hS fun a F => d_take 11 rfl (by kernel_rfl) F (p_faddr rfl Tryd.foff_39_2) rfl rfl hS fun a F => d_take 12 rfl (by kernel_rfl) F (p_load rfl Tryd.agg_3 (fun _ h => (SC.get h 2 rfl))) rfl rfl hS fun a F => d_one 13 (by kernel_rfl) (d_op rfl F rfl (o_call (vs := #[.int .i64 (e13.2.2)]) F Tryd.en_37 rfl rfl ((l11Value_ok e13.2.2 w).mono ?_)))
            rintro e w ⟨rfl, K⟩
            refine ⟨_, rfl, fun a F => ?_⟩
            have O : Own w0 [] [.cells b4 [.int .i64 (e13.1), .int .i64 (e13.2.1), .int .i64 (e13.2.2)] 39] w := O.call0 K
            clear K
            have F := F.setB (d := 28) rfl (decide_eq_false cc4)
            have O : Own w0 [] [.cells b4 [.int .i64 (e13.1), .int .i64 (e13.2.1), .int .i64 (e13.2.2)] 39] w := O
            refine ⟨fun _ => (SC.cons (O.load 0 rfl rfl) (SC.cons (O.load 0 rfl rfl) (SC.cons (O.load 0 rfl rfl) SC.nil))), ?_⟩
            have hS : SC [(b4, 0, .int .i64 (e13.1)), (b4, 0 + 1, .int .i64 (e13.2.1)), (b4, 0 + 2, .int .i64 (e13.2.2))] w := (SC.cons (O.load 0 rfl rfl) (SC.cons (O.load 0 rfl rfl) (SC.cons (O.load 0 rfl rfl) SC.nil)))
            refine d_take 14 rfl (by kernel_rfl) F (p_not rfl) rfl rfl hS fun a F => d_take 15 rfl (by kernel_rfl) F (p_pick (t := false) rfl rfl) rfl rfl hS fun a F => d_take 16 rfl (by kernel_rfl) F (p_move rfl) rfl rfl hS fun a F => d_skip 17 rfl (by kernel_rfl) F rfl rfl hS fun a F => d_skip 18 rfl (by kernel_rfl) F rfl rfl hS fun a F => d_skip 19 rfl (by kernel_rfl) F rfl rfl hS fun a F => d_skip 20 rfl (by kernel_rfl) F rfl rfl hS fun a F => d_skip 21 rfl (by kernel_rfl) F rfl rfl hS fun a F => d_take 22 rfl (by kernel_rfl) F (p_pick (t := true) rfl rfl) rfl rfl hS fun a F => d_take 23 rfl (by kernel_rfl) F (p_move rfl) rfl rfl hS fun a F => d_skip 24 rfl (by kernel_rfl) F rfl rfl hS fun a F => d_skip 25 rfl (by kernel_rfl) F rfl rfl hS fun a F => d_skip 26 rfl (by kernel_rfl) F rfl rfl hS fun a F => ?_
            refine d_skip 27 rfl (by kernel_rfl) F rfl rfl hS fun a F => d_skip 28 rfl (by kernel_rfl) F rfl rfl hS fun a F => d_skip 29 rfl (by kernel_rfl) F rfl rfl hS fun a F => d_skip 30 rfl (by kernel_rfl) F rfl rfl hS fun a F => d_skip 31 rfl (by kernel_rfl) F rfl rfl hS fun a F => d_skip 32 rfl (by kernel_rfl) F rfl rfl hS fun a F => d_skip 33 rfl (by kernel_rfl) F rfl rfl hS fun a F => d_skip 34 rfl (by kernel_rfl) F rfl rfl hS fun a F => d_skip 35 rfl (by kernel_rfl) F rfl rfl hS fun a F => d_skip 36 rfl (by kernel_rfl) F rfl rfl hS fun a F => d_take 37 rfl (by kernel_rfl) F (p_pick (t := true) rfl rfl) rfl rfl hS fun a F => d_done (by kernel_rfl) (hK8 _ _ (?_))
            try clear hK8 K8
            refine c_ift F rfl (c_seq fun K9 hK9 => c_region (sp F (p_assign rfl) rfl rfl fun a F => c_nil (hK9 _ _ (?_))))
            try clear hK9 K9
            refine wp_ret (r_block (r_then (r_then (r_block (r_then (ret1 F rfl rfl (?_)))))))
            have O : Own w0 [] [] w := (O.take 0)
            exact ⟨congrArg Ending.returned (show Value.bool false = .bool (decide (0 < es.length ∧ upsB es = true)) from by exact vbf (fun h => absurd h.2 (by rw [show upsB es = false from by first | exact upsB_not he13 (upB_not (by omega)) | exact upsB_notO (by omega) he13 he45 (by omega)]; decide))), O⟩
        · refine c_draw Tryd.mixed (SC [(b4, 0, .int .i64 (e13.1)), (b4, 0 + 1, .int .i64 (e13.2.1))]) [] _ (fun a w h => h) ?_
          have O := O.drawn (w.drawn + 1)
          generalize { w with drawn := w.drawn + 1 } = w at O ⊢
          have hS : SC [(b4, 0, .int .i64 (e13.1)), (b4, 0 + 1, .int .i64 (e13.2.1))] w := (SC.cons (O.load 0 rfl rfl) (SC.cons (O.load 0 rfl rfl) SC.nil))
          refine d_take 0 rfl (by kernel_rfl) F (p_faddr rfl Tryd.foff_39_0) rfl rfl hS fun a F => d_take 1 rfl (by kernel_rfl) F (p_load rfl Tryd.agg_3 (fun _ h => (SC.get h 0 rfl))) rfl rfl hS fun a F => d_one 2 (by kernel_rfl) (d_op rfl F rfl (o_call (vs := #[.int .i64 (e13.1), .int .i64 (0), .int .i64 (3)]) F Tryd.en_36 rfl rfl ((l6In_ok e13.1 0 3 w).mono ?_)))
          rintro e w ⟨rfl, K⟩
          refine ⟨_, rfl, fun a F => ?_⟩
          have O : Own w0 [] [.cells b4 [.int .i64 (e13.1), .int .i64 (e13.2.1), .int .i64 (e13.2.2)] 39] w := O.call0 K
          clear K
          have F := F.setB (d := 17) rfl (decide_eq_true cc2)
          have O : Own w0 [] [.cells b4 [.int .i64 (e13.1), .int .i64 (e13.2.1), .int .i64 (e13.2.2)] 39] w := O
          refine ⟨fun _ => (SC.cons (O.load 0 rfl rfl) (SC.cons (O.load 0 rfl rfl) SC.nil)), ?_⟩
          have hS : SC [(b4, 0, .int .i64 (e13.1)), (b4, 0 + 1, .int .i64 (e13.2.1))] w := (SC.cons (O.load 0 rfl rfl) (SC.cons (O.load 0 rfl rfl) SC.nil))
          refine d_take 3 rfl (by kernel_rfl) F (p_not rfl) rfl rfl hS fun a F => d_take 4 rfl (by kernel_rfl) F (p_move rfl) rfl rfl hS fun a F => d_take 5 rfl (by kernel_rfl) F (p_faddr rfl Tryd.foff_39_1) rfl rfl hS fun a F => d_take 6 rfl (by kernel_rfl) F (p_load rfl Tryd.agg_3 (fun _ h => (SC.get h 1 rfl))) rfl rfl hS fun a F => d_one 7 (by kernel_rfl) (d_op rfl F rfl (o_call (vs := #[.int .i64 (e13.2.1)]) F Tryd.en_37 rfl rfl ((l11Value_ok e13.2.1 w).mono ?_)))
          rintro e w ⟨rfl, K⟩
          refine ⟨_, rfl, fun a F => ?_⟩
          have O : Own w0 [] [.cells b4 [.int .i64 (e13.1), .int .i64 (e13.2.1), .int .i64 (e13.2.2)] 39] w := O.call0 K
          clear K
          have F := F.setB (d := 22) rfl (decide_eq_false cc3)
          have O : Own w0 [] [.cells b4 [.int .i64 (e13.1), .int .i64 (e13.2.1), .int .i64 (e13.2.2)] 39] w := O
          refine ⟨fun _ => (SC.cons (O.load 0 rfl rfl) (SC.cons (O.load 0 rfl rfl) SC.nil)), ?_⟩
          have hS : SC [(b4, 0, .int .i64 (e13.1)), (b4, 0 + 1, .int .i64 (e13.2.1))] w := (SC.cons (O.load 0 rfl rfl) (SC.cons (O.load 0 rfl rfl) SC.nil))
          refine d_take 8 rfl (by kernel_rfl) F (p_not rfl) rfl rfl hS fun a F => d_take 9 rfl (by kernel_rfl) F (p_pick (t := false) rfl rfl) rfl rfl hS fun a F => d_take 10 rfl (by kernel_rfl) F (p_move rfl) rfl rfl hS fun a F => d_skip 11 rfl (by kernel_rfl) F rfl rfl hS fun a F => d_skip 12 rfl (by kernel_rfl) F rfl rfl hS fun a F => d_skip 13 rfl (by kernel_rfl) F rfl rfl hS fun a F => d_skip 14 rfl (by kernel_rfl) F rfl rfl hS fun a F => d_take 15 rfl (by kernel_rfl) F (p_pick (t := true) rfl rfl) rfl rfl hS fun a F => d_take 16 rfl (by kernel_rfl) F (p_move rfl) rfl rfl hS fun a F => d_skip 17 rfl (by kernel_rfl) F rfl rfl hS fun a F => d_skip 18 rfl (by kernel_rfl) F rfl rfl hS fun a F => d_skip 19 rfl (by kernel_rfl) F rfl rfl hS fun a F => d_skip 20 rfl (by kernel_rfl) F rfl rfl hS fun a F => ?_
          refine d_skip 21 rfl (by kernel_rfl) F rfl rfl hS fun a F => d_take 22 rfl (by kernel_rfl) F (p_pick (t := true) rfl rfl) rfl rfl hS fun a F => d_take 23 rfl (by kernel_rfl) F (p_move rfl) rfl rfl hS fun a F => d_skip 24 rfl (by kernel_rfl) F rfl rfl hS fun a F => d_skip 25 rfl (by kernel_rfl) F rfl rfl hS fun a F => d_skip 26 rfl (by kernel_rfl) F rfl rfl hS fun a F => d_skip 27 rfl (by kernel_rfl) F rfl rfl hS fun a F => d_skip 28 rfl (by kernel_rfl) F rfl rfl hS fun a F => d_skip 29 rfl (by kernel_rfl) F rfl rfl hS fun a F => d_skip 30 rfl (by kernel_rfl) F rfl rfl hS fun a F => d_skip 31 rfl (by kernel_rfl) F rfl rfl hS fun a F => d_skip 32 rfl (by kernel_rfl) F rfl rfl hS fun a F => d_skip 33 rfl (by kernel_rfl) F rfl rfl hS fun a F => ?_
          refine d_skip 34 rfl (by kernel_rfl) F rfl rfl hS fun a F => d_skip 35 rfl (by kernel_rfl) F rfl rfl hS fun a F => d_skip 36 rfl (by kernel_rfl) F rfl rfl hS fun a F => d_take 37 rfl (by kernel_rfl) F (p_pick (t := true) rfl rfl) rfl rfl hS fun a F => d_done (by kernel_rfl) (hK8 _ _ (?_))
          try clear hK8 K8
          refine c_ift F rfl (c_seq fun K9 hK9 => c_region (sp F (p_assign rfl) rfl rfl fun a F => c_nil (hK9 _ _ (?_))))
          try clear hK9 K9
          refine wp_ret (r_block (r_then (r_then (r_block (r_then (ret1 F rfl rfl (?_)))))))
          have O : Own w0 [] [] w := (O.take 0)
          exact ⟨congrArg Ending.returned (show Value.bool false = .bool (decide (0 < es.length ∧ upsB es = true)) from by exact vbf (fun h => absurd h.2 (by rw [show upsB es = false from by first | exact upsB_not he13 (upB_not (by omega)) | exact upsB_notO (by omega) he13 he45 (by omega)]; decide))), O⟩
      · refine c_draw Tryd.mixed (SC [(b4, 0, .int .i64 (e13.1))]) [] _ (fun a w h => h) ?_
        have O := O.drawn (w.drawn + 1)
        generalize { w with drawn := w.drawn + 1 } = w at O ⊢
        have hS : SC [(b4, 0, .int .i64 (e13.1))] w := (SC.cons (O.load 0 rfl rfl) SC.nil)
        refine d_take 0 rfl (by kernel_rfl) F (p_faddr rfl Tryd.foff_39_0) rfl rfl hS fun a F => d_take 1 rfl (by kernel_rfl) F (p_load rfl Tryd.agg_3 (fun _ h => (SC.get h 0 rfl))) rfl rfl hS fun a F => d_one 2 (by kernel_rfl) (d_op rfl F rfl (o_call (vs := #[.int .i64 (e13.1), .int .i64 (0), .int .i64 (3)]) F Tryd.en_36 rfl rfl ((l6In_ok e13.1 0 3 w).mono ?_)))
        rintro e w ⟨rfl, K⟩
        refine ⟨_, rfl, fun a F => ?_⟩
        have O : Own w0 [] [.cells b4 [.int .i64 (e13.1), .int .i64 (e13.2.1), .int .i64 (e13.2.2)] 39] w := O.call0 K
        clear K
        have F := F.setB (d := 17) rfl (decide_eq_false cc2)
        have O : Own w0 [] [.cells b4 [.int .i64 (e13.1), .int .i64 (e13.2.1), .int .i64 (e13.2.2)] 39] w := O
        refine ⟨fun _ => (SC.cons (O.load 0 rfl rfl) SC.nil), ?_⟩
        have hS : SC [(b4, 0, .int .i64 (e13.1))] w := (SC.cons (O.load 0 rfl rfl) SC.nil)
        refine d_take 3 rfl (by kernel_rfl) F (p_not rfl) rfl rfl hS fun a F => d_take 4 rfl (by kernel_rfl) F (p_move rfl) rfl rfl hS fun a F => d_skip 5 rfl (by kernel_rfl) F rfl rfl hS fun a F => d_skip 6 rfl (by kernel_rfl) F rfl rfl hS fun a F => d_skip 7 rfl (by kernel_rfl) F rfl rfl hS fun a F => d_skip 8 rfl (by kernel_rfl) F rfl rfl hS fun a F => d_take 9 rfl (by kernel_rfl) F (p_pick (t := true) rfl rfl) rfl rfl hS fun a F => d_take 10 rfl (by kernel_rfl) F (p_move rfl) rfl rfl hS fun a F => d_skip 11 rfl (by kernel_rfl) F rfl rfl hS fun a F => d_skip 12 rfl (by kernel_rfl) F rfl rfl hS fun a F => d_skip 13 rfl (by kernel_rfl) F rfl rfl hS fun a F => d_skip 14 rfl (by kernel_rfl) F rfl rfl hS fun a F => d_take 15 rfl (by kernel_rfl) F (p_pick (t := true) rfl rfl) rfl rfl hS fun a F => ?_
        refine d_take 16 rfl (by kernel_rfl) F (p_move rfl) rfl rfl hS fun a F => d_skip 17 rfl (by kernel_rfl) F rfl rfl hS fun a F => d_skip 18 rfl (by kernel_rfl) F rfl rfl hS fun a F => d_skip 19 rfl (by kernel_rfl) F rfl rfl hS fun a F => d_skip 20 rfl (by kernel_rfl) F rfl rfl hS fun a F => d_skip 21 rfl (by kernel_rfl) F rfl rfl hS fun a F => d_take 22 rfl (by kernel_rfl) F (p_pick (t := true) rfl rfl) rfl rfl hS fun a F => d_take 23 rfl (by kernel_rfl) F (p_move rfl) rfl rfl hS fun a F => d_skip 24 rfl (by kernel_rfl) F rfl rfl hS fun a F => d_skip 25 rfl (by kernel_rfl) F rfl rfl hS fun a F => d_skip 26 rfl (by kernel_rfl) F rfl rfl hS fun a F => d_skip 27 rfl (by kernel_rfl) F rfl rfl hS fun a F => d_skip 28 rfl (by kernel_rfl) F rfl rfl hS fun a F => ?_
        refine d_skip 29 rfl (by kernel_rfl) F rfl rfl hS fun a F => d_skip 30 rfl (by kernel_rfl) F rfl rfl hS fun a F => d_skip 31 rfl (by kernel_rfl) F rfl rfl hS fun a F => d_skip 32 rfl (by kernel_rfl) F rfl rfl hS fun a F => d_skip 33 rfl (by kernel_rfl) F rfl rfl hS fun a F => d_skip 34 rfl (by kernel_rfl) F rfl rfl hS fun a F => d_skip 35 rfl (by kernel_rfl) F rfl rfl hS fun a F => d_skip 36 rfl (by kernel_rfl) F rfl rfl hS fun a F => d_take 37 rfl (by kernel_rfl) F (p_pick (t := true) rfl rfl) rfl rfl hS fun a F => d_done (by kernel_rfl) (hK8 _ _ (?_))
        try clear hK8 K8
        refine c_ift F rfl (c_seq fun K9 hK9 => c_region (sp F (p_assign rfl) rfl rfl fun a F => c_nil (hK9 _ _ (?_))))
        try clear hK9 K9
        refine wp_ret (r_block (r_then (r_then (r_block (r_then (ret1 F rfl rfl (?_)))))))
        have O : Own w0 [] [] w := (O.take 0)
        exact ⟨congrArg Ending.returned (show Value.bool false = .bool (decide (0 < es.length ∧ upsB es = true)) from by exact vbf (fun h => absurd h.2 (by rw [show upsB es = false from by first | exact upsB_not he13 (upB_not (by omega)) | exact upsB_notO (by omega) he13 he45 (by omega)]; decide))), O⟩
    · have F := F.setB (d := 8) rfl (decide_eq_false c8)
      refine c_iff F rfl (wp_exit (e_then (e_then (e_here (hK2 _ _ (?_))))))
      try clear hK2 K2
      refine c_seq fun K6 hK6 => c_region (sp F (p_move rfl) rfl rfl fun a F => sp F (p_len_l rfl Tryd.underlying28) rfl rfl fun a F => sp F (p_gtr rfl rfl) rfl rfl fun a F => sp F (p_assign rfl) rfl rfl fun a F => c_nil (hK6 _ _ (?_)))
      try clear hK6 K6
      refine wp_ret (ret1 F rfl rfl (?_))
      exact ⟨congrArg Ending.returned (show Value.bool (decide (0 < (n : Int))) = .bool (decide (0 < es.length ∧ upsB es = true)) from by exact vbi ⟨fun h => ⟨by omega, upsB_of hi0c (by omega)⟩, fun h => by omega⟩), O⟩

set_option maxRecDepth 100000 in
set_option maxHeartbeats 1600000 in
/-- impl.UpdatesValid -/
theorem iUpdatesValid_ok (A : Option Addr) (n : Nat) (c : Nat) (es : List (Int × Int × Int)) (w0 : World) (hA : Arr w0 encUp 3 A es) (hn : (n : Int) = es.length) (hb : (n : Int) ≤ 1048600) :
    Calls Tryd.prog 25 #[.slice A n c] w0 fun e w => e = .returned (.bool (decide (0 < es.length ∧ upsB es = true))) ∧ Own w0 [] [] w := by
  have O := Own.start w0
  refine enterO (n := 54) Tryd.func25 rfl rfl rfl O fun a w F O => ?_
  refine c_seq fun K1 hK1 => c_region (sp F (p_assign rfl) rfl rfl fun a F => c_nil (hK1 _ _ (?_)))
  try clear hK1 K1
  refine c_seq fun K2 hK2 => c_seq fun K3 hK3 => c_region (sp F (p_move rfl) rfl rfl fun a F => sp F (p_len_l rfl Tryd.underlying28) rfl rfl fun a F => sp F (p_move rfl) rfl rfl fun a F => c_nil (hK3 _ _ (?_)))
  try clear hK3 K3
  refine wp_block (?_)
  refine c_loop (fun mm a w => ∃ (k : Int), mm = ((n : Int) - k).toNat ∧ Has 54 [(0, .slice A n c), (5, .slice A n c), (6, .int .i64 ((n : Int))), (7, .int .i64 (k))] a ∧ Own w0 [] [] w ∧ (0 ≤ k) ∧ (k ≤ n) ∧ (UpsTo k es)) ?_ ?_
  · have F : Has 54 [(0, .slice A n c), (5, .slice A n c), (6, .int .i64 ((n : Int))), (7, .int .i64 (0))] a := F.pick ⟨rfl, rfl, rfl, rfl, trivial⟩
    exact ⟨((n : Int) - 0).toNat, 0, rfl, F, O, by first | assumption | omega, by first | assumption | omega, by exact upsTo_zero⟩
  · rintro mm a w ⟨k, rfl, F, O, hi0a, hi0b, hi0c⟩
    refine c_seq fun K4 hK4 => c_region (sp F (p_lss rfl rfl) rfl rfl fun a F => c_nil (hK4 _ _ (?_)))
    try clear hK4 K4
    refine c_seq fun K5 hK5 => ?_
    by_cases c8 : k < (n : Int)
    · have F := F.setB (d := 8) rfl (decide_eq_true c8)
      refine c_ift F rfl (wp_skip (hK5 _ _ (?_)))
      try clear hK5 K5
      refine c_seq fun K6 hK6 => wp_block (c_seq fun K7 hK7 => c_region (sp F (p_move rfl) rfl rfl fun a F => ?_))
      obtain ⟨b10, o10, hp10, hb10, hc10⟩ := Arr.out hA (by omega)
      have hA10 := hA; rw [hp10] at hA10 F
      obtain ⟨e10, he10⟩ := get_some (l := es) (i := k) (by omega) (by first | omega | (simp; omega))
      refine sp F (p_iaddr rfl rfl Tryd.underlying28 Tryd.sz_39 (by omega) (by omega)) rfl rfl fun a F => sp F (p_loadC (cs := [.int .i64 (e10.1), .int .i64 (e10.2.1), .int .i64 (e10.2.2)]) rfl Tryd.agg_39 Tryd.sz_39 (fun _ h => (CA.cons (ld1 (((O.old hb10 (by simp)).trans (hc10 _ _ he10 0 _ rfl))) h) (CA.cons (ld1 (((O.old hb10 (by simp)).trans (hc10 _ _ he10 1 _ rfl))) h) (CA.cons (ld1 (((O.old hb10 (by simp)).trans (hc10 _ _ he10 2 _ rfl))) h) CA.nil))))) rfl rfl fun a F => so F rfl (o_alloc F O Tryd.zero_39 rfl fun b4 w O a F => ?_)
      have O : Own w0 [] [.cells b4 [.int .i64 (0), .int .i64 (0), .int .i64 (0)] 39] w := O
      refine sp F (p_assign rfl) rfl rfl fun a F => so F rfl (o_storeA (vs := [.int .i64 (e10.1), .int .i64 (e10.2.1), .int .i64 (e10.2.2)]) F O rfl rfl Tryd.sz_39 (by simp [Value.oneCell']) 0 rfl rfl fun w O => ?_)
      have O : Own w0 [] [.cells b4 [.int .i64 (e10.1), .int .i64 (e10.2.1), .int .i64 (e10.2.2)] 39] w := O
      refine c_nil (hK7 _ _ (?_))
      try clear hK7 K7
      refine c_seq fun K8 hK8 => ?_
      by_cases cc7 : 0 ≤ e10.1 ∧ e10.1 ≤ 3
      · by_cases cc8 : -1 ≤ e10.2.1 ∧ e10.2.1 ≤ 990
        · by_cases cc9 : -1 ≤ e10.2.2 ∧ e10.2.2 ≤ 990
          · by_cases cc10 : e10.2.1 = e10.2.2
            · refine c_draw Tryd.mixed (SC [(b4, 0, .int .i64 (e10.1)), (b4, 0 + 1, .int .i64 (e10.2.1)), (b4, 0 + 2, .int .i64 (e10.2.2))]) [] _ (fun a w h => h) ?_
              have O := O.drawn (w.drawn + 1)
              generalize { w with drawn := w.drawn + 1 } = w at O ⊢
              have hS : SC [(b4, 0, .int .i64 (e10.1)), (b4, 0 + 1, .int .i64 (e10.2.1)), (b4, 0 + 2, .int .i64 (e10.2.2))] w := (SC.cons (O.load 0 rfl rfl) (SC.cons (O.load 0 rfl rfl) (SC.cons (O.load 0 rfl rfl) SC.nil)))
              refine d_take 0 rfl (by kernel_rfl) F (p_faddr rfl Tryd.foff_39_0) rfl rfl hS fun a F => d_take 1 rfl (by kernel_rfl) F (p_load rfl Tryd.agg_3 (fun _ h => (SC.get h 0 rfl))) rfl rfl hS fun a F => d_one 2 (by kernel_rfl) (d_op rfl F rfl (o_call (vs := #[.int .i64 (e10.1), .int .i64 (0), .int .i64 (3)]) F Tryd.en_38 rfl rfl ((inRange_ok e10.1 0 3 w).mono ?_)))
              rintro e w ⟨rfl, K⟩
              refine ⟨_, rfl, fun a F => ?_⟩
              have O : Own w0 [] [.cells b4 [.int .i64 (e10.1), .int .i64 (e10.2.1), .int .i64 (e10.2.2)] 39] w := O.call0 K
              clear K
              have F := F.setB (d := 14) rfl (decide_eq_true cc7)
              have O : Own w0 [] [.cells b4 [.int .i64 (e10.1), .int .i64 (e10.2.1), .int .i64 (e10.2.2)] 39] w := O
              refine ⟨fun _ => (SC.cons (O.load 0 rfl rfl) (SC.cons (O.load 0 rfl rfl) (SC.cons (O.load 0 rfl rfl) SC.nil))), ?_⟩
              have hS : SC [(b4, 0, .int .i64 (e10.1)), (b4, 0 + 1, .int .i64 (e10.2.1)), (b4, 0 + 2, .int .i64 (e10.2.2))] w := (SC.cons (O.load 0 rfl rfl) (SC.cons (O.load 0 rfl rfl) (SC.cons (O.load 0 rfl rfl) SC.nil)))
              refine d_take 3 rfl (by kernel_rfl) F (p_not rfl) rfl rfl hS fun a F => d_take 4 rfl (by kernel_rfl) F (p_move rfl) rfl rfl hS fun a F => d_take 5 rfl (by kernel_rfl) F (p_faddr rfl Tryd.foff_39_1) rfl rfl hS fun a F => d_take 6 rfl (by kernel_rfl) F (p_load rfl Tryd.agg_3 (fun _ h => (SC.get h 1 rfl))) rfl rfl hS fun a F => d_one 7 (by kernel_rfl) (d_op rfl F rfl (o_call (vs := #[.int .i64 (e10.2.1)]) F Tryd.en_39 rfl rfl ((isRefId_ok e10.2.1 w).mono ?_)))
              rintro e w ⟨rfl, K⟩
              refine ⟨_, rfl, fun a F => ?_⟩
              have O : Own w0 [] [.cells b4 [.int .i64 (e10.1), .int .i64 (e10.2.1), .int .i64 (e10.2.2)] 39] w := O.call0 K
              clear K
              have F := F.setB (d := 19) rfl (decide_eq_true cc8)
              have O : Own w0 [] [.cells b4 [.int .i64 (e10.1), .int .i64 (e10.2.1), .int .i64 (e10.2.2)] 39] w := O
              refine ⟨fun _ => (SC.cons (O.load 0 rfl rfl) (SC.cons (O.load 0 rfl rfl) (SC.cons (O.load 0 rfl rfl) SC.nil))), ?_⟩
              have hS : SC [(b4, 0, .int .i64 (e10.1)), (b4, 0 + 1, .int .i64 (e10.2.1)), (b4, 0 + 2, .int .i64 (e10.2.2))] w := (SC.cons (O.load 0 rfl rfl) (SC.cons (O.load 0 rfl rfl) (SC.cons (O.load 0 rfl rfl) SC.nil)))
              refine d_take 8 rfl (by kernel_rfl) F (p_not rfl) rfl rfl hS fun a F => d_take 9 rfl (by kernel_rfl) F (p_pick (t := false) rfl rfl) rfl rfl hS fun a F => d_take 10 rfl (by kernel_rfl) F (p_move rfl) rfl rfl hS fun a F => d_take 11 rfl (by kernel_rfl) F (p_faddr rfl Tryd.foff_39_2) rfl rfl hS fun a F => d_take 12 rfl (by kernel_rfl) F (p_load rfl Tryd.agg_3 (fun _ h => (SC.get h 2 rfl))) rfl rfl hS fun a F => d_one 13 (by kernel_rfl) (d_op rfl F rfl (o_call (vs := #[.int .i64 (e10.2.2)]) F Tryd.en_39 rfl rfl ((isRefId_ok e10.2.2 w).mono ?_)))
              rintro e w ⟨rfl, K⟩
              refine ⟨_, rfl, fun a F => ?_⟩
              have O : Own w0 [] [.cells b4 [.int .i64 (e10.1), .int .i64 (e10.2.1), .int .i64 (e10.2.2)] 39] w := O.call0 K
              clear K
              have F := F.setB (d := 25) rfl (decide_eq_true cc9)
              have O : Own w0 [] [.cells b4 [.int .i64 (e10.1), .int .i64 (e10.2.1), .int .i64 (e10.2.2)] 39] w := O
              refine ⟨fun _ => (SC.cons (O.load 0 rfl rfl) (SC.cons (O.load 0 rfl rfl) (SC.cons (O.load 0 rfl rfl) SC.nil))), ?_⟩
              have hS : SC [(b4, 0, .int .i64 (e10.1)), (b4, 0 + 1, .int .i64 (e10.2.1)), (b4, 0 + 2, .int .i64 (e10.2.2))] w := (SC.cons (O.load 0 rfl rfl) (SC.cons (O.load 0 rfl rfl) (SC.cons (O.load 0 rfl rfl) SC.nil)))
              refine d_take 14 rfl (by kernel_rfl) F (p_not rfl) rfl rfl hS fun a F => d_take 15 rfl (by kernel_rfl) F (p_pick (t := false) rfl rfl) rfl rfl hS fun a F => d_take 16 rfl (by kernel_rfl) F (p_move rfl) rfl rfl hS fun a F => d_take 17 rfl (by kernel_rfl) F (p_faddr rfl Tryd.foff_39_1) rfl rfl hS fun a F => d_take 18 rfl (by kernel_rfl) F (p_load rfl Tryd.agg_3 (fun _ h => (SC.get h 1 rfl))) rfl rfl hS fun a F => d_take 19 rfl (by kernel_rfl) F (p_faddr rfl Tryd.foff_39_2) rfl rfl hS fun a F => d_take 20 rfl (by kernel_rfl) F (p_load rfl Tryd.agg_3 (fun _ h => (SC.get h 2 rfl))) rfl rfl hS fun a F => d_take 21 rfl (by kernel_rfl) F (p_eql rfl rfl) rfl rfl hS fun a F => ?_
              have F := F.setB (d := 33) rfl (decide_eq_true cc10)
              refine d_take 22 rfl (by kernel_rfl) F (p_pick (t := false) rfl rfl) rfl rfl hS fun a F => d_take 23 rfl (by kernel_rfl) F (p_move rfl) rfl rfl hS fun a F => d_skip 24 rfl (by kernel_rfl) F rfl rfl hS fun a F => d_skip 25 rfl (by kernel_rfl) F rfl rfl hS fun a F => d_skip 26 rfl (by kernel_rfl) F rfl rfl hS fun a F => d_skip 27 rfl (by kernel_rfl) F rfl rfl hS fun a F => d_skip 28 rfl (by kernel_rfl) F rfl rfl hS fun a F => d_skip 29 rfl (by kernel_rfl) F rfl rfl hS fun a F => d_skip 30 rfl (by kernel_rfl) F rfl rfl hS fun a F => d_skip 31 rfl (by kernel_rfl) F rfl rfl hS fun a F => d_skip 32 rfl (by kernel_rfl) F rfl rfl hS fun a F => d_skip 33 rfl (by kernel_rfl) F rfl rfl hS fun a F => d_skip 34 rfl (by kernel_rfl) F rfl rfl hS fun a F => ?_
              refine d_skip 35 rfl (by kernel_rfl) F rfl rfl hS fun a F => d_skip 36 rfl (by kernel_rfl) F rfl rfl hS fun a F => d_take 37 rfl (by kernel_rfl) F (p_pick (t := true) rfl rfl) rfl rfl hS fun a F => d_done (by kernel_rfl) (hK8 _ _ (?_))
              try clear hK8 K8
              refine c_ift F rfl (c_seq fun K9 hK9 => c_region (sp F (p_assign rfl) rfl rfl fun a F => c_nil (hK9 _ _ (?_))))
              try clear hK9 K9
              refine wp_ret (r_block (r_then (r_then (r_block (r_then (ret1 F rfl rfl (?_)))))))
              have O : Own w0 [] [] w := (O.take 0)
              exact ⟨congrArg Ending.returned (show Value.bool false = .bool (decide (0 < es.length ∧ upsB es = true)) from by exact vbf (fun h => absurd h.2 (by rw [show upsB es = false from by first | exact upsB_not he10 (upB_not (by omega)) | exact upsB_notO (by omega) he10 he42 (by omega)]; decide))), O⟩
            · by_cases cc11 : 0 < k
              · obtain ⟨e42, he42⟩ := get_some (l := es) (i := k - 1) (by omega) (by first | omega | (simp; omega))
                refine c_draw Tryd.mixed (SC [(b4, 0, .int .i64 (e10.1)), (b4, 0 + 1, .int .i64 (e10.2.1)), (b4, 0 + 2, .int .i64 (e10.2.2)), (b10, o10 + (k - 1 : Int).toNat * 3, .int .i64 (e42.1))]) [] _ (fun a w h => h) ?_
                have O := O.drawn (w.drawn + 1)
                generalize { w with drawn := w.drawn + 1 } = w at O ⊢
                have hS : SC [(b4, 0, .int .i64 (e10.1)), (b4, 0 + 1, .int .i64 (e10.2.1)), (b4, 0 + 2, .int .i64 (e10.2.2)), (b10, o10 + (k - 1 : Int).toNat * 3, .int .i64 (e42.1))] w := (SC.cons (O.load 0 rfl rfl) (SC.cons (O.load 0 rfl rfl) (SC.cons (O.load 0 rfl rfl) (SC.cons (((O.old hb10 (by simp)).trans (hc10 _ _ he42 0 _ rfl))) SC.nil))))
                refine d_take 0 rfl (by kernel_rfl) F (p_faddr rfl Tryd.foff_39_0) rfl rfl hS fun a F => d_take 1 rfl (by kernel_rfl) F (p_load rfl Tryd.agg_3 (fun _ h => (SC.get h 0 rfl))) rfl rfl hS fun a F => d_one 2 (by kernel_rfl) (d_op rfl F rfl (o_call (vs := #[.int .i64 (e10.1), .int .i64 (0), .int .i64 (3)]) F Tryd.en_38 rfl rfl ((inRange_ok e10.1 0 3 w).mono ?_)))
                rintro e w ⟨rfl, K⟩
                refine ⟨_, rfl, fun a F => ?_⟩
                have O : Own w0 [] [.cells b4 [.int .i64 (e10.1), .int .i64 (e10.2.1), .int .i64 (e10.2.2)] 39] w := O.call0 K
                clear K
                have F := F.setB (d := 14) rfl (decide_eq_true cc7)
                have O : Own w0 [] [.cells b4 [.int .i64 (e10.1), .int .i64 (e10.2.1), .int .i64 (e10.2.2)] 39] w := O
                refine ⟨fun _ => (SC.cons (O.load 0 rfl rfl) (SC.cons (O.load 0 rfl rfl) (SC.cons (O.load 0 rfl rfl) (SC.cons (((O.old hb10 (by simp)).trans (hc10 _ _ he42 0 _ rfl))) SC.nil)))), ?_⟩
                have hS : SC [(b4, 0, .int .i64 (e10.1)), (b4, 0 + 1, .int .i64 (e10.2.1)), (b4, 0 + 2, .int .i64 (e10.2.2)), (b10, o10 + (k - 1 : Int).toNat * 3, .int .i64 (e42.1))] w := (SC.cons (O.load 0 rfl rfl) (SC.cons (O.load 0 rfl rfl) (SC.cons (O.load 0 rfl rfl) (SC.cons (((O.old hb10 (by simp)).trans (hc10 _ _ he42 0 _ rfl))) SC.nil))))
                refine d_take 3 rfl (by kernel_rfl) F (p_not rfl) rfl rfl hS fun a F => d_take 4 rfl (by kernel_rfl) F (p_move rfl) rfl rfl hS fun a F => d_take 5 rfl (by kernel_rfl) F (p_faddr rfl Tryd.foff_39_1) rfl rfl hS fun a F => d_take 6 rfl (by kernel_rfl) F (p_load rfl Tryd.agg_3 (fun _ h => (SC.get h 1 rfl))) rfl rfl hS fun a F => d_one 7 (by kernel_rfl) (d_op rfl F rfl (o_call (vs := #[.int .i64 (e10.2.1)]) F Tryd.en_39 rfl rfl ((isRefId_ok e10.2.1 w).mono ?_)))
                rintro e w ⟨rfl, K⟩
                refine ⟨_, rfl, fun a F => ?_⟩
                have O : Own w0 [] [.cells b4 [.int .i64 (e10.1), .int .i64 (e10.2.1), .int .i64 (e10.2.2)] 39] w := O.call0 K
                clear K
                have F := F.setB (d := 19) rfl (decide_eq_true cc8)
                have O : Own w0 [] [.cells b4 [.int .i64 (e10.1), .int .i64 (e10.2.1), .int .i64 (e10.2.2)] 39] w := O
                refine ⟨fun _ => (SC.cons (O.load 0 rfl rfl) (SC.cons (O.load 0 rfl rfl) (SC.cons (O.load 0 rfl rfl) (SC.cons (((O.old hb10 (by simp)).trans (hc10 _ _ he42 0 _ rfl))) SC.nil)))), ?_⟩
                have hS : SC [(b4, 0, .int .i64 (e10.1)), (b4, 0 + 1, .int .i64 (e10.2.1)), (b4, 0 + 2, .int .i64 (e10.2.2)), (b10, o10 + (k - 1 : Int).toNat * 3, .int .i64 (e42.1))] w := (SC.cons (O.load 0 rfl rfl) (SC.cons (O.load 0 rfl rfl) (SC.cons (O.load 0 rfl rfl) (SC.cons (((O.old hb10 (by simp)).trans (hc10 _ _ he42 0 _ rfl))) SC.nil))))
                refine d_take 8 rfl (by kernel_rfl) F (p_not rfl) rfl rfl hS fun a F => d_take 9 rfl (by kernel_rfl) F (p_pick (t := false) rfl rfl) rfl rfl hS fun a F => d_take 10 rfl (by kernel_rfl) F (p_move rfl) rfl rfl hS fun a F => d_take 11 rfl (by kernel_rfl) F (p_faddr rfl Tryd.foff_39_2) rfl rfl hS fun a F => d_take 12 rfl (by kernel_rfl) F (p_load rfl Tryd.agg_3 (fun _ h => (SC.get h 2 rfl))) rfl rfl hS fun a F => d_one 13 (by kernel_rfl) (d_op rfl F rfl (o_call (vs := #[.int .i64 (e10.2.2)]) F Tryd.en_39 rfl rfl ((isRefId_ok e10.2.2 w).mono ?_)))
                rintro e w ⟨rfl, K⟩
                refine ⟨_, rfl, fun a F => ?_⟩
                have O : Own w0 [] [.cells b4 [.int .i64 (e10.1), .int .i64 (e10.2.1), .int .i64 (e10.2.2)] 39] w := O.call0 K
                clear K
                have F := F.setB (d := 25) rfl (decide_eq_true cc9)
                have O : Own w0 [] [.cells b4 [.int .i64 (e10.1), .int .i64 (e10.2.1), .int .i64 (e10.2.2)] 39] w := O
                refine ⟨fun _ => (SC.cons (O.load 0 rfl rfl) (SC.cons (O.load 0 rfl rfl) (SC.cons (O.load 0 rfl rfl) (SC.cons (((O.old hb10 (by simp)).trans (hc10 _ _ he42 0 _ rfl))) SC.nil)))), ?_⟩
                have hS : SC [(b4, 0, .int .i64 (e10.1)), (b4, 0 + 1, .int .i64 (e10.2.1)), (b4, 0 + 2, .int .i64 (e10.2.2)), (b10, o10 + (k - 1 : Int).toNat * 3, .int .i64 (e42.1))] w := (SC.cons (O.load 0 rfl rfl) (SC.cons (O.load 0 rfl rfl) (SC.cons (O.load 0 rfl rfl) (SC.cons (((O.old hb10 (by simp)).trans (hc10 _ _ he42 0 _ rfl))) SC.nil))))
                refine d_take 14 rfl (by kernel_rfl) F (p_not rfl) rfl rfl hS fun a F => d_take 15 rfl (by kernel_rfl) F (p_pick (t := false) rfl rfl) rfl rfl hS fun a F => d_take 16 rfl (by kernel_rfl) F (p_move rfl) rfl rfl hS fun a F => d_take 17 rfl (by kernel_rfl) F (p_faddr rfl Tryd.foff_39_1) rfl rfl hS fun a F => d_take 18 rfl (by kernel_rfl) F (p_load rfl Tryd.agg_3 (fun _ h => (SC.get h 1 rfl))) rfl rfl hS fun a F => d_take 19 rfl (by kernel_rfl) F (p_faddr rfl Tryd.foff_39_2) rfl rfl hS fun a F => d_take 20 rfl (by kernel_rfl) F (p_load rfl Tryd.agg_3 (fun _ h => (SC.get h 2 rfl))) rfl rfl hS fun a F => d_take 21 rfl (by kernel_rfl) F (p_eql rfl rfl) rfl rfl hS fun a F => ?_
                have F := F.setB (d := 33) rfl (decide_eq_false cc10)
                refine d_take 22 rfl (by kernel_rfl) F (p_pick (t := false) rfl rfl) rfl rfl hS fun a F => d_take 23 rfl (by kernel_rfl) F (p_move rfl) rfl rfl hS fun a F => d_take 24 rfl (by kernel_rfl) F (p_move rfl) rfl rfl hS fun a F => d_take 25 rfl (by kernel_rfl) F (p_gtr rfl rfl) rfl rfl hS fun a F => ?_
                have F := F.setB (d := 37) rfl (decide_eq_true cc11)
                refine d_take 26 rfl (by kernel_rfl) F (p_move rfl) rfl rfl hS fun a F => d_take 27 rfl (by kernel_rfl) F (p_move rfl) rfl rfl hS fun a F => d_take 28 rfl (by kernel_rfl) F (p_move rfl) rfl rfl hS fun a F => d_take 29 rfl (by kernel_rfl) F (p_sub rfl rfl (by omega) (by omega)) rfl rfl hS fun a F => d_take 30 rfl (by kernel_rfl) F (p_iaddr rfl rfl Tryd.underlying28 Tryd.sz_39 (by omega) (by omega)) rfl rfl hS fun a F => d_take 31 rfl (by kernel_rfl) F (p_faddr rfl Tryd.foff_39_0) rfl rfl hS fun a F => d_take 32 rfl (by kernel_rfl) F (p_load rfl Tryd.agg_3 (fun _ h => (SC.get h 3 rfl))) rfl rfl hS fun a F => d_take 33 rfl (by kernel_rfl) F (p_faddr rfl Tryd.foff_39_0) rfl rfl hS fun a F => d_take 34 rfl (by kernel_rfl) F (p_load rfl Tryd.agg_3 (fun _ h => (SC.get h 0 rfl))) rfl rfl hS fun a F => d_take 35 rfl (by kernel_rfl) F (p_geq rfl rfl) rfl rfl hS fun a F => d_take 36 rfl (by kernel_rfl) F (p_pick (t := true) rfl rfl) rfl rfl hS fun a F => d_take 37 rfl (by kernel_rfl) F (p_pick (t := false) rfl rfl) rfl rfl hS fun a F => d_done (by kernel_rfl) (?_)
                refine hK8 _ _ (?_)
                try clear hK8 K8
                by_cases c49 : e10.1 ≤ e42.1
                · have F := F.setB (d := 47) rfl (decide_eq_true c49)
                  have F := F.setB (d := 48) rfl (decide_eq_true c49)
                  have F := F.setB (d := 49) rfl (decide_eq_true c49)
                  refine c_ift F rfl (c_seq fun K9 hK9 => c_region (sp F (p_assign rfl) rfl rfl fun a F => c_nil (hK9 _ _ (?_))))
                  try clear hK9 K9
                  refine wp_ret (r_block (r_then (r_then (r_block (r_then (ret1 F rfl rfl (?_)))))))
                  have O : Own w0 [] [] w := (O.take 0)
                  exact ⟨congrArg Ending.returned (show Value.bool false = .bool (decide (0 < es.length ∧ upsB es = true)) from by exact vbf (fun h => absurd h.2 (by rw [show upsB es = false from by first | exact upsB_not he10 (upB_not (by omega)) | exact upsB_notO (by omega) he10 he42 (by omega)]; decide))), O⟩
                · have F := F.setB (d := 47) rfl (decide_eq_false c49)
                  have F := F.setB (d := 48) rfl (decide_eq_false c49)
                  have F := F.setB (d := 49) rfl (decide_eq_false c49)
                  refine c_iff F rfl (wp_skip (hK6 _ _ (?_)))
                  try clear hK6 K6
                  refine c_region (sp F (p_add rfl rfl (by omega) (by omega)) rfl rfl fun a F => sp F (p_move rfl) rfl rfl fun a F => c_nil (?_))
                  try rw [← hp10] at F
                  try rw [← hp10] at O
                  have F : Has 54 [(0, .slice A n c), (5, .slice A n c), (6, .int .i64 ((n : Int))), (7, .int .i64 (k + 1))] a := F.pick ⟨rfl, rfl, rfl, rfl, trivial⟩
                  have O : Own w0 [] [] w := (O.take 0)
                  exact ⟨((n : Int) - (k + 1)).toNat, by omega, (k + 1), rfl, F, O, by first | assumption | omega, by first | assumption | omega, by exact upsTo_step hi0c hi0a he10 (upB_iff.2 (by omega)) (fun hk0 => by first | exact ⟨_, he42, by omega⟩ | omega)⟩
              · refine c_draw Tryd.mixed (SC [(b4, 0, .int .i64 (e10.1)), (b4, 0 + 1, .int .i64 (e10.2.1)), (b4, 0 + 2, .int .i64 (e10.2.2))]) [] _ (fun a w h => h) ?_
                have O := O.drawn (w.drawn + 1)
                generalize { w with drawn := w.drawn + 1 } = w at O ⊢
                have hS : SC [(b4, 0, .int .i64 (e10.1)), (b4, 0 + 1, .int .i64 (e10.2.1)), (b4, 0 + 2, .int .i64 (e10.2.2))] w := (SC.cons (O.load 0 rfl rfl) (SC.cons (O.load 0 rfl rfl) (SC.cons (O.load 0 rfl rfl) SC.nil)))
                refine d_take 0 rfl (by kernel_rfl) F (p_faddr rfl Tryd.foff_39_0) rfl rfl hS fun a F => d_take 1 rfl (by kernel_rfl) F (p_load rfl Tryd.agg_3 (fun _ h => (SC.get h 0 rfl))) rfl rfl hS fun a F => d_one 2 (by kernel_rfl) (d_op rfl F rfl (o_call (vs := #[.int .i64 (e10.1), .int .i64 (0), .int .i64 (3)]) F Tryd.en_38 rfl rfl ((inRange_ok e10.1 0 3 w).mono ?_)))
                rintro e w ⟨rfl, K⟩
                refine ⟨_, rfl, fun a F => ?_⟩
                have O : Own w0 [] [.cells b4 [.int .i64 (e10.1), .int .i64 (e10.2.1), .int .i64 (e10.2.2)] 39] w := O.call0 K
                clear K
                have F := F.setB (d := 14) rfl (decide_eq_true cc7)
                have O : Own w0 [] [.cells b4 [.int .i64 (e10.1), .int .i64 (e10.2.1), .int .i64 (e10.2.2)] 39] w := O
                refine ⟨fun _ => (SC.cons (O.load 0 rfl rfl) (SC.cons (O.load 0 rfl rfl) (SC.cons (O.load 0 rfl rfl) SC.nil))), ?_⟩
                have hS : SC [(b4, 0, .int .i64 (e10.1)), (b4, 0 + 1, .int .i64 (e10.2.1)), (b4, 0 + 2, .int .i64 (e10.2.2))] w := (SC.cons (O.load 0 rfl rfl) (SC.cons (O.load 0 rfl rfl) (SC.cons (O.load 0 rfl rfl) SC.nil)))
                refine d_take 3 rfl (by kernel_rfl) F (p_not rfl) rfl rfl hS fun a F => d_take 4 rfl (by kernel_rfl) F (p_move rfl) rfl rfl hS fun a F => d_take 5 rfl (by kernel_rfl) F (p_faddr rfl Tryd.foff_39_1) rfl rfl hS fun a F => d_take 6 rfl (by kernel_rfl) F (p_load rfl Tryd.agg_3 (fun _ h => (SC.get h 1 rfl))) rfl rfl hS fun a F => d_one 7 (by kernel_rfl) (d_op rfl F rfl (o_call (vs := #[.int .i64 (e10.2.1)]) F Tryd.en_39 rfl rfl ((isRefId_ok e10.2.1 w).mono ?_)))
                rintro e w ⟨rfl, K⟩
                refine ⟨_, rfl, fun a F => ?_⟩
                have O : Own w0 [] [.cells b4 [.int .i64 (e10.1), .int .i64 (e10.2.1), .int .i64 (e10.2.2)] 39] w := O.call0 K
                clear K
                have F := F.setB (d := 19) rfl (decide_eq_true cc8)
                have O : Own w0 [] [.cells b4 [.int .i64 (e10.1), .int .i64 (e10.2.1), .int .i64 (e10.2.2)] 39] w := O
                refine ⟨fun _ => (SC.cons (O.load 0 rfl rfl) (SC.cons (O.load 0 rfl rfl) (SC.cons (O.load 0 rfl rfl) SC.nil))), ?_⟩
                have hS : SC [(b4, 0, .int .i64 (e10.1)), (b4, 0 + 1, .int .i64 (e10.2.1)), (b4, 0 + 2, .int .i64 (e10.2.2))] w := (SC.cons (O.load 0 rfl rfl) (SC.cons (O.load 0 rfl rfl) (SC.cons (O.load 0 rfl rfl) SC.nil)))
                refine d_take 8 rfl (by kernel_rfl) F (p_not rfl) rfl rfl hS fun a F => d_take 9 rfl (by kernel_rfl) F (p_pick (t := false) rfl rfl) rfl rfl hS fun a F => d_take 10 rfl (by kernel_rfl) F (p_move rfl) rfl rfl hS fun a F => d_take 11 rfl (by kernel_rfl) F (p_faddr rfl Tryd.foff_39_2) rfl rfl hS fun a F => d_take 12 rfl (by kernel_rfl) F (p_load rfl Tryd.agg_3 (fun _ h => (SC.get h 2 rfl))) rfl rfl hS fun a F => d_one 13 (by kernel_rfl) (d_op rfl F rfl (o_call (vs := #[.int .i64 (e10.2.2)]) F Tryd.en_39 rfl rfl ((isRefId_ok e10.2.2 w).mono ?_)))
                rintro e w ⟨rfl, K⟩
                refine ⟨_, rfl, fun a F => ?_⟩
                have O : Own w0 [] [.cells b4 [.int .i64 (e10.1), .int .i64 (e10.2.1), .int .i64 (e10.2.2)] 39] w := O.call0 K
                clear K
                have F := F.setB (d := 25) rfl (decide_eq_true cc9)
                have O : Own w0 [] [.cells b4 [.int .i64 (e10.1), .int .i64 (e10.2.1), .int .i64 (e10.2.2)] 39] w := O
                refine ⟨fun _ => (SC.cons (O.load 0 rfl rfl) (SC.cons (O.load 0 rfl rfl) (SC.cons (O.load 0 rfl rfl) SC.nil))), ?_⟩
                have hS : SC [(b4, 0, .int .i64 (e10.1)), (b4, 0 + 1, .int .i64 (e10.2.1)), (b4, 0 + 2, .int .i64 (e10.2.2))] w := (SC.cons (O.load 0 rfl rfl) (SC.cons (O.load 0 rfl rfl) (SC.cons (O.load 0 rfl rfl) SC.nil)))
                refine d_take 14 rfl (by kernel_rfl) F (p_not rfl) rfl rfl hS fun a F => d_take 15 rfl (by kernel_rfl) F (p_pick (t := false) rfl rfl) rfl rfl hS fun a F => d_take 16 rfl (by kernel_rfl) F (p_move rfl) rfl rfl hS fun a F => d_take 17 rfl (by kernel_rfl) F (p_faddr rfl Tryd.foff_39_1) rfl rfl hS fun a F => d_take 18 rfl (by kernel_rfl) F (p_load rfl Tryd.agg_3 (fun _ h => (SC.get h 1 rfl))) rfl rfl hS fun a F => d_take 19 rfl (by kernel_rfl) F (p_faddr rfl Tryd.foff_39_2) rfl rfl hS fun a F => d_take 20 rfl (by kernel_rfl) F (p_load rfl Tryd.agg_3 (fun _ h => (SC.get h 2 rfl))) rfl rfl hS fun a F => d_take 21 rfl (by kernel_rfl) F (p_eql rfl rfl) rfl rfl hS fun a F => ?_
                have F := F.setB (d := 33) rfl (decide_eq_false cc10)
                refine d_take 22 rfl (by kernel_rfl) F (p_pick (t := false) rfl rfl) rfl rfl hS fun a F => d_take 23 rfl (by kernel_rfl) F (p_move rfl) rfl rfl hS fun a F => d_take 24 rfl (by kernel_rfl) F (p_move rfl) rfl rfl hS fun a F => d_take 25 rfl (by kernel_rfl) F (p_gtr rfl rfl) rfl rfl hS fun a F => ?_
                have F := F.setB (d := 37) rfl (decide_eq_false cc11)
                refine d_take 26 rfl (by kernel_rfl) F (p_move rfl) rfl rfl hS fun a F => d_skip 27 rfl (by kernel_rfl) F rfl rfl hS fun a F => d_skip 28 rfl (by kernel_rfl) F rfl rfl hS fun a F => d_skip 29 rfl (by kernel_rfl) F rfl rfl hS fun a F => d_skip 30 rfl (by kernel_rfl) F rfl rfl hS fun a F => d_skip 31 rfl (by kernel_rfl) F rfl rfl hS fun a F => d_skip 32 rfl (by kernel_rfl) F rfl rfl hS fun a F => d_skip 33 rfl (by kernel_rfl) F rfl rfl hS fun a F => d_skip 34 rfl (by kernel_rfl) F rfl rfl hS fun a F => d_skip 35 rfl (by kernel_rfl) F rfl rfl hS fun a F => d_take 36 rfl (by kernel_rfl) F (p_pick (t := false) rfl rfl) rfl rfl hS fun a F => d_take 37 rfl (by kernel_rfl) F (p_pick (t := false) rfl rfl) rfl rfl hS fun a F => d_done (by kernel_rfl) (?_)
                refine hK8 _ _ (?_)
                try clear hK8 K8
                refine c_iff F rfl (wp_skip (hK6 _ _ (?_)))
                try clear hK6 K6
                refine c_region (sp F (p_add rfl rfl (by omega) (by omega)) rfl rfl fun a F => sp F (p_move rfl) rfl rfl fun a F => c_nil (?_))
                try rw [← hp10] at F
                try rw [← hp10] at O
                have F : Has 54 [(0, .slice A n c), (5, .slice A n c), (6, .int .i64 ((n : Int))), (7, .int .i64 (k + 1))] a := F.pick ⟨rfl, rfl, rfl, rfl, trivial⟩
                have O : Own w0 [] [] w := (O.take 0)
                exact ⟨((n : Int) - (k + 1)).toNat, by omega, (k + 1), rfl, F, O, by first | assumption | omega, by first | assumption | omega, by exact upsTo_step hi0c hi0a he10 (upB_iff.2 (by omega)) (fun hk0 => by first | exact ⟨_, he42, by omega⟩ | omega)⟩
          · refine c_draw Tryd.mixed (SC [(b4, 0, .int .i64 (e10.1)), (b4, 0 + 1, .int .i64 (e10.2.1)), (b4, 0 + 2, .int .i64 (e10.2.2))]) [] _ (fun a w h => h) ?_
            have O := O.drawn (w.drawn + 1)
            generalize { w with drawn := w.drawn + 1 } = w at O ⊢
            have hS : SC [(b4, 0, .int .i64 (e10.1)), (b4, 0 + 1, .int .i64 (e10.2.1)), (b4, 0 + 2, .int .i64 (e10.2.2))] w := (SC.cons (O.load 0 rfl rfl) (SC.cons (O.load 0 rfl rfl) (SC.cons (O.load 0 rfl rfl) SC.nil)))
            refine d_take 0 rfl (by kernel_rfl) F (p_faddr rfl Tryd.foff_39_0) rfl rfl hS fun a F => d_take 1 rfl (by kernel_rfl) F (p_load rfl Tryd.agg_3 (fun _ h => (SC.get h 0 rfl))) rfl rfl hS fun a F => d_one 2 (by kernel_rfl) (d_op rfl F rfl (o_call (vs := #[.int .i64 (e10.1), .int .i64 (0), .int .i64 (3)]) F Tryd.en_38 rfl rfl ((inRange_ok e10.1 0 3 w).mono ?_)))
            rintro e w ⟨rfl, K⟩
            refine ⟨_, rfl, fun a F => ?_⟩
            have O : Own w0 [] [.cells b4 [.int .i64 (e10.1), .int .i64 (e10.2.1), .int .i64 (e10.2.2)] 39] w := O.call0 K
            clear K
            have F := F.setB (d := 14) rfl (decide_eq_true cc7)
            have O : Own w0 [] [.cells b4 [.int .i64 (e10.1), .int .i64 (e10.2.1), .int .i64 (e10.2.2)] 39] w := O
            refine ⟨fun _ => (SC.cons (O.load 0 rfl rfl) (SC.cons (O.load 0 rfl rfl) (SC.cons (O.load 0 rfl rfl) SC.nil))), ?_⟩
            have hS : SC [(b4, 0, .int .i64 (e10.1)), (b4, 0 + 1, .int .i64 (e10.2.1)), (b4, 0 + 2, .int .i64 (e10.2.2))] w := (SC.cons (O.load 0 rfl rfl) (SC.cons (O.load 0 rfl rfl) (SC.cons (O.load 0 rfl rfl) SC.nil)))
            refine d_take 3 rfl (by kernel_rfl) F (p_not rfl) rfl rfl hS fun a F => d_take 4 rfl (by kernel_rfl) F (p_move rfl) rfl rfl hS fun a F => d_take 5 rfl (by kernel_rfl) F (p_faddr rfl Tryd.foff_39_1) rfl rfl hS fun a F => d_take 6 rfl (by kernel_rfl) F (p_load rfl Tryd.agg_3 (fun _ h => (SC.get h 1 rfl))) rfl rfl hS fun a F => d_one 7 (by kernel_rfl) (d_op rfl F rfl (o_call (vs := #[.int .i64 (e10.2.1)]) F Tryd.en_39 rfl rfl ((isRefId_ok e10.2.1 w).mono ?_)))
            rintro e w ⟨rfl, K⟩
            refine ⟨_, rfl, fun a F => ?_⟩
            have O : Own w0 [] [.cells b4 [.int .i64 (e10.1), .int .i64 (e10.2.1), .int .i64 (e10.2.2)] 39] w := O.call0 K
            clear K
            have F := F.setB (d := 19) rfl (decide_eq_true cc8)
            have O : Own w0 [] [.cells b4 [.int .i64 (e10.1), .int .i64 (e10.2.1), .int .i64 (e10.2.2)] 39] w := O
            refine ⟨fun _ => (SC.cons (O.load 0 rfl rfl) (SC.cons (O.load 0 rfl rfl) (SC.cons (O.load 0 rfl rfl) SC.nil))), ?_⟩
            have hS : SC [(b4, 0, .int .i64 (e10.1)), (b4, 0 + 1, .int .i64 (e10.2.1)), (b4, 0 + 2, .int .i64 (e10.2.2))] w := (SC.cons (O.load 0 rfl rfl) (SC.cons (O.load 0 rfl rfl) (SC.cons (O.load 0 rfl rfl) SC.nil)))
            refine d_take 8 rfl (by kernel_rfl) F (p_not rfl) rfl rfl hS fun a F => d_take 9 rfl (by kernel_rfl) F (p_pick (t := false) rfl rfl) rfl rfl hS fun a F => d_take 10 rfl (by kernel_rfl) F (p_move rfl) rfl rfl hS fun a F => d_take 11 rfl (by kernel_rfl) F (p_faddr rfl Tryd.foff_39_2) rfl rfl hS fun a F => d_take 12 rfl (by kernel_rfl) F (p_load rfl Tryd.agg_3 (fun _ h => (SC.get h 2 rfl))) rfl rfl hS fun a F => d_one 13 (by kernel_rfl) (d_op rfl F rfl (o_call (vs := #[.int .i64 (e10.2.2)]) F Tryd.en_39 rfl rfl ((isRefId_ok e10.2.2 w).mono ?_)))
            rintro e w ⟨rfl, K⟩
            refine ⟨_, rfl, fun a F => ?_⟩
            have O : Own w0 [] [.cells b4 [.int .i64 (e10.1), .int .i64 (e10.2.1), .int .i64 (e10.2.2)] 39] w := O.call0 K
            clear K
            have F := F.setB (d := 25) rfl (decide_eq_false cc9)
            have O : Own w0 [] [.cells b4 [.int .i64 (e10.1), .int .i64 (e10.2.1), .int .i64 (e10.2.2)] 39] w := O
            refine ⟨fun _ => (SC.cons (O.load 0 rfl rfl) (SC.cons (O.load 0 rfl rfl) (SC.cons (O.load 0 rfl rfl) SC.nil))), ?_⟩
            have hS : SC [(b4, 0, .int .i64 (e10.1)), (b4, 0 + 1, .int .i64 (e10.2.1)), (b4, 0 + 2, .int .i64 (e10.2.2))] w := (SC.cons (O.load 0 rfl rfl) (SC.cons (O.load 0 rfl rfl) (SC.cons (O.load 0 rfl rfl) SC.nil)))
            refine d_take 14 rfl (by kernel_rfl) F (p_not rfl) rfl rfl hS fun a F => d_take 15 rfl (by kernel_rfl) F (p_pick (t := false) rfl rfl) rfl rfl hS fun a F => d_take 16 rfl (by kernel_rfl) F (p_move rfl) rfl rfl hS fun a F => d_skip 17 rfl (by kernel_rfl) F rfl rfl hS fun a F => d_skip 18 rfl (by kernel_rfl) F rfl rfl hS fun a F => d_skip 19 rfl (by kernel_rfl) F rfl rfl hS fun a F => d_skip 20 rfl (by kernel_rfl) F rfl rfl hS fun a F => d_skip 21 rfl (by kernel_rfl) F rfl rfl hS fun a F => d_take 22 rfl (by kernel_rfl) F (p_pick (t := true) rfl rfl) rfl rfl hS fun a F => d_take 23 rfl (by kernel_rfl) F (p_move rfl) rfl rfl hS fun a F => d_skip 24 rfl (by kernel_rfl) F rfl rfl hS fun a F => d_skip 25 rfl (by kernel_rfl) F rfl rfl hS fun a F => d_skip 26 rfl (by kernel_rfl) F rfl rfl hS fun a F => ?_
            refine d_skip 27 rfl (by kernel_rfl) F rfl rfl hS fun a F => d_skip 28 rfl (by kernel_rfl) F rfl rfl hS fun a F => d_skip 29 rfl (by kernel_rfl) F rfl rfl hS fun a F => d_skip 30 rfl (by kernel_rfl) F rfl rfl hS fun a F => d_skip 31 rfl (by kernel_rfl) F rfl rfl hS fun a F => d_skip 32 rfl (by kernel_rfl) F rfl rfl hS fun a F => d_skip 33 rfl (by kernel_rfl) F rfl rfl hS fun a F => d_skip 34 rfl (by kernel_rfl) F rfl rfl hS fun a F => d_skip 35 rfl (by kernel_rfl) F rfl rfl hS fun a F => d_skip 36 rfl (by kernel_rfl) F rfl rfl hS fun a F => d_take 37 rfl (by kernel_rfl) F (p_pick (t := true) rfl rfl) rfl rfl hS fun a F => d_done (by kernel_rfl) (hK8 _ _ (?_))
            try clear hK8 K8
            refine c_ift F rfl (c_seq fun K9 hK9 => c_region (sp F (p_assign rfl) rfl rfl fun a F => c_nil (hK9 _ _ (?_))))
            try clear hK9 K9
            refine wp_ret (r_block (r_then (r_then (r_block (r_then (ret1 F rfl rfl (?_)))))))
            have O : Own w0 [] [] w := (O.take 0)
            exact ⟨congrArg Ending.returned (show Value.bool false = .bool (decide (0 < es.length ∧ upsB es = true)) from by exact vbf (fun h => absurd h.2 (by rw [show upsB es = false from by first | exact upsB_not he10 (upB_not (by omega)) | exact upsB_notO (by omega) he10 he42 (by omega)]; decide))), O⟩
        · refine c_draw Tryd.mixed (SC [(b4, 0, .int .i64 (e10.1)), (b4, 0 + 1, .int .i64 (e10.2.1))]) [] _ (fun a w h => h) ?_
          have O := O.drawn (w.drawn + 1)
          generalize { w with drawn := w.drawn + 1 } = w at O ⊢
          have hS : SC [(b4, 0, .int .i64 (e10.1)), (b4, 0 + 1, .int .i64 (e10.2.1))] w := (SC.cons (O.load 0 rfl rfl) (SC.cons (O.load 0 rfl rfl) SC.nil))
          refine d_take 0 rfl (by kernel_rfl) F (p_faddr rfl Tryd.foff_39_0) rfl rfl hS fun a F => d_take 1 rfl (by kernel_rfl) F (p_load rfl Tryd.agg_3 (fun _ h => (SC.get h 0 rfl))) rfl rfl hS fun a F => d_one 2 (by kernel_rfl) (d_op rfl F rfl (o_call (vs := #[.int .i64 (e10.1), .int .i64 (0), .int .i64 (3)]) F Tryd.en_38 rfl rfl ((inRange_ok e10.1 0 3 w).mono ?_)))
          rintro e w ⟨rfl, K⟩
          refine ⟨_, rfl, fun a F => ?_⟩
          have O : Own w0 [] [.cells b4 [.int .i64 (e10.1), .int .i64 (e10.2.1), .int .i64 (e10.2.2)] 39] w := O.call0 K
          clear K
          have F := F.setB (d := 14) rfl (decide_eq_true cc7)
          have O : Own w0 [] [.cells b4 [.int .i64 (e10.1), .int .i64 (e10.2.1), .int .i64 (e10.2.2)] 39] w := O
          refine ⟨fun _ => (SC.cons (O.load 0 rfl rfl) (SC.cons (O.load 0 rfl rfl) SC.nil)), ?_⟩
          have hS : SC [(b4, 0, .int .i64 (e10.1)), (b4, 0 + 1, .int .i64 (e10.2.1))] w := (SC.cons (O.load 0 rfl rfl) (SC.cons (O.load 0 rfl rfl) SC.nil))
          refine d_take 3 rfl (by kernel_rfl) F (p_not rfl) rfl rfl hS fun a F => d_take 4 rfl (by kernel_rfl) F (p_move rfl) rfl rfl hS fun a F => d_take 5 rfl (by kernel_rfl) F (p_faddr rfl Tryd.foff_39_1) rfl rfl hS fun a F => d_take 6 rfl (by kernel_rfl) F (p_load rfl Tryd.agg_3 (fun _ h => (SC.get h 1 rfl))) rfl rfl hS fun a F => d_one 7 (by kernel_rfl) (d_op rfl F rfl (o_call (vs := #[.int .i64 (e10.2.1)]) F Tryd.en_39 rfl rfl ((isRefId_ok e10.2.1 w).mono ?_)))
          rintro e w ⟨rfl, K⟩
          refine ⟨_, rfl, fun a F => ?_⟩
          have O : Own w0 [] [.cells b4 [.int .i64 (e10.1), .int .i64 (e10.2.1), .int .i64 (e10.2.2)] 39] w := O.call0 K
          clear K
          have F := F.setB (d := 19) rfl (decide_eq_false cc8)
          have O : Own w0 [] [.cells b4 [.int .i64 (e10.1), .int .i64 (e10.2.1), .int .i64 (e10.2.2)] 39] w := O
          refine ⟨fun _ => (SC.cons (O.load 0 rfl rfl) (SC.cons (O.load 0 rfl rfl) SC.nil)), ?_⟩
          have hS : SC [(b4, 0, .int .i64 (e10.1)), (b4, 0 + 1, .int .i64 (e10.2.1))] w := (SC.cons (O.load 0 rfl rfl) (SC.cons (O.load 0 rfl rfl) SC.nil))
          refine d_take 8 rfl (by kernel_rfl) F (p_not rfl) rfl rfl hS fun a F => d_take 9 rfl (by kernel_rfl) F (p_pick (t := false) rfl rfl) rfl rfl hS fun a F => d_take 10 rfl (by kernel_rfl) F (p_move rfl) rfl rfl hS fun a F => d_skip 11 rfl (by kernel_rfl) F rfl rfl hS fun a F => d_skip 12 rfl (by kernel_rfl) F rfl rfl hS fun a F => d_skip 13 rfl (by kernel_rfl) F rfl rfl hS fun a F => d_skip 14 rfl (by kernel_rfl) F rfl rfl hS fun a F => d_take 15 rfl (by kernel_rfl) F (p_pick (t := true) rfl rfl) rfl rfl hS fun a F => d_take 16 rfl (by kernel_rfl) F (p_move rfl) rfl rfl hS fun a F => d_skip 17 rfl (by kernel_rfl) F rfl rfl hS fun a F => d_skip 18 rfl (by kernel_rfl) F rfl rfl hS fun a F => d_skip 19 rfl (by kernel_rfl) F rfl rfl hS fun a F => d_skip 20 rfl (by kernel_rfl) F rfl rfl hS fun a F => ?_
          refine d_skip 21 rfl (by kernel_rfl) F rfl rfl hS fun a F => d_take 22 rfl (by kernel_rfl) F (p_pick (t := true) rfl rfl) rfl rfl hS fun a F => d_take 23 rfl (by kernel_rfl) F (p_move rfl) rfl rfl hS fun a F => d_skip 24 rfl (by kernel_rfl) F rfl rfl hS fun a F => d_skip 25 rfl (by kernel_rfl) F rfl rfl hS fun a F => d_skip 26 rfl (by kernel_rfl) F rfl rfl hS fun a F => d_skip 27 rfl (by kernel_rfl) F rfl rfl hS fun a F => d_skip 28 rfl (by kernel_rfl) F rfl rfl hS fun a F => d_skip 29 rfl (by kernel_rfl) F rfl rfl hS fun a F => d_skip 30 rfl (by kernel_rfl) F rfl rfl hS fun a F => d_skip 31 rfl (by kernel_rfl) F rfl rfl hS fun a F => d_skip 32 rfl (by kernel_rfl) F rfl rfl hS fun a F => d_skip 33 rfl (by kernel_rfl) F rfl rfl hS fun a F => ?_
          refine d_skip 34 rfl (by kernel_rfl) F rfl rfl hS fun a F => d_skip 35 rfl (by kernel_rfl) F rfl rfl hS fun a F => d_skip 36 rfl (by kernel_rfl) F rfl rfl hS fun a F => d_take 37 rfl (by kernel_rfl) F (p_pick (t := true) rfl rfl) rfl rfl hS fun a F => d_done (by kernel_rfl) (hK8 _ _ (?_))
          try clear hK8 K8
          refine c_ift F rfl (c_seq fun K9 hK9 => c_region (sp F (p_assign rfl) rfl rfl fun a F => c_nil (hK9 _ _ (?_))))
          try clear hK9 K9
          refine wp_ret (r_block (r_then (r_then (r_block (r_then (ret1 F rfl rfl (?_)))))))
          have O : Own w0 [] [] w := (O.take 0)
          exact ⟨congrArg Ending.returned (show Value.bool false = .bool (decide (0 < es.length ∧ upsB es = true)) from by exact vbf (fun h => absurd h.2 (by rw [show upsB es = false from by first | exact upsB_not he10 (upB_not (by omega)) | exact upsB_notO (by omega) he10 he42 (by omega)]; decide))), O⟩
      · refine c_draw Tryd.mixed (SC [(b4, 0, .int .i64 (e10.1))]) [] _ (fun a w h => h) ?_
        have O := O.drawn (w.drawn + 1)
        generalize { w with drawn := w.drawn + 1 } = w at O ⊢
        have hS : SC [(b4, 0, .int .i64 (e10.1))] w := (SC.cons (O.load 0 rfl rfl) SC.nil)
        refine d_take 0 rfl (by kernel_rfl) F (p_faddr rfl Tryd.foff_39_0) rfl rfl hS fun a F => d_take 1 rfl (by kernel_rfl) F (p_load rfl Tryd.agg_3 (fun _ h => (SC.get h 0 rfl))) rfl rfl hS fun a F => d_one 2 (by kernel_rfl) (d_op rfl F rfl (o_call (vs := #[.int .i64 (e10.1), .int .i64 (0), .int .i64 (3)]) F Tryd.en_38 rfl rfl ((inRange_ok e10.1 0 3 w).mono ?_)))
        rintro e w ⟨rfl, K⟩
        refine ⟨_, rfl, fun a F => ?_⟩
        have O : Own w0 [] [.cells b4 [.int .i64 (e10.1), .int .i64 (e10.2.1), .int .i64 (e10.2.2)] 39] w := O.call0 K
        clear K
        have F := F.setB (d := 14) rfl (decide_eq_false cc7)
        have O : Own w0 [] [.cells b4 [.int .i64 (e10.1), .int .i64 (e10.2.1), .int .i64 (e10.2.2)] 39] w := O
        refine ⟨fun _ => (SC.cons (O.load 0 rfl rfl) SC.nil), ?_⟩
        have hS : SC [(b4, 0, .int .i64 (e10.1))] w := (SC.cons (O.load 0 rfl rfl) SC.nil)
        refine d_take 3 rfl (by kernel_rfl) F (p_not rfl) rfl rfl hS fun a F => d_take 4 rfl (by kernel_rfl) F (p_move rfl) rfl rfl hS fun a F => d_skip 5 rfl (by kernel_rfl) F rfl rfl hS fun a F => d_skip 6 rfl (by kernel_rfl) F rfl rfl hS fun a F => d_skip 7 rfl (by kernel_rfl) F rfl rfl hS fun a F => d_skip 8 rfl (by kernel_rfl) F rfl rfl hS fun a F => d_take 9 rfl (by kernel_rfl) F (p_pick (t := true) rfl rfl) rfl rfl hS fun a F => d_take 10 rfl (by kernel_rfl) F (p_move rfl) rfl rfl hS fun a F => d_skip 11 rfl (by kernel_rfl) F rfl rfl hS fun a F => d_skip 12 rfl (by kernel_rfl) F rfl rfl hS fun a F => d_skip 13 rfl (by kernel_rfl) F rfl rfl hS fun a F => d_skip 14 rfl (by kernel_rfl) F rfl rfl hS fun a F => d_take 15 rfl (by kernel_rfl) F (p_pick (t := true) rfl rfl) rfl rfl hS fun a F => ?_
        refine d_take 16 rfl (by kernel_rfl) F (p_move rfl) rfl rfl hS fun a F => d_skip 17 rfl (by kernel_rfl) F rfl rfl hS fun a F => d_skip 18 rfl (by kernel_rfl) F rfl rfl hS fun a F => d_skip 19 rfl (by kernel_rfl) F rfl rfl hS fun a F => d_skip 20 rfl (by kernel_rfl) F rfl rfl hS fun a F => d_skip 21 rfl (by kernel_rfl) F rfl rfl hS fun a F => d_take 22 rfl (by kernel_rfl) F (p_pick (t := true) rfl rfl) rfl rfl hS fun a F => d_take 23 rfl (by kernel_rfl) F (p_move rfl) rfl rfl hS fun a F => d_skip 24 rfl (by kernel_rfl) F rfl rfl hS fun a F => d_skip 25 rfl (by kernel_rfl) F rfl rfl hS fun a F => d_skip 26 rfl (by kernel_rfl) F rfl rfl hS fun a F => d_skip 27 rfl (by kernel_rfl) F rfl rfl hS fun a F => d_skip 28 rfl (by kernel_rfl) F rfl rfl hS fun a F => ?_
        refine d_skip 29 rfl (by kernel_rfl) F rfl rfl hS fun a F => d_skip 30 rfl (by kernel_rfl) F rfl rfl hS fun a F => d_skip 31 rfl (by kernel_rfl) F rfl rfl hS fun a F => d_skip 32 rfl (by kernel_rfl) F rfl rfl hS fun a F => d_skip 33 rfl (by kernel_rfl) F rfl rfl hS fun a F => d_skip 34 rfl (by kernel_rfl) F rfl rfl hS fun a F => d_skip 35 rfl (by kernel_rfl) F rfl rfl hS fun a F => d_skip 36 rfl (by kernel_rfl) F rfl rfl hS fun a F => d_take 37 rfl (by kernel_rfl) F (p_pick (t := true) rfl rfl) rfl rfl hS fun a F => d_done (by kernel_rfl) (hK8 _ _ (?_))
        try clear hK8 K8
        refine c_ift F rfl (c_seq fun K9 hK9 => c_region (sp F (p_assign rfl) rfl rfl fun a F => c_nil (hK9 _ _ (?_))))
        try clear hK9 K9
        refine wp_ret (r_block (r_then (r_then (r_block (r_then (ret1 F rfl rfl (?_)))))))
        have O : Own w0 [] [] w := (O.take 0)
        exact ⟨congrArg Ending.returned (show Value.bool false = .bool (decide (0 < es.length ∧ upsB es = true)) from by exact vbf (fun h => absurd h.2 (by rw [show upsB es = false from by first | exact upsB_not he10 (upB_not (by omega)) | exact upsB_notO (by omega) he10 he42 (by omega)]; decide))), O⟩
    · have F := F.setB (d := 8) rfl (decide_eq_false c8)
      refine c_iff F rfl (wp_exit (e_then (e_then (e_here (hK2 _ _ (?_))))))
      try clear hK2 K2
      refine c_seq fun K6 hK6 => c_region (sp F (p_move rfl) rfl rfl fun a F => sp F (p_len_l rfl Tryd.underlying28) rfl rfl fun a F => sp F (p_gtr rfl rfl) rfl rfl fun a F => sp F (p_assign rfl) rfl rfl fun a F => c_nil (hK6 _ _ (?_)))
      try clear hK6 K6
      refine wp_ret (ret1 F rfl rfl (?_))
      exact ⟨congrArg Ending.returned (show Value.bool (decide (0 < (n : Int))) = .bool (decide (0 < es.length ∧ upsB es = true)) from by exact vbi ⟨fun h => ⟨by omega, upsB_of hi0c (by omega)⟩, fun h => by omega⟩), O⟩

end Go.Proofs.YtilpbddeijolbaaDoor
