/- Contracts of the functions on operations of deltas: copying, comparing, sizes. No conditions but those on lengths. -/
import Derived.Test.YtbhidkcljekobaaPick
namespace Go.Proofs.Ytbhidkcljekobaa
open Go.ChangeShapes Go.WideShapes Go.ChangeAt Go.RowKit
set_option linter.unusedVariables false
set_option linter.unusedSimpArgs false


def encOp (u : Int × Int × List UInt8) : List Value := [.int .i64 u.1, .int .i64 u.2.1, .string (bs u.2.2)]
theorem encOp_len (u : Int × Int × List UInt8) : (encOp u).length = 3 := rfl
def tsz : List (Int × Int × List UInt8) → Int
  | [] => 0
  | o :: l => (o.2.2.length : Int) + tsz l
section
variable {l m : List (Int × Int × List UInt8)} {k : Int} {e : Int × Int × List UInt8}
theorem tsz_nonneg : ∀ l : List (Int × Int × List UInt8), 0 ≤ tsz l
  | [] => Int.le_refl _
  | o :: l => by have := tsz_nonneg l; unfold tsz; omega
theorem tsz_append : ∀ l m : List (Int × Int × List UInt8), tsz (l ++ m) = tsz l + tsz m
  | [], m => by simp [tsz]
  | o :: l, m => by
    show (o.2.2.length : Int) + tsz (l ++ m) = ((o.2.2.length : Int) + tsz l) + tsz m
    rw [tsz_append l m]; omega
theorem take_step {α : Type} {l : List α} {e : α} {k : Int} (h0 : 0 ≤ k) (he : l[k.toNat]? = some e) : l.take (k + 1).toNat = l.take k.toNat ++ [e] := by
  rw [show (k + 1).toNat = k.toNat + 1 by omega, List.take_add_one, he]; rfl
theorem take_all {α : Type} {l : List α} {k : Int} (h : (l.length : Int) ≤ k) : l.take k.toNat = l := List.take_of_length_le (by omega)
theorem tsz_step (h0 : 0 ≤ k) (he : l[k.toNat]? = some e) : tsz (l.take (k + 1).toNat) = tsz (l.take k.toNat) + e.2.2.length := by
  rw [take_step h0 he, tsz_append]; simp [tsz]
theorem tsz_split (l : List (Int × Int × List UInt8)) (k : Nat) : tsz (l.take k) + tsz (l.drop k) = tsz l := by rw [← tsz_append, List.take_append_drop]
theorem tsz_le (l : List (Int × Int × List UInt8)) (k : Nat) : tsz (l.take k) ≤ tsz l := by have := tsz_split l k; have := tsz_nonneg (l.drop k); omega
theorem tsz_snoc : tsz (l ++ [e]) = tsz l + e.2.2.length := by rw [tsz_append]; simp [tsz]
end
section
variable {α : Type} {k : Int} {es es1 es2 : List α} {e e1 e2 : α}
def SameTo (k : Int) (es es2 : List α) : Prop := ∀ i : Nat, (i : Int) < k → es[i]? = es2[i]?
theorem sameTo_zero : SameTo 0 es es2 := fun i h => by omega
theorem sameTo_step (h : SameTo k es es2) (h0 : 0 ≤ k) (he : es[k.toNat]? = some e1) (he2 : es2[k.toNat]? = some e2) (hh : e1 = e2) : SameTo (k + 1) es es2 := fun i hi => by
  by_cases hik : (i : Int) < k
  · exact h i hik
  · have : i = k.toNat := by omega
    subst this; rw [he, he2, hh]
theorem sameTo_set (h : SameTo k es1 es) (h0 : 0 ≤ k) (he : es[k.toNat]? = some e) (hl : k < es1.length) : SameTo (k + 1) (es1.set k.toNat e) es := fun i hi => by
  by_cases hik : i = k.toNat
  · subst hik
    rw [List.getElem?_set_self (by omega), he]
  · rw [List.getElem?_set_ne (by omega)]
    exact h i (by omega)
theorem same_ext (h : SameTo k es es2) (hk : (es.length : Int) ≤ k) (hl : (es.length : Int) = es2.length) : es = es2 := by
  apply List.ext_getElem?
  intro i
  by_cases hi : i < es.length
  · exact h i (by omega)
  · rw [List.getElem?_eq_none (by omega), List.getElem?_eq_none (by omega)]
end
set_option maxRecDepth 100000 in
/-- laws.toOp -/
theorem toOp_ok (u0 : Int) (u1 : Int) (u2 : List UInt8) (w0 : World) :
    Calls Try.prog 33 #[.agg #[.int .i64 (u0), .int .i64 (u1), .string (bs (u2))]] w0 fun e w => e = .returned (.agg #[.int .i64 (u0), .int .i64 (u1), .string (bs (u2))]) ∧ Own w0 [] [] w := by
  have O := Own.start w0
  refine enterO (n := 14) Try.func33 rfl rfl rfl O fun a w F O => ?_
  refine c_seq fun K1 hK1 => c_region (so F rfl (o_box F O rfl rfl fun b1 w O a F => ?_))
  have O : Own w0 [] [.cells b1 [.int .i64 (u0), .int .i64 (u1), .string (bs (u2))] 52] w := O
  refine so F rfl (o_alloc F O Try.zero_43 rfl fun b2 w O a F => ?_)
  have O : Own w0 [] [.cells b2 [.int .i64 (0), .int .i64 (0), .string (bs ([]))] 43, .cells b1 [.int .i64 (u0), .int .i64 (u1), .string (bs (u2))] 52] w := O
  refine c_nil (hK1 _ _ (?_))
  try clear hK1 K1
  refine c_seq fun K2 hK2 => c_region (so F rfl (o_alloc F O Try.zero_43 rfl fun b3 w O a F => ?_))
  have O : Own w0 [] [.cells b3 [.int .i64 (0), .int .i64 (0), .string (bs ([]))] 43, .cells b2 [.int .i64 (0), .int .i64 (0), .string (bs ([]))] 43, .cells b1 [.int .i64 (u0), .int .i64 (u1), .string (bs (u2))] 52] w := O
  refine c_nil (hK2 _ _ (?_))
  try clear hK2 K2
  refine c_seq fun K3 hK3 => c_region (sp F (p_faddr rfl Try.foff_52_0) rfl rfl fun a F => sp F (p_load rfl Try.agg_3 (fun _ h => (ld1 (O.load 2 rfl rfl) h))) rfl rfl fun a F => sp F (p_faddr rfl Try.foff_43_0) rfl rfl fun a F => so F rfl (o_store F O rfl rfl Try.sz_3 rfl rfl 0 rfl rfl fun w O => ?_))
  have O : Own w0 [] [.cells b3 [.int .i64 (u0), .int .i64 (0), .string (bs ([]))] 43, .cells b2 [.int .i64 (0), .int .i64 (0), .string (bs ([]))] 43, .cells b1 [.int .i64 (u0), .int .i64 (u1), .string (bs (u2))] 52] w := O
  refine c_nil (hK3 _ _ (?_))
  try clear hK3 K3
  refine c_seq fun K4 hK4 => c_region (sp F (p_faddr rfl Try.foff_52_1) rfl rfl fun a F => sp F (p_load rfl Try.agg_3 (fun _ h => (ld1 (O.load 2 rfl rfl) h))) rfl rfl fun a F => sp F (p_faddr rfl Try.foff_43_1) rfl rfl fun a F => so F rfl (o_store F O rfl rfl Try.sz_3 rfl rfl 0 rfl rfl fun w O => ?_))
  have O : Own w0 [] [.cells b3 [.int .i64 (u0), .int .i64 (u1), .string (bs ([]))] 43, .cells b2 [.int .i64 (0), .int .i64 (0), .string (bs ([]))] 43, .cells b1 [.int .i64 (u0), .int .i64 (u1), .string (bs (u2))] 52] w := O
  refine c_nil (hK4 _ _ (?_))
  try clear hK4 K4
  refine c_seq fun K5 hK5 => c_region (sp F (p_faddr rfl Try.foff_52_2) rfl rfl fun a F => sp F (p_load rfl Try.agg_9 (fun _ h => (ld1 (O.load 2 rfl rfl) h))) rfl rfl fun a F => sp F (p_faddr rfl Try.foff_43_2) rfl rfl fun a F => so F rfl (o_store F O rfl rfl Try.sz_9 rfl rfl 0 rfl rfl fun w O => ?_))
  have O : Own w0 [] [.cells b3 [.int .i64 (u0), .int .i64 (u1), .string (bs (u2))] 43, .cells b2 [.int .i64 (0), .int .i64 (0), .string (bs ([]))] 43, .cells b1 [.int .i64 (u0), .int .i64 (u1), .string (bs (u2))] 52] w := O
  refine c_nil (hK5 _ _ (?_))
  try clear hK5 K5
  refine c_seq fun K6 hK6 => c_region (sp F (p_loadC (cs := [.int .i64 (u0), .int .i64 (u1), .string (bs (u2))]) rfl Try.agg_43 Try.sz_43 (fun _ h => (CA.cons (ld1 (O.load 0 rfl rfl) h) (CA.cons (ld1 (O.load 0 rfl rfl) h) (CA.cons (ld1 (O.load 0 rfl rfl) h) CA.nil))))) rfl rfl fun a F => so F rfl (o_storeA (vs := [.int .i64 (u0), .int .i64 (u1), .string (bs (u2))]) F O rfl rfl Try.sz_43 (by simp [Value.oneCell']) 1 rfl rfl fun w O => ?_))
  have O : Own w0 [] [.cells b3 [.int .i64 (u0), .int .i64 (u1), .string (bs (u2))] 43, .cells b2 [.int .i64 (u0), .int .i64 (u1), .string (bs (u2))] 43, .cells b1 [.int .i64 (u0), .int .i64 (u1), .string (bs (u2))] 52] w := O
  refine c_nil (hK6 _ _ (?_))
  try clear hK6 K6
  refine wp_ret (retC F O rfl rfl 1 rfl Try.agg_43 Try.sz_43 (?_))
  have O : Own w0 [] [] w := (O.take 0)
  exact ⟨rfl, O⟩

set_option maxRecDepth 100000 in
/-- laws.eqOp -/
theorem eqOp_ok (u0 : Int) (u1 : Int) (u2 : List UInt8) (v0 : Int) (v1 : Int) (v2 : List UInt8) (w0 : World) :
    Calls Try.prog 34 #[.agg #[.int .i64 (u0), .int .i64 (u1), .string (bs (u2))], .agg #[.int .i64 (v0), .int .i64 (v1), .string (bs (v2))]] w0 fun e w => e = .returned (.bool (decide (u0 = v0 ∧ u1 = v1 ∧ u2 = v2))) ∧ Own w0 [] [] w := by
  have O := Own.start w0
  refine enterO (n := 20) Try.func34 rfl rfl rfl O fun a w F O => ?_
  refine c_seq fun K1 hK1 => c_region (so F rfl (o_box F O rfl rfl fun b2 w O a F => ?_))
  have O : Own w0 [] [.cells b2 [.int .i64 (u0), .int .i64 (u1), .string (bs (u2))] 43] w := O
  refine so F rfl (o_box F O rfl rfl fun b3 w O a F => ?_)
  have O : Own w0 [] [.cells b3 [.int .i64 (v0), .int .i64 (v1), .string (bs (v2))] 43, .cells b2 [.int .i64 (u0), .int .i64 (u1), .string (bs (u2))] 43] w := O
  refine sp F (p_assign rfl) rfl rfl fun a F => c_nil (hK1 _ _ (?_))
  try clear hK1 K1
  refine c_seq fun K2 hK2 => c_seq fun K3 hK3 => c_region (sp F (p_faddr rfl Try.foff_43_0) rfl rfl fun a F => sp F (p_load rfl Try.agg_3 (fun _ h => (ld1 (O.load 1 rfl rfl) h))) rfl rfl fun a F => sp F (p_faddr rfl Try.foff_43_0) rfl rfl fun a F => sp F (p_load rfl Try.agg_3 (fun _ h => (ld1 (O.load 0 rfl rfl) h))) rfl rfl fun a F => sp F (p_neq rfl rfl) rfl rfl fun a F => c_nil (hK3 _ _ (?_)))
  try clear hK3 K3
  by_cases c9 : u0 = v0
  · have F := F.setB (d := 9) rfl (decide_eq_false (fun h => h c9))
    refine c_iff F rfl (wp_skip (hK2 _ _ (?_)))
    try clear hK2 K2
    refine c_seq fun K4 hK4 => c_seq fun K5 hK5 => c_region (sp F (p_faddr rfl Try.foff_43_1) rfl rfl fun a F => sp F (p_load rfl Try.agg_3 (fun _ h => (ld1 (O.load 1 rfl rfl) h))) rfl rfl fun a F => sp F (p_faddr rfl Try.foff_43_1) rfl rfl fun a F => sp F (p_load rfl Try.agg_3 (fun _ h => (ld1 (O.load 0 rfl rfl) h))) rfl rfl fun a F => sp F (p_neq rfl rfl) rfl rfl fun a F => c_nil (hK5 _ _ (?_)))
    try clear hK5 K5
    by_cases c14 : u1 = v1
    · have F := F.setB (d := 14) rfl (decide_eq_false (fun h => h c14))
      refine c_iff F rfl (wp_skip (hK4 _ _ (?_)))
      try clear hK4 K4
      refine c_seq fun K6 hK6 => c_seq fun K7 hK7 => c_region (sp F (p_faddr rfl Try.foff_43_2) rfl rfl fun a F => sp F (p_load rfl Try.agg_9 (fun _ h => (ld1 (O.load 1 rfl rfl) h))) rfl rfl fun a F => sp F (p_faddr rfl Try.foff_43_2) rfl rfl fun a F => sp F (p_load rfl Try.agg_9 (fun _ h => (ld1 (O.load 0 rfl rfl) h))) rfl rfl fun a F => sp F (p_sne rfl rfl) rfl rfl fun a F => c_nil (hK7 _ _ (?_)))
      try clear hK7 K7
      by_cases c19 : u2 = v2
      · have F := F.setB (d := 19) rfl (decide_eq_false (fun h => h c19))
        refine c_iff F rfl (wp_skip (hK6 _ _ (?_)))
        try clear hK6 K6
        refine c_seq fun K8 hK8 => c_region (sp F (p_assign rfl) rfl rfl fun a F => c_nil (hK8 _ _ (?_)))
        try clear hK8 K8
        refine wp_ret (ret1 F rfl rfl (?_))
        have O : Own w0 [] [] w := (O.take 0)
        exact ⟨congrArg Ending.returned (show Value.bool true = .bool (decide (u0 = v0 ∧ u1 = v1 ∧ u2 = v2)) from by exact vbt ⟨by omega, by omega, by assumption⟩), O⟩
      · have F := F.setB (d := 19) rfl (decide_eq_true c19)
        refine c_ift F rfl (c_seq fun K8 hK8 => c_region (sp F (p_assign rfl) rfl rfl fun a F => c_nil (hK8 _ _ (?_))))
        try clear hK8 K8
        refine wp_ret (r_then (ret1 F rfl rfl (?_)))
        have O : Own w0 [] [] w := (O.take 0)
        exact ⟨congrArg Ending.returned (show Value.bool false = .bool (decide (u0 = v0 ∧ u1 = v1 ∧ u2 = v2)) from by exact vbf (fun h => by first | omega | exact absurd h.2.2 (by assumption))), O⟩
    · have F := F.setB (d := 14) rfl (decide_eq_true c14)
      refine c_ift F rfl (c_seq fun K6 hK6 => c_region (sp F (p_assign rfl) rfl rfl fun a F => c_nil (hK6 _ _ (?_))))
      try clear hK6 K6
      refine wp_ret (r_then (ret1 F rfl rfl (?_)))
      have O : Own w0 [] [] w := (O.take 0)
      exact ⟨congrArg Ending.returned (show Value.bool false = .bool (decide (u0 = v0 ∧ u1 = v1 ∧ u2 = v2)) from by exact vbf (fun h => by first | omega | exact absurd h.2.2 (by assumption))), O⟩
  · have F := F.setB (d := 9) rfl (decide_eq_true c9)
    refine c_ift F rfl (c_seq fun K4 hK4 => c_region (sp F (p_assign rfl) rfl rfl fun a F => c_nil (hK4 _ _ (?_))))
    try clear hK4 K4
    refine wp_ret (r_then (ret1 F rfl rfl (?_)))
    have O : Own w0 [] [] w := (O.take 0)
    exact ⟨congrArg Ending.returned (show Value.bool false = .bool (decide (u0 = v0 ∧ u1 = v1 ∧ u2 = v2)) from by exact vbf (fun h => by first | omega | exact absurd h.2.2 (by assumption))), O⟩

set_option maxRecDepth 100000 in
/-- laws.szOp -/
theorem szOp_ok (u0 : Int) (u1 : Int) (u2 : List UInt8) (left : Int) (w0 : World) (h0 : 0 ≤ left) (h1 : left ≤ 1048576) (hl : (u2.length : Int) ≤ 9223372036854775807) :
    Calls Try.prog 32 #[.agg #[.int .i64 (u0), .int .i64 (u1), .string (bs (u2))], .int .i64 (left)] w0 fun e w => ∃ (q : Int), e = .returned (.int .i64 (q)) ∧ ((0 ≤ q ∧ q = left - u2.length) ∨ (q = -1 ∧ left < u2.length)) ∧ Own w0 [] [] w := by
  have O := Own.start w0
  refine enterO (n := 13) Try.func32 rfl rfl rfl O fun a w F O => ?_
  refine c_seq fun K1 hK1 => c_region (so F rfl (o_box F O rfl rfl fun b2 w O a F => ?_))
  have O : Own w0 [] [.cells b2 [.int .i64 (u0), .int .i64 (u1), .string (bs (u2))] 52] w := O
  refine sp F (p_assign rfl) rfl rfl fun a F => c_nil (hK1 _ _ (?_))
  try clear hK1 K1
  refine c_seq fun K2 hK2 => c_region (sp F (p_move rfl) rfl rfl fun a F => sp F (p_faddr rfl Try.foff_52_2) rfl rfl fun a F => sp F (p_load rfl Try.agg_9 (fun _ h => (ld1 (O.load 0 rfl rfl) h))) rfl rfl fun a F => sp F (p_len_b rfl Try.underlying9) rfl rfl fun a F => sp F (p_sub rfl rfl (by omega) (by omega)) rfl rfl fun a F => sp F (p_assign rfl) rfl rfl fun a F => c_nil (hK2 _ _ (?_)))
  try clear hK2 K2
  refine c_seq fun K3 hK3 => c_seq fun K4 hK4 => c_region (sp F (p_move rfl) rfl rfl fun a F => sp F (p_lss rfl rfl) rfl rfl fun a F => c_nil (hK4 _ _ (?_)))
  try clear hK4 K4
  by_cases c11 : (left - (u2.length : Int)) < 0
  · have F := F.setB (d := 11) rfl (decide_eq_true c11)
    refine c_ift F rfl (c_seq fun K5 hK5 => c_region (sp F (p_assign rfl) rfl rfl fun a F => c_nil (hK5 _ _ (?_))))
    try clear hK5 K5
    refine wp_ret (r_then (ret1 F rfl rfl (?_)))
    have O : Own w0 [] [] w := (O.take 0)
    exact ⟨(-1), congrArg Ending.returned (show Value.int .i64 (-1) = .int .i64 ((-1)) from by first | exact vint (by omega) | exact vint (by simp; done)), by first | assumption | omega, O⟩
  · have F := F.setB (d := 11) rfl (decide_eq_false c11)
    refine c_iff F rfl (wp_skip (hK3 _ _ (?_)))
    try clear hK3 K3
    refine c_seq fun K5 hK5 => c_region (sp F (p_move rfl) rfl rfl fun a F => sp F (p_assign rfl) rfl rfl fun a F => c_nil (hK5 _ _ (?_)))
    try clear hK5 K5
    refine wp_ret (ret1 F rfl rfl (?_))
    have O : Own w0 [] [] w := (O.take 0)
    exact ⟨(left - (u2.length : Int)), congrArg Ending.returned (show Value.int .i64 (left - (u2.length : Int)) = .int .i64 ((left - (u2.length : Int))) from by first | exact vint (by omega) | exact vint (by simp; done)), by first | assumption | omega, O⟩

set_option maxRecDepth 100000 in
/-- laws.szOpS -/
theorem szOpS_ok (A : Option Addr) (n : Nat) (c : Nat) (es : List (Int × Int × List UInt8)) (left : Int) (w0 : World) (hA : Arr w0 encOp 3 A es) (hn : (n : Int) = es.length) (hb : (n : Int) ≤ 9223372036854775807) (ht : ∀ o ∈ es, (o.2.2.length : Int) ≤ 9223372036854775807) (h0 : 0 ≤ left) (h1 : left ≤ 1048576) :
    Calls Try.prog 15 #[.slice A n c, .int .i64 (left)] w0 fun e w => ∃ (q : Int), e = .returned (.int .i64 (q)) ∧ (q = -1 ∨ (0 ≤ q ∧ q = left - n - tsz es)) ∧ Own w0 [] [] w := by
  have O := Own.start w0
  refine enterO (n := 27) Try.func15 rfl rfl rfl O fun a w F O => ?_
  refine c_seq fun K1 hK1 => c_region (sp F (p_assign rfl) rfl rfl fun a F => c_nil (hK1 _ _ (?_)))
  try clear hK1 K1
  refine c_seq fun K2 hK2 => c_region (sp F (p_move rfl) rfl rfl fun a F => sp F (p_move rfl) rfl rfl fun a F => sp F (p_len_l rfl Try.underlying27) rfl rfl fun a F => sp F (p_sub rfl rfl (by omega) (by omega)) rfl rfl fun a F => sp F (p_assign rfl) rfl rfl fun a F => c_nil (hK2 _ _ (?_)))
  try clear hK2 K2
  refine c_seq fun K3 hK3 => c_seq fun K4 hK4 => c_region (sp F (p_move rfl) rfl rfl fun a F => sp F (p_lss rfl rfl) rfl rfl fun a F => c_nil (hK4 _ _ (?_)))
  try clear hK4 K4
  by_cases c11 : (left - (n : Int)) < 0
  · have F := F.setB (d := 11) rfl (decide_eq_true c11)
    refine c_ift F rfl (c_seq fun K5 hK5 => c_region (sp F (p_assign rfl) rfl rfl fun a F => c_nil (hK5 _ _ (?_))))
    try clear hK5 K5
    refine wp_ret (r_then (ret1 F rfl rfl (?_)))
    exact ⟨(-1), congrArg Ending.returned (show Value.int .i64 (-1) = .int .i64 ((-1)) from by first | exact vint (by omega) | exact vint (by simp; done)), by first | assumption | omega, O⟩
  · have F := F.setB (d := 11) rfl (decide_eq_false c11)
    refine c_iff F rfl (wp_skip (hK3 _ _ (?_)))
    try clear hK3 K3
    refine c_seq fun K5 hK5 => c_seq fun K6 hK6 => c_region (sp F (p_assign rfl) rfl rfl fun a F => c_nil (hK6 _ _ (?_)))
    try clear hK6 K6
    refine wp_block (?_)
    refine c_loop (fun mm a w => ∃ (k : Int), ∃ (m : Int), mm = ((n : Int) - k).toNat ∧ Has 27 [(0, .slice A n c), (11, .bool false), (5, .int .i64 (k)), (1, .int .i64 (m))] a ∧ Own w0 [] [] w ∧ (0 ≤ k) ∧ (k ≤ n) ∧ (0 ≤ m) ∧ (m = left - n - tsz (es.take (k : Int).toNat)) ∧ (m ≤ 1048576)) ?_ ?_
    · have F : Has 27 [(0, .slice A n c), (11, .bool false), (5, .int .i64 (0)), (1, .int .i64 (left - (n : Int)))] a := F.pick ⟨rfl, rfl, rfl, rfl, trivial⟩
      exact ⟨((n : Int) - 0).toNat, 0, (left - (n : Int)), rfl, F, O, by first | assumption | omega, by first | assumption | omega, by first | assumption | omega, by simp [tsz], by first | assumption | omega⟩
    · rintro mm a w ⟨k, m, rfl, F, O, hi0a, hi0b, hi0c, hi0d, hi0e⟩
      refine c_seq fun K7 hK7 => c_seq fun K8 hK8 => c_region (sp F (p_move rfl) rfl rfl fun a F => sp F (p_move rfl) rfl rfl fun a F => sp F (p_len_l rfl Try.underlying27) rfl rfl fun a F => sp F (p_lss rfl rfl) rfl rfl fun a F => c_nil (hK8 _ _ (?_)))
      try clear hK8 K8
      by_cases c15 : k < (n : Int)
      · have F := F.setB (d := 15) rfl (decide_eq_true c15)
        refine c_ift F rfl (wp_skip (hK7 _ _ (?_)))
        try clear hK7 K7
        refine c_seq fun K9 hK9 => wp_block (c_seq fun K10 hK10 => c_region (sp F (p_move rfl) rfl rfl fun a F => sp F (p_move rfl) rfl rfl fun a F => ?_))
        obtain ⟨b20, o20, hp20, hb20, hc20⟩ := Arr.out hA (by omega)
        have hA20 := hA; rw [hp20] at hA20 F
        obtain ⟨e20, he20⟩ := get_some (l := es) (i := k) (by omega) (by first | omega | (simp; omega))
        have hle := ht _ (List.mem_of_getElem? he20)
        refine sp F (p_iaddr rfl rfl Try.underlying27 Try.sz_52 (by omega) (by omega)) rfl rfl fun a F => sp F (p_loadC (cs := [.int .i64 (e20.1), .int .i64 (e20.2.1), .string (bs (e20.2.2))]) rfl Try.agg_52 Try.sz_52 (fun _ h => (CA.cons (ld1 (((O.old hb20 (by simp)).trans (hc20 _ _ he20 0 _ rfl))) h) (CA.cons (ld1 (((O.old hb20 (by simp)).trans (hc20 _ _ he20 1 _ rfl))) h) (CA.cons (ld1 (((O.old hb20 (by simp)).trans (hc20 _ _ he20 2 _ rfl))) h) CA.nil))))) rfl rfl fun a F => sp F (p_move rfl) rfl rfl fun a F => so F rfl (o_call (vs := #[.agg #[.int .i64 (e20.1), .int .i64 (e20.2.1), .string (bs (e20.2.2))], .int .i64 (m)]) F Try.en_32 rfl rfl ((szOp_ok e20.1 e20.2.1 e20.2.2 m w (by omega) (by omega) (by omega)).mono ?_))
        rintro e w ⟨q23, rfl, h23a, K⟩
        refine ⟨_, rfl, fun a F => ?_⟩
        have O : Own w0 [] [] w := O.call0 K
        clear K
        have O : Own w0 [] [] w := O
        refine sp F (p_assign rfl) rfl rfl fun a F => c_nil (hK10 _ _ (?_))
        try clear hK10 K10
        refine c_seq fun K11 hK11 => c_region (sp F (p_move rfl) rfl rfl fun a F => sp F (p_lss rfl rfl) rfl rfl fun a F => c_nil (hK11 _ _ (?_)))
        try clear hK11 K11
        by_cases c25 : q23 < 0
        · have F := F.setB (d := 25) rfl (decide_eq_true c25)
          refine c_ift F rfl (c_seq fun K12 hK12 => c_region (sp F (p_assign rfl) rfl rfl fun a F => c_nil (hK12 _ _ (?_))))
          try clear hK12 K12
          refine wp_ret (r_block (r_then (r_then (r_block (r_then (ret1 F rfl rfl (?_)))))))
          exact ⟨(-1), congrArg Ending.returned (show Value.int .i64 (-1) = .int .i64 ((-1)) from by first | exact vint (by omega) | exact vint (by simp; done)), by first | assumption | omega, O⟩
        · have F := F.setB (d := 25) rfl (decide_eq_false c25)
          refine c_iff F rfl (wp_skip (hK9 _ _ (?_)))
          try clear hK9 K9
          refine c_region (sp F (p_move rfl) rfl rfl fun a F => sp F (p_add rfl rfl (by omega) (by omega)) rfl rfl fun a F => sp F (p_assign rfl) rfl rfl fun a F => c_nil (?_))
          try rw [← hp20] at F
          try rw [← hp20] at O
          have F : Has 27 [(0, .slice A n c), (11, .bool false), (5, .int .i64 (k + 1)), (1, .int .i64 (q23))] a := F.pick ⟨rfl, rfl, rfl, rfl, trivial⟩
          exact ⟨((n : Int) - (k + 1)).toNat, by omega, (k + 1), q23, rfl, F, O, by first | assumption | omega, by first | assumption | omega, by first | assumption | omega, by rw [tsz_step hi0a he20]; omega, by first | assumption | omega⟩
      · have F := F.setB (d := 15) rfl (decide_eq_false c15)
        refine c_iff F rfl (wp_exit (e_then (e_then (e_here (hK5 _ _ (?_))))))
        try clear hK5 K5
        refine c_seq fun K9 hK9 => ?_
        have htk : es.take k.toNat = es := take_all (by omega)
        rw [htk] at hi0d
        refine c_region (sp F (p_move rfl) rfl rfl fun a F => sp F (p_assign rfl) rfl rfl fun a F => c_nil (hK9 _ _ (?_)))
        try clear hK9 K9
        refine wp_ret (ret1 F rfl rfl (?_))
        exact ⟨m, rfl, by first | assumption | omega, O⟩

set_option maxRecDepth 100000 in
/-- laws.toOpS -/
theorem toOpS_ok (A : Option Addr) (n : Nat) (c : Nat) (es : List (Int × Int × List UInt8)) (w0 : World) (hA : Arr w0 encOp 3 A es) (hn : (n : Int) = es.length) (hb : (n : Int) ≤ 1048600) :
    Calls Try.prog 16 #[.slice A n c] w0 fun e w => ∃ (b : Nat), ∃ (N : Nat), e = .returned (.slice (some ⟨b, 0, none⟩) N N) ∧ ((N : Int) = es.length) ∧ Own w0 [] [.row 43 3 (.slice (some ⟨b, 0, none⟩) N N) N (es.flatMap encOp)] w := by
  have O := Own.start w0
  refine enterO (n := 23) Try.func16 rfl rfl rfl O fun a w F O => ?_
  refine c_seq fun K1 hK1 => c_region (sp F (p_assign rfl) rfl rfl fun a F => c_nil (hK1 _ _ (?_)))
  try clear hK1 K1
  refine c_seq fun K2 hK2 => c_region (sp F (p_move rfl) rfl rfl fun a F => sp F (p_len_l rfl Try.underlying27) rfl rfl fun a F => so F rfl (o_make (enc := encOp) (e0 := (0, 0, [])) F O rfl rfl Try.underlying23 Try.elem_43 Try.zero_43 encOp_len (by decide) (by omega) (by omega) rfl rfl fun b7 w O a F => ?_))
  have O : Own w0 [] [.row 43 3 (.slice (some ⟨b7, 0, none⟩) (((n : Int) : Int).toNat) (((n : Int) : Int).toNat)) (((n : Int) : Int).toNat) ((List.replicate (((n : Int) : Int).toNat) (0, 0, [])).flatMap encOp)] w := O
  refine sp F (p_assign rfl) rfl rfl fun a F => c_nil (hK2 _ _ (?_))
  try clear hK2 K2
  refine c_seq fun K3 hK3 => c_seq fun K4 hK4 => c_region (sp F (p_assign rfl) rfl rfl fun a F => c_nil (hK4 _ _ (?_)))
  try clear hK4 K4
  refine wp_block (?_)
  refine c_loop (fun mm a w => ∃ (k : Int), ∃ (es1 : List (Int × Int × List UInt8)), mm = ((n : Int) - k).toNat ∧ Has 23 [(0, .slice A n c), (2, .slice none 0 0), (3, .slice (some ⟨b7, 0, none⟩) (((n : Int) : Int).toNat) (((n : Int) : Int).toNat)), (4, .int .i64 (k))] a ∧ Own w0 [] [.row 43 3 (.slice (some ⟨b7, 0, none⟩) (((n : Int) : Int).toNat) (((n : Int) : Int).toNat)) (((n : Int) : Int).toNat) (es1.flatMap encOp)] w ∧ (0 ≤ k) ∧ (k ≤ n) ∧ ((es1.length : Int) = n) ∧ (SameTo k es1 es)) ?_ ?_
  · have F : Has 23 [(0, .slice A n c), (2, .slice none 0 0), (3, .slice (some ⟨b7, 0, none⟩) (((n : Int) : Int).toNat) (((n : Int) : Int).toNat)), (4, .int .i64 (0))] a := F.pick ⟨rfl, rfl, rfl, rfl, trivial⟩
    exact ⟨((n : Int) - 0).toNat, 0, (List.replicate (((n : Int) : Int).toNat) (0, 0, [])), rfl, F, O, by first | assumption | omega, by first | assumption | omega, by simp, by exact sameTo_zero⟩
  · rintro mm a w ⟨k, es1, rfl, F, O, hi0a, hi0b, hi0c, hi0d⟩
    refine c_seq fun K5 hK5 => c_seq fun K6 hK6 => c_region (sp F (p_move rfl) rfl rfl fun a F => sp F (p_move rfl) rfl rfl fun a F => sp F (p_len_l rfl Try.underlying27) rfl rfl fun a F => sp F (p_lss rfl rfl) rfl rfl fun a F => c_nil (hK6 _ _ (?_)))
    try clear hK6 K6
    by_cases c11 : k < (n : Int)
    · have F := F.setB (d := 11) rfl (decide_eq_true c11)
      refine c_ift F rfl (wp_skip (hK5 _ _ (?_)))
      try clear hK5 K5
      refine c_seq fun K7 hK7 => wp_block (c_region (sp F (p_move rfl) rfl rfl fun a F => sp F (p_move rfl) rfl rfl fun a F => sp F (p_move rfl) rfl rfl fun a F => sp F (p_move rfl) rfl rfl fun a F => ?_))
      obtain ⟨b18, o18, hp18, hb18, hc18⟩ := Arr.out hA (by omega)
      have hA18 := hA; rw [hp18] at hA18 F
      obtain ⟨e18, he18⟩ := get_some (l := es) (i := k) (by omega) (by first | omega | (simp; omega))
      refine sp F (p_iaddr rfl rfl Try.underlying27 Try.sz_52 (by omega) (by omega)) rfl rfl fun a F => sp F (p_loadC (cs := [.int .i64 (e18.1), .int .i64 (e18.2.1), .string (bs (e18.2.2))]) rfl Try.agg_52 Try.sz_52 (fun _ h => (CA.cons (ld1 (((O.old hb18 (by simp)).trans (hc18 _ _ he18 0 _ rfl))) h) (CA.cons (ld1 (((O.old hb18 (by simp)).trans (hc18 _ _ he18 1 _ rfl))) h) (CA.cons (ld1 (((O.old hb18 (by simp)).trans (hc18 _ _ he18 2 _ rfl))) h) CA.nil))))) rfl rfl fun a F => so F rfl (o_call (vs := #[.agg #[.int .i64 (e18.1), .int .i64 (e18.2.1), .string (bs (e18.2.2))]]) F Try.en_33 rfl rfl ((toOp_ok e18.1 e18.2.1 e18.2.2 w).mono ?_))
      rintro e w ⟨rfl, K⟩
      refine ⟨_, rfl, fun a F => ?_⟩
      have O : Own w0 [] [.row 43 3 (.slice (some ⟨b7, 0, none⟩) (((n : Int) : Int).toNat) (((n : Int) : Int).toNat)) (((n : Int) : Int).toNat) (es1.flatMap encOp)] w := O.call0 K
      clear K
      have O : Own w0 [] [.row 43 3 (.slice (some ⟨b7, 0, none⟩) (((n : Int) : Int).toNat) (((n : Int) : Int).toNat)) (((n : Int) : Int).toNat) (es1.flatMap encOp)] w := O
      obtain ⟨e21, he21⟩ := get_some (l := es1) (i := k) (by omega) (by first | omega | (simp; omega))
      refine sp F (p_iaddr rfl rfl Try.underlying23 Try.sz_43 (by omega) (by omega)) rfl rfl fun a F => so F rfl (o_storeRowA (vs := [.int .i64 (e18.1), .int .i64 (e18.2.1), .string (bs (e18.2.2))]) F O rfl rfl Try.sz_43 (by simp [Value.oneCell']) 0 rfl (by rw [flat_len encOp_len]; simp only [List.length_cons, List.length_nil]; first | omega | (simp; omega)) fun w O => ?_)
      have hst : (es1.flatMap encOp).take (0 + (k : Int).toNat * 3) ++ [.int .i64 (e18.1), .int .i64 (e18.2.1), .string (bs (e18.2.2))] ++ (es1.flatMap encOp).drop (0 + (k : Int).toNat * 3 + [(.int .i64 (e18.1) : Value), (.int .i64 (e18.2.1) : Value), (.string (bs (e18.2.2)) : Value)].length) = (es1.set (k : Int).toNat (e18.1, e18.2.1, e18.2.2)).flatMap encOp := flat_setA encOp_len (by first | omega | (simp; omega)) rfl
      have O := O.setR 0 rfl (congrArg (Res.row 43 3 (.slice (some ⟨b7, 0, none⟩) (((n : Int) : Int).toNat) (((n : Int) : Int).toNat)) (((n : Int) : Int).toNat)) hst)
      have O : Own w0 [] [.row 43 3 (.slice (some ⟨b7, 0, none⟩) (((n : Int) : Int).toNat) (((n : Int) : Int).toNat)) (((n : Int) : Int).toNat) ((es1.set (k : Int).toNat (e18.1, e18.2.1, e18.2.2)).flatMap encOp)] w := O
      refine c_nil (hK7 _ _ (?_))
      try clear hK7 K7
      refine c_region (sp F (p_move rfl) rfl rfl fun a F => sp F (p_add rfl rfl (by omega) (by omega)) rfl rfl fun a F => sp F (p_assign rfl) rfl rfl fun a F => c_nil (?_))
      try rw [← hp18] at F
      try rw [← hp18] at O
      have F : Has 23 [(0, .slice A n c), (2, .slice none 0 0), (3, .slice (some ⟨b7, 0, none⟩) (((n : Int) : Int).toNat) (((n : Int) : Int).toNat)), (4, .int .i64 (k + 1))] a := F.pick ⟨rfl, rfl, rfl, rfl, trivial⟩
      exact ⟨((n : Int) - (k + 1)).toNat, by omega, (k + 1), (es1.set (k : Int).toNat (e18.1, e18.2.1, e18.2.2)), rfl, F, O, by first | assumption | omega, by first | assumption | omega, by simp; omega, by exact sameTo_set hi0d hi0a he18 (by omega)⟩
    · have F := F.setB (d := 11) rfl (decide_eq_false c11)
      refine c_iff F rfl (wp_exit (e_then (e_then (e_here (hK3 _ _ (?_))))))
      try clear hK3 K3
      refine c_seq fun K7 hK7 => ?_
      obtain rfl : es = es1 := (same_ext hi0d (by omega) (by omega)).symm
      refine c_region (sp F (p_move rfl) rfl rfl fun a F => sp F (p_assign rfl) rfl rfl fun a F => c_nil (hK7 _ _ (?_)))
      try clear hK7 K7
      refine wp_ret (ret1 F rfl rfl (?_))
      exact ⟨b7, (((n : Int) : Int).toNat), rfl, by first | assumption | omega, O⟩

set_option maxRecDepth 100000 in
/-- laws.eqOpS -/
theorem eqOpS_ok (A : Option Addr) (n : Nat) (c : Nat) (es : List (Int × Int × List UInt8)) (A2 : Option Addr) (n2 : Nat) (c2 : Nat) (es2 : List (Int × Int × List UInt8)) (w0 : World) (hA : Arr w0 encOp 3 A es) (hn : (n : Int) = es.length) (hb : (n : Int) ≤ 1048600) (hA2 : Arr w0 encOp 3 A2 es2) (hn2 : (n2 : Int) = es2.length) (hb2 : (n2 : Int) ≤ 1048600) :
    Calls Try.prog 17 #[.slice A n c, .slice A2 n2 c2] w0 fun e w => e = .returned (.bool (decide (es = es2))) ∧ Own w0 [] [] w := by
  have O := Own.start w0
  refine enterO (n := 27) Try.func17 rfl rfl rfl O fun a w F O => ?_
  refine c_seq fun K1 hK1 => c_region (sp F (p_assign rfl) rfl rfl fun a F => c_nil (hK1 _ _ (?_)))
  try clear hK1 K1
  refine c_seq fun K2 hK2 => c_seq fun K3 hK3 => c_region (sp F (p_move rfl) rfl rfl fun a F => sp F (p_len_l rfl Try.underlying23) rfl rfl fun a F => sp F (p_move rfl) rfl rfl fun a F => sp F (p_len_l rfl Try.underlying23) rfl rfl fun a F => sp F (p_neq rfl rfl) rfl rfl fun a F => c_nil (hK3 _ _ (?_)))
  try clear hK3 K3
  by_cases c10 : (n : Int) = (n2 : Int)
  · have F := F.setB (d := 10) rfl (decide_eq_false (fun h => h c10))
    refine c_iff F rfl (wp_skip (hK2 _ _ (?_)))
    try clear hK2 K2
    refine c_seq fun K4 hK4 => c_seq fun K5 hK5 => c_region (sp F (p_assign rfl) rfl rfl fun a F => c_nil (hK5 _ _ (?_)))
    try clear hK5 K5
    refine wp_block (?_)
    refine c_loop (fun mm a w => ∃ (k : Int), mm = ((n : Int) - k).toNat ∧ Has 27 [(0, .slice A n c), (1, .slice A2 n2 c2), (10, .bool false), (5, .int .i64 (k))] a ∧ Own w0 [] [] w ∧ (0 ≤ k) ∧ (k ≤ n) ∧ (SameTo k es es2)) ?_ ?_
    · have F : Has 27 [(0, .slice A n c), (1, .slice A2 n2 c2), (10, .bool false), (5, .int .i64 (0))] a := F.pick ⟨rfl, rfl, rfl, rfl, trivial⟩
      exact ⟨((n : Int) - 0).toNat, 0, rfl, F, O, by first | assumption | omega, by first | assumption | omega, by exact sameTo_zero⟩
    · rintro mm a w ⟨k, rfl, F, O, hi0a, hi0b, hi0c⟩
      refine c_seq fun K6 hK6 => c_seq fun K7 hK7 => c_region (sp F (p_move rfl) rfl rfl fun a F => sp F (p_move rfl) rfl rfl fun a F => sp F (p_len_l rfl Try.underlying23) rfl rfl fun a F => sp F (p_lss rfl rfl) rfl rfl fun a F => c_nil (hK7 _ _ (?_)))
      try clear hK7 K7
      by_cases c14 : k < (n : Int)
      · have F := F.setB (d := 14) rfl (decide_eq_true c14)
        refine c_ift F rfl (wp_skip (hK6 _ _ (?_)))
        try clear hK6 K6
        refine c_seq fun K8 hK8 => wp_block (c_seq fun K9 hK9 => ?_)
        obtain ⟨b19, o19, hp19, hb19, hc19⟩ := Arr.out hA (by omega)
        have hA19 := hA; rw [hp19] at hA19 F
        obtain ⟨e19, he19⟩ := get_some (l := es) (i := k) (by omega) (by first | omega | (simp; omega))
        obtain ⟨b23, o23, hp23, hb23, hc23⟩ := Arr.out hA2 (by omega)
        have hA23 := hA2; rw [hp23] at hA23 F
        obtain ⟨e23, he23⟩ := get_some (l := es2) (i := k) (by omega) (by first | omega | (simp; omega))
        by_cases cc1 : e19.1 = e23.1 ∧ e19.2.1 = e23.2.1 ∧ e19.2.2 = e23.2.2
        · refine c_draw Try.mixed (SC [(b19, o19 + (k : Int).toNat * 3, .int .i64 (e19.1)), (b19, o19 + (k : Int).toNat * 3 + 1, .int .i64 (e19.2.1)), (b19, o19 + (k : Int).toNat * 3 + 2, .string (bs (e19.2.2))), (b23, o23 + (k : Int).toNat * 3, .int .i64 (e23.1)), (b23, o23 + (k : Int).toNat * 3 + 1, .int .i64 (e23.2.1)), (b23, o23 + (k : Int).toNat * 3 + 2, .string (bs (e23.2.2)))]) [] _ (fun a w h => h) ?_
          have O := O.drawn (w.drawn + 1)
          generalize { w with drawn := w.drawn + 1 } = w at O ⊢
          have hS : SC [(b19, o19 + (k : Int).toNat * 3, .int .i64 (e19.1)), (b19, o19 + (k : Int).toNat * 3 + 1, .int .i64 (e19.2.1)), (b19, o19 + (k : Int).toNat * 3 + 2, .string (bs (e19.2.2))), (b23, o23 + (k : Int).toNat * 3, .int .i64 (e23.1)), (b23, o23 + (k : Int).toNat * 3 + 1, .int .i64 (e23.2.1)), (b23, o23 + (k : Int).toNat * 3 + 2, .string (bs (e23.2.2)))] w := (SC.cons (((O.old hb19 (by simp)).trans (hc19 _ _ he19 0 _ rfl))) (SC.cons (((O.old hb19 (by simp)).trans (hc19 _ _ he19 1 _ rfl))) (SC.cons (((O.old hb19 (by simp)).trans (hc19 _ _ he19 2 _ rfl))) (SC.cons (((O.old hb23 (by simp)).trans (hc23 _ _ he23 0 _ rfl))) (SC.cons (((O.old hb23 (by simp)).trans (hc23 _ _ he23 1 _ rfl))) (SC.cons (((O.old hb23 (by simp)).trans (hc23 _ _ he23 2 _ rfl))) SC.nil))))))
          refine d_take 0 rfl (by kernel_rfl) F (p_move rfl) rfl rfl hS fun a F => d_take 1 rfl (by kernel_rfl) F (p_move rfl) rfl rfl hS fun a F => d_take 2 rfl (by kernel_rfl) F (p_iaddr rfl rfl Try.underlying23 Try.sz_43 (by omega) (by omega)) rfl rfl hS fun a F => d_take 3 rfl (by kernel_rfl) F (p_loadC (cs := [.int .i64 (e19.1), .int .i64 (e19.2.1), .string (bs (e19.2.2))]) rfl Try.agg_43 Try.sz_43 (fun _ h => (CA.cons (SC.get h 0 rfl) (CA.cons (SC.get h 1 rfl) (CA.cons (SC.get h 2 rfl) CA.nil))))) rfl rfl hS fun a F => d_take 4 rfl (by kernel_rfl) F (p_move rfl) rfl rfl hS fun a F => d_take 5 rfl (by kernel_rfl) F (p_move rfl) rfl rfl hS fun a F => d_take 6 rfl (by kernel_rfl) F (p_iaddr rfl rfl Try.underlying23 Try.sz_43 (by omega) (by omega)) rfl rfl hS fun a F => d_take 7 rfl (by kernel_rfl) F (p_loadC (cs := [.int .i64 (e23.1), .int .i64 (e23.2.1), .string (bs (e23.2.2))]) rfl Try.agg_43 Try.sz_43 (fun _ h => (CA.cons (SC.get h 3 rfl) (CA.cons (SC.get h 4 rfl) (CA.cons (SC.get h 5 rfl) CA.nil))))) rfl rfl hS fun a F => d_one 8 (by kernel_rfl) (d_op rfl F rfl (o_call (vs := #[.agg #[.int .i64 (e19.1), .int .i64 (e19.2.1), .string (bs (e19.2.2))], .agg #[.int .i64 (e23.1), .int .i64 (e23.2.1), .string (bs (e23.2.2))]]) F Try.en_34 rfl rfl ((eqOp_ok e19.1 e19.2.1 e19.2.2 e23.1 e23.2.1 e23.2.2 w).mono ?_)))
          rintro e w ⟨rfl, K⟩
          refine ⟨_, rfl, fun a F => ?_⟩
          have O : Own w0 [] [] w := O.call0 K
          clear K
          have F := F.setB (d := 25) rfl (decide_eq_true cc1)
          have O : Own w0 [] [] w := O
          refine ⟨fun _ => (SC.cons (((O.old hb19 (by simp)).trans (hc19 _ _ he19 0 _ rfl))) (SC.cons (((O.old hb19 (by simp)).trans (hc19 _ _ he19 1 _ rfl))) (SC.cons (((O.old hb19 (by simp)).trans (hc19 _ _ he19 2 _ rfl))) (SC.cons (((O.old hb23 (by simp)).trans (hc23 _ _ he23 0 _ rfl))) (SC.cons (((O.old hb23 (by simp)).trans (hc23 _ _ he23 1 _ rfl))) (SC.cons (((O.old hb23 (by simp)).trans (hc23 _ _ he23 2 _ rfl))) SC.nil)))))), ?_⟩
          have hS : SC [(b19, o19 + (k : Int).toNat * 3, .int .i64 (e19.1)), (b19, o19 + (k : Int).toNat * 3 + 1, .int .i64 (e19.2.1)), (b19, o19 + (k : Int).toNat * 3 + 2, .string (bs (e19.2.2))), (b23, o23 + (k : Int).toNat * 3, .int .i64 (e23.1)), (b23, o23 + (k : Int).toNat * 3 + 1, .int .i64 (e23.2.1)), (b23, o23 + (k : Int).toNat * 3 + 2, .string (bs (e23.2.2)))] w := (SC.cons (((O.old hb19 (by simp)).trans (hc19 _ _ he19 0 _ rfl))) (SC.cons (((O.old hb19 (by simp)).trans (hc19 _ _ he19 1 _ rfl))) (SC.cons (((O.old hb19 (by simp)).trans (hc19 _ _ he19 2 _ rfl))) (SC.cons (((O.old hb23 (by simp)).trans (hc23 _ _ he23 0 _ rfl))) (SC.cons (((O.old hb23 (by simp)).trans (hc23 _ _ he23 1 _ rfl))) (SC.cons (((O.old hb23 (by simp)).trans (hc23 _ _ he23 2 _ rfl))) SC.nil))))))
          refine d_take 9 rfl (by kernel_rfl) F (p_not rfl) rfl rfl hS fun a F => d_done (by kernel_rfl) (hK9 _ _ (?_))
          try clear hK9 K9
          refine c_iff F rfl (wp_skip (hK8 _ _ (?_)))
          try clear hK8 K8
          refine c_region (sp F (p_move rfl) rfl rfl fun a F => sp F (p_add rfl rfl (by omega) (by omega)) rfl rfl fun a F => sp F (p_assign rfl) rfl rfl fun a F => c_nil (?_))
          try rw [← hp23] at F
          try rw [← hp23] at O
          try rw [← hp19] at F
          try rw [← hp19] at O
          have F : Has 27 [(0, .slice A n c), (1, .slice A2 n2 c2), (10, .bool false), (5, .int .i64 (k + 1))] a := F.pick ⟨rfl, rfl, rfl, rfl, trivial⟩
          exact ⟨((n : Int) - (k + 1)).toNat, by omega, (k + 1), rfl, F, O, by first | assumption | omega, by first | assumption | omega, by exact sameTo_step hi0c hi0a he19 he23 (Prod.ext (by omega) (Prod.ext (by omega) (by first | exact cc1.2.2 | simp_all)))⟩
        · refine c_draw Try.mixed (SC [(b19, o19 + (k : Int).toNat * 3, .int .i64 (e19.1)), (b19, o19 + (k : Int).toNat * 3 + 1, .int .i64 (e19.2.1)), (b19, o19 + (k : Int).toNat * 3 + 2, .string (bs (e19.2.2))), (b23, o23 + (k : Int).toNat * 3, .int .i64 (e23.1)), (b23, o23 + (k : Int).toNat * 3 + 1, .int .i64 (e23.2.1)), (b23, o23 + (k : Int).toNat * 3 + 2, .string (bs (e23.2.2)))]) [] _ (fun a w h => h) ?_
          have O := O.drawn (w.drawn + 1)
          generalize { w with drawn := w.drawn + 1 } = w at O ⊢
          have hS : SC [(b19, o19 + (k : Int).toNat * 3, .int .i64 (e19.1)), (b19, o19 + (k : Int).toNat * 3 + 1, .int .i64 (e19.2.1)), (b19, o19 + (k : Int).toNat * 3 + 2, .string (bs (e19.2.2))), (b23, o23 + (k : Int).toNat * 3, .int .i64 (e23.1)), (b23, o23 + (k : Int).toNat * 3 + 1, .int .i64 (e23.2.1)), (b23, o23 + (k : Int).toNat * 3 + 2, .string (bs (e23.2.2)))] w := (SC.cons (((O.old hb19 (by simp)).trans (hc19 _ _ he19 0 _ rfl))) (SC.cons (((O.old hb19 (by simp)).trans (hc19 _ _ he19 1 _ rfl))) (SC.cons (((O.old hb19 (by simp)).trans (hc19 _ _ he19 2 _ rfl))) (SC.cons (((O.old hb23 (by simp)).trans (hc23 _ _ he23 0 _ rfl))) (SC.cons (((O.old hb23 (by simp)).trans (hc23 _ _ he23 1 _ rfl))) (SC.cons (((O.old hb23 (by simp)).trans (hc23 _ _ he23 2 _ rfl))) SC.nil))))))
          refine d_take 0 rfl (by kernel_rfl) F (p_move rfl) rfl rfl hS fun a F => d_take 1 rfl (by kernel_rfl) F (p_move rfl) rfl rfl hS fun a F => d_take 2 rfl (by kernel_rfl) F (p_iaddr rfl rfl Try.underlying23 Try.sz_43 (by omega) (by omega)) rfl rfl hS fun a F => d_take 3 rfl (by kernel_rfl) F (p_loadC (cs := [.int .i64 (e19.1), .int .i64 (e19.2.1), .string (bs (e19.2.2))]) rfl Try.agg_43 Try.sz_43 (fun _ h => (CA.cons (SC.get h 0 rfl) (CA.cons (SC.get h 1 rfl) (CA.cons (SC.get h 2 rfl) CA.nil))))) rfl rfl hS fun a F => d_take 4 rfl (by kernel_rfl) F (p_move rfl) rfl rfl hS fun a F => d_take 5 rfl (by kernel_rfl) F (p_move rfl) rfl rfl hS fun a F => d_take 6 rfl (by kernel_rfl) F (p_iaddr rfl rfl Try.underlying23 Try.sz_43 (by omega) (by omega)) rfl rfl hS fun a F => d_take 7 rfl (by kernel_rfl) F (p_loadC (cs := [.int .i64 (e23.1), .int .i64 (e23.2.1), .string (bs (e23.2.2))]) rfl Try.agg_43 Try.sz_43 (fun _ h => (CA.cons (SC.get h 3 rfl) (CA.cons (SC.get h 4 rfl) (CA.cons (SC.get h 5 rfl) CA.nil))))) rfl rfl hS fun a F => d_one 8 (by kernel_rfl) (d_op rfl F rfl (o_call (vs := #[.agg #[.int .i64 (e19.1), .int .i64 (e19.2.1), .string (bs (e19.2.2))], .agg #[.int .i64 (e23.1), .int .i64 (e23.2.1), .string (bs (e23.2.2))]]) F Try.en_34 rfl rfl ((eqOp_ok e19.1 e19.2.1 e19.2.2 e23.1 e23.2.1 e23.2.2 w).mono ?_)))
          rintro e w ⟨rfl, K⟩
          refine ⟨_, rfl, fun a F => ?_⟩
          have O : Own w0 [] [] w := O.call0 K
          clear K
          have F := F.setB (d := 25) rfl (decide_eq_false cc1)
          have O : Own w0 [] [] w := O
          refine ⟨fun _ => (SC.cons (((O.old hb19 (by simp)).trans (hc19 _ _ he19 0 _ rfl))) (SC.cons (((O.old hb19 (by simp)).trans (hc19 _ _ he19 1 _ rfl))) (SC.cons (((O.old hb19 (by simp)).trans (hc19 _ _ he19 2 _ rfl))) (SC.cons (((O.old hb23 (by simp)).trans (hc23 _ _ he23 0 _ rfl))) (SC.cons (((O.old hb23 (by simp)).trans (hc23 _ _ he23 1 _ rfl))) (SC.cons (((O.old hb23 (by simp)).trans (hc23 _ _ he23 2 _ rfl))) SC.nil)))))), ?_⟩
          have hS : SC [(b19, o19 + (k : Int).toNat * 3, .int .i64 (e19.1)), (b19, o19 + (k : Int).toNat * 3 + 1, .int .i64 (e19.2.1)), (b19, o19 + (k : Int).toNat * 3 + 2, .string (bs (e19.2.2))), (b23, o23 + (k : Int).toNat * 3, .int .i64 (e23.1)), (b23, o23 + (k : Int).toNat * 3 + 1, .int .i64 (e23.2.1)), (b23, o23 + (k : Int).toNat * 3 + 2, .string (bs (e23.2.2)))] w := (SC.cons (((O.old hb19 (by simp)).trans (hc19 _ _ he19 0 _ rfl))) (SC.cons (((O.old hb19 (by simp)).trans (hc19 _ _ he19 1 _ rfl))) (SC.cons (((O.old hb19 (by simp)).trans (hc19 _ _ he19 2 _ rfl))) (SC.cons (((O.old hb23 (by simp)).trans (hc23 _ _ he23 0 _ rfl))) (SC.cons (((O.old hb23 (by simp)).trans (hc23 _ _ he23 1 _ rfl))) (SC.cons (((O.old hb23 (by simp)).trans (hc23 _ _ he23 2 _ rfl))) SC.nil))))))
          refine d_take 9 rfl (by kernel_rfl) F (p_not rfl) rfl rfl hS fun a F => d_done (by kernel_rfl) (hK9 _ _ (?_))
          try clear hK9 K9
          refine c_ift F rfl (c_seq fun K10 hK10 => c_region (sp F (p_assign rfl) rfl rfl fun a F => c_nil (hK10 _ _ (?_))))
          try clear hK10 K10
          refine wp_ret (r_block (r_then (r_then (r_block (r_then (ret1 F rfl rfl (?_)))))))
          exact ⟨congrArg Ending.returned (show Value.bool false = .bool (decide (es = es2)) from by exact vbf (fun h => by subst h; first | omega | (rw [he19] at he23; injection he23 with h9; subst h9; simp_all))), O⟩
      · have F := F.setB (d := 14) rfl (decide_eq_false c14)
        refine c_iff F rfl (wp_exit (e_then (e_then (e_here (hK4 _ _ (?_))))))
        try clear hK4 K4
        refine c_seq fun K8 hK8 => c_region (sp F (p_assign rfl) rfl rfl fun a F => c_nil (hK8 _ _ (?_)))
        try clear hK8 K8
        refine wp_ret (ret1 F rfl rfl (?_))
        exact ⟨congrArg Ending.returned (show Value.bool true = .bool (decide (es = es2)) from by exact vbt (same_ext hi0c (by omega) (by omega))), O⟩
  · have F := F.setB (d := 10) rfl (decide_eq_true c10)
    refine c_ift F rfl (c_seq fun K4 hK4 => c_region (sp F (p_assign rfl) rfl rfl fun a F => c_nil (hK4 _ _ (?_))))
    try clear hK4 K4
    refine wp_ret (r_then (ret1 F rfl rfl (?_)))
    exact ⟨congrArg Ending.returned (show Value.bool false = .bool (decide (es = es2)) from by exact vbf (fun h => by subst h; first | omega | (rw [he19] at he23; injection he23 with h9; subst h9; simp_all))), O⟩

set_option maxRecDepth 100000 in
/-- spec.DeltaSize -/
theorem sDeltaSize_ok (A : Option Addr) (n : Nat) (c : Nat) (es : List (Int × Int × List UInt8)) (w0 : World) (hA : Arr w0 encOp 3 A es) (hn : (n : Int) = es.length) (hb : (n : Int) ≤ 1048600) (hs : tsz es ≤ 4000000) :
    Calls Try.prog 14 #[.slice A n c] w0 fun e w => e = .returned (.int .i64 ((es.length : Int) + tsz es)) ∧ Own w0 [] [] w := by
  have O := Own.start w0
  refine enterO (n := 21) Try.func14 rfl rfl rfl O fun a w F O => ?_
  refine c_seq fun K1 hK1 => c_region (sp F (p_assign rfl) rfl rfl fun a F => c_nil (hK1 _ _ (?_)))
  try clear hK1 K1
  refine c_seq fun K2 hK2 => c_region (sp F (p_assign rfl) rfl rfl fun a F => c_nil (hK2 _ _ (?_)))
  try clear hK2 K2
  refine c_seq fun K3 hK3 => c_seq fun K4 hK4 => c_region (sp F (p_assign rfl) rfl rfl fun a F => c_nil (hK4 _ _ (?_)))
  try clear hK4 K4
  refine wp_block (?_)
  refine c_loop (fun mm a w => ∃ (k : Int), ∃ (m : Int), mm = ((n : Int) - k).toNat ∧ Has 21 [(0, .slice A n c), (2, .int .i64 (0)), (4, .int .i64 (k)), (3, .int .i64 (m))] a ∧ Own w0 [] [] w ∧ (0 ≤ k) ∧ (k ≤ n) ∧ (m = k + tsz (es.take (k : Int).toNat))) ?_ ?_
  · have F : Has 21 [(0, .slice A n c), (2, .int .i64 (0)), (4, .int .i64 (0)), (3, .int .i64 (0))] a := F.pick ⟨rfl, rfl, rfl, rfl, trivial⟩
    exact ⟨((n : Int) - 0).toNat, 0, 0, rfl, F, O, by first | assumption | omega, by first | assumption | omega, by simp [tsz]⟩
  · rintro mm a w ⟨k, m, rfl, F, O, hi0a, hi0b, hi0c⟩
    have htl := tsz_le es k.toNat
    have htn := tsz_nonneg (es.take k.toNat)
    have htn2 := tsz_nonneg (es.take (k + 1).toNat)
    have htl2 := tsz_le es (k + 1).toNat
    refine c_seq fun K5 hK5 => c_seq fun K6 hK6 => c_region (sp F (p_move rfl) rfl rfl fun a F => sp F (p_move rfl) rfl rfl fun a F => sp F (p_len_l rfl Try.underlying23) rfl rfl fun a F => sp F (p_lss rfl rfl) rfl rfl fun a F => c_nil (hK6 _ _ (?_)))
    try clear hK6 K6
    by_cases c8 : k < (n : Int)
    · have F := F.setB (d := 8) rfl (decide_eq_true c8)
      refine c_ift F rfl (wp_skip (hK5 _ _ (?_)))
      try clear hK5 K5
      refine c_seq fun K7 hK7 => wp_block (c_region (sp F (p_move rfl) rfl rfl fun a F => sp F (p_add rfl rfl (by omega) (by omega)) rfl rfl fun a F => sp F (p_move rfl) rfl rfl fun a F => sp F (p_move rfl) rfl rfl fun a F => ?_))
      obtain ⟨b15, o15, hp15, hb15, hc15⟩ := Arr.out hA (by omega)
      have hA15 := hA; rw [hp15] at hA15 F
      obtain ⟨e15, he15⟩ := get_some (l := es) (i := k) (by omega) (by first | omega | (simp; omega))
      have hts := tsz_step hi0a he15
      have hlen0 : 0 ≤ (e15.2.2.length : Int) := by omega
      refine sp F (p_iaddr rfl rfl Try.underlying23 Try.sz_43 (by omega) (by omega)) rfl rfl fun a F => sp F (p_faddr rfl Try.foff_43_2) rfl rfl fun a F => sp F (p_load rfl Try.agg_9 (fun _ h => (ld1 (((O.old hb15 (by simp)).trans (hc15 _ _ he15 2 _ rfl))) h))) rfl rfl fun a F => sp F (p_len_b rfl Try.underlying9) rfl rfl fun a F => sp F (p_add rfl rfl (by omega) (by omega)) rfl rfl fun a F => sp F (p_assign rfl) rfl rfl fun a F => c_nil (hK7 _ _ (?_))
      try clear hK7 K7
      refine c_region (sp F (p_move rfl) rfl rfl fun a F => sp F (p_add rfl rfl (by omega) (by omega)) rfl rfl fun a F => sp F (p_assign rfl) rfl rfl fun a F => c_nil (?_))
      try rw [← hp15] at F
      try rw [← hp15] at O
      have F : Has 21 [(0, .slice A n c), (2, .int .i64 (0)), (4, .int .i64 (k + 1)), (3, .int .i64 ((m + 1) + (e15.2.2.length : Int)))] a := F.pick ⟨rfl, rfl, rfl, rfl, trivial⟩
      exact ⟨((n : Int) - (k + 1)).toNat, by omega, (k + 1), ((m + 1) + (e15.2.2.length : Int)), rfl, F, O, by first | assumption | omega, by first | assumption | omega, by rw [tsz_step hi0a he15]; omega⟩
    · have F := F.setB (d := 8) rfl (decide_eq_false c8)
      refine c_iff F rfl (wp_exit (e_then (e_then (e_here (hK3 _ _ (?_))))))
      try clear hK3 K3
      refine c_seq fun K7 hK7 => c_region (sp F (p_move rfl) rfl rfl fun a F => sp F (p_assign rfl) rfl rfl fun a F => c_nil (hK7 _ _ (?_)))
      try clear hK7 K7
      refine wp_ret (ret1 F rfl rfl (?_))
      exact ⟨congrArg Ending.returned (show Value.int .i64 (m) = .int .i64 ((es.length : Int) + tsz es) from by exact vint (by rw [hi0c, take_all (by omega)]; omega)), O⟩

set_option maxRecDepth 100000 in
/-- impl.DeltaSize -/
theorem iDeltaSize_ok (A : Option Addr) (n : Nat) (c : Nat) (es : List (Int × Int × List UInt8)) (w0 : World) (hA : Arr w0 encOp 3 A es) (hn : (n : Int) = es.length) (hb : (n : Int) ≤ 1048600) (hs : tsz es ≤ 4000000) :
    Calls Try.prog 13 #[.slice A n c] w0 fun e w => e = .returned (.int .i64 ((es.length : Int) + tsz es)) ∧ Own w0 [] [] w := by
  have O := Own.start w0
  refine enterO (n := 21) Try.func13 rfl rfl rfl O fun a w F O => ?_
  refine c_seq fun K1 hK1 => c_region (sp F (p_assign rfl) rfl rfl fun a F => c_nil (hK1 _ _ (?_)))
  try clear hK1 K1
  refine c_seq fun K2 hK2 => c_region (sp F (p_move rfl) rfl rfl fun a F => sp F (p_len_l rfl Try.underlying23) rfl rfl fun a F => sp F (p_assign rfl) rfl rfl fun a F => c_nil (hK2 _ _ (?_)))
  try clear hK2 K2
  refine c_seq fun K3 hK3 => c_seq fun K4 hK4 => c_region (sp F (p_move rfl) rfl rfl fun a F => sp F (p_len_l rfl Try.underlying23) rfl rfl fun a F => sp F (p_move rfl) rfl rfl fun a F => c_nil (hK4 _ _ (?_)))
  try clear hK4 K4
  refine wp_block (?_)
  refine c_loop (fun mm a w => ∃ (k : Int), ∃ (m : Int), mm = ((n : Int) - k).toNat ∧ Has 21 [(0, .slice A n c), (2, .int .i64 (0)), (8, .slice A n c), (9, .int .i64 ((n : Int))), (10, .int .i64 (k)), (3, .int .i64 (m))] a ∧ Own w0 [] [] w ∧ (0 ≤ k) ∧ (k ≤ n) ∧ (m = (n : Int) + tsz (es.take (k : Int).toNat))) ?_ ?_
  · have F : Has 21 [(0, .slice A n c), (2, .int .i64 (0)), (8, .slice A n c), (9, .int .i64 ((n : Int))), (10, .int .i64 (0)), (3, .int .i64 ((n : Int)))] a := F.pick ⟨rfl, rfl, rfl, rfl, rfl, rfl, trivial⟩
    exact ⟨((n : Int) - 0).toNat, 0, (n : Int), rfl, F, O, by first | assumption | omega, by first | assumption | omega, by simp [tsz]⟩
  · rintro mm a w ⟨k, m, rfl, F, O, hi0a, hi0b, hi0c⟩
    have htl := tsz_le es k.toNat
    have htn := tsz_nonneg (es.take k.toNat)
    have htn2 := tsz_nonneg (es.take (k + 1).toNat)
    have htl2 := tsz_le es (k + 1).toNat
    refine c_seq fun K5 hK5 => c_region (sp F (p_lss rfl rfl) rfl rfl fun a F => c_nil (hK5 _ _ (?_)))
    try clear hK5 K5
    refine c_seq fun K6 hK6 => ?_
    by_cases c11 : k < (n : Int)
    · have F := F.setB (d := 11) rfl (decide_eq_true c11)
      refine c_ift F rfl (wp_skip (hK6 _ _ (?_)))
      try clear hK6 K6
      refine c_seq fun K7 hK7 => wp_block (c_seq fun K8 hK8 => c_region (?_))
      obtain ⟨b12, o12, hp12, hb12, hc12⟩ := Arr.out hA (by omega)
      have hA12 := hA; rw [hp12] at hA12 F
      obtain ⟨e12, he12⟩ := get_some (l := es) (i := k) (by omega) (by first | omega | (simp; omega))
      have hts := tsz_step hi0a he12
      have hlen0 : 0 ≤ (e12.2.2.length : Int) := by omega
      refine sp F (p_iaddr rfl rfl Try.underlying23 Try.sz_43 (by omega) (by omega)) rfl rfl fun a F => sp F (p_loadC (cs := [.int .i64 (e12.1), .int .i64 (e12.2.1), .string (bs (e12.2.2))]) rfl Try.agg_43 Try.sz_43 (fun _ h => (CA.cons (ld1 (((O.old hb12 (by simp)).trans (hc12 _ _ he12 0 _ rfl))) h) (CA.cons (ld1 (((O.old hb12 (by simp)).trans (hc12 _ _ he12 1 _ rfl))) h) (CA.cons (ld1 (((O.old hb12 (by simp)).trans (hc12 _ _ he12 2 _ rfl))) h) CA.nil))))) rfl rfl fun a F => so F rfl (o_alloc F O Try.zero_43 rfl fun b5 w O a F => ?_)
      have O : Own w0 [] [.cells b5 [.int .i64 (0), .int .i64 (0), .string (bs ([]))] 43] w := O
      refine so F rfl (o_storeA (vs := [.int .i64 (e12.1), .int .i64 (e12.2.1), .string (bs (e12.2.2))]) F O rfl rfl Try.sz_43 (by simp [Value.oneCell']) 0 rfl rfl fun w O => ?_)
      have O : Own w0 [] [.cells b5 [.int .i64 (e12.1), .int .i64 (e12.2.1), .string (bs (e12.2.2))] 43] w := O
      refine c_nil (hK8 _ _ (?_))
      try clear hK8 K8
      refine c_region (sp F (p_move rfl) rfl rfl fun a F => sp F (p_faddr rfl Try.foff_43_2) rfl rfl fun a F => sp F (p_load rfl Try.agg_9 (fun _ h => (ld1 (O.load 0 rfl rfl) h))) rfl rfl fun a F => sp F (p_len_b rfl Try.underlying9) rfl rfl fun a F => sp F (p_add rfl rfl (by omega) (by omega)) rfl rfl fun a F => sp F (p_assign rfl) rfl rfl fun a F => c_nil (hK7 _ _ (?_)))
      try clear hK7 K7
      refine c_region (sp F (p_add rfl rfl (by omega) (by omega)) rfl rfl fun a F => sp F (p_move rfl) rfl rfl fun a F => c_nil (?_))
      try rw [← hp12] at F
      try rw [← hp12] at O
      have F : Has 21 [(0, .slice A n c), (2, .int .i64 (0)), (8, .slice A n c), (9, .int .i64 ((n : Int))), (10, .int .i64 (k + 1)), (3, .int .i64 (m + (e12.2.2.length : Int)))] a := F.pick ⟨rfl, rfl, rfl, rfl, rfl, rfl, trivial⟩
      have O : Own w0 [] [] w := (O.take 0)
      exact ⟨((n : Int) - (k + 1)).toNat, by omega, (k + 1), (m + (e12.2.2.length : Int)), rfl, F, O, by first | assumption | omega, by first | assumption | omega, by rw [tsz_step hi0a he12]; omega⟩
    · have F := F.setB (d := 11) rfl (decide_eq_false c11)
      refine c_iff F rfl (wp_exit (e_then (e_then (e_here (hK3 _ _ (?_))))))
      try clear hK3 K3
      refine c_seq fun K7 hK7 => c_region (sp F (p_move rfl) rfl rfl fun a F => sp F (p_assign rfl) rfl rfl fun a F => c_nil (hK7 _ _ (?_)))
      try clear hK7 K7
      refine wp_ret (ret1 F rfl rfl (?_))
      exact ⟨congrArg Ending.returned (show Value.int .i64 (m) = .int .i64 ((es.length : Int) + tsz es) from by exact vint (by rw [hi0c, take_all (by omega)]; omega)), O⟩

end Go.Proofs.Ytbhidkcljekobaa
