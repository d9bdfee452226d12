/- Contracts of marking operations and of reading the marks again. No conditions but those on lengths. -/
import Derived.Test.YtbhidkcljekobaaDelC
namespace Go.Proofs.Ytbhidkcljekobaa
open Go.ChangeShapes Go.WideShapes Go.ChangeAt Go.RowKit
set_option linter.unusedVariables false
set_option linter.unusedSimpArgs false


def digsF : Nat → Nat → List UInt8
  | 0, _ => []
  | f + 1, k => if k = 0 then [] else digsF f (k / 10) ++ [UInt8.ofNat (48 + k % 10)]
def mtext (k : Int) : List UInt8 := if k ≤ 0 then [109, 48] else [109] ++ digsF k.toNat k.toNat

def MarkO (u : Int × Int × List UInt8) (k : Int) : Prop := u.1 = k ∧ u.2.1 = k + 1 ∧ u.2.2 = mtext (k + 2)
def MarksO (es : List (Int × Int × List UInt8)) (k : Int) : Prop := ∀ (i : Nat) e, es[i]? = some e → MarkO e (k + 3 * i)
def MarksOTo (es : List (Int × Int × List UInt8)) (k j : Int) : Prop := ∀ (i : Nat) e, (i : Int) < j → es[i]? = some e → MarkO e (k + 3 * i)
section
variable {es : List (Int × Int × List UInt8)} {k j : Int}
theorem digsF_zero (f : Nat) : digsF f 0 = [] := by cases f <;> simp [digsF]
theorem digsF_step {f : Nat} {k : Int} {L R : List UInt8} (hk : 0 < k) (hf : k.toNat ≤ f) (h : digsF f k.toNat ++ L = R) : ∃ g, (k / 10 : Int).toNat ≤ g ∧ digsF g (k / 10 : Int).toNat ++ ([UInt8.ofNat (48 + k % 10 : Int).toNat] ++ L) = R := by
  obtain ⟨g, rfl⟩ : ∃ g, f = g + 1 := ⟨f - 1, by omega⟩
  refine ⟨g, by omega, ?_⟩
  rw [digsF, if_neg (by omega)] at h
  have e1 : (k / 10 : Int).toNat = k.toNat / 10 := by omega
  have e2 : (48 + k % 10 : Int).toNat = 48 + k.toNat % 10 := by omega
  rw [e1, e2, ← h, List.append_assoc]
theorem marksOTo_zero : MarksOTo es k 0 := fun i e h => by omega
theorem marksOTo_set {u : Int × Int × List UInt8} (h : MarksOTo es k j) (h0 : 0 ≤ j) (hl : j < es.length) (h1 : u.1 = k + 3 * j) (h2 : u.2.1 = k + 3 * j + 1) (h3 : u.2.2 = mtext (k + 3 * j + 2)) : MarksOTo (es.set j.toNat u) k (j + 1) := fun i e hi he => by
  by_cases hij : i = j.toNat
  · subst hij
    rw [List.getElem?_set_self (by omega)] at he
    injection he with he
    subst he
    unfold MarkO
    rw [Int.toNat_of_nonneg h0]
    exact ⟨h1, h2, h3⟩
  · rw [List.getElem?_set_ne (by omega)] at he
    exact h i e (by omega) he
theorem marksO_of (h : MarksOTo es k j) (hl : (es.length : Int) ≤ j) : MarksO es k := fun i e he => h i e (by have := (List.getElem?_eq_some_iff.1 he).1; omega) he
theorem marksO_at {i : Int} {e : Int × Int × List UInt8} (h : MarksO es k) (h0 : 0 ≤ i) (he : es[i.toNat]? = some e) : MarkO e (k + 3 * i) := by
  have := h _ _ he
  rwa [Int.toNat_of_nonneg h0] at this
theorem set_set_set {α : Type} {l : List α} {i : Nat} {x y z : α} : ((l.set i x).set i y).set i z = l.set i z := by rw [List.set_set, List.set_set]
end
set_option maxRecDepth 100000 in
/-- laws.markText -/
theorem markText_ok (k : Int) (w0 : World) (h0 : 0 ≤ k) (h1 : k ≤ 100000000) :
    Calls Try.prog 47 #[.int .i64 (k)] w0 fun e w => e = .returned (.string (bs (mtext k))) ∧ Own w0 [] [] w := by
  have O := Own.start w0
  refine enterO (n := 20) Try.func47 rfl rfl rfl O fun a w F O => ?_
  refine c_seq fun K1 hK1 => c_region (sp F (p_assign rfl) rfl rfl fun a F => c_nil (hK1 _ _ (?_)))
  try clear hK1 K1
  refine c_seq fun K2 hK2 => c_seq fun K3 hK3 => c_region (sp F (p_move rfl) rfl rfl fun a F => sp F (p_leq rfl rfl) rfl rfl fun a F => c_nil (hK3 _ _ (?_)))
  try clear hK3 K3
  by_cases c5 : k ≤ 0
  · have F := F.setB (d := 5) rfl (decide_eq_true c5)
    refine c_ift F rfl (c_seq fun K4 hK4 => c_region (sp F (p_assign rfl) rfl rfl fun a F => c_nil (hK4 _ _ (?_))))
    try clear hK4 K4
    refine wp_ret (r_then (ret1 F rfl rfl (?_)))
    exact ⟨congrArg Ending.returned (show Value.string (bs ([109, 48])) = .string (bs (mtext k)) from by exact vstr (by unfold mtext; rw [if_pos (by omega)])), O⟩
  · have F := F.setB (d := 5) rfl (decide_eq_false c5)
    refine c_iff F rfl (wp_skip (hK2 _ _ (?_)))
    try clear hK2 K2
    refine c_seq fun K4 hK4 => c_region (sp F (p_assign rfl) rfl rfl fun a F => c_nil (hK4 _ _ (?_)))
    try clear hK4 K4
    refine c_seq fun K5 hK5 => wp_block (?_)
    refine c_loop (fun mm a w => ∃ (j : Int), ∃ (L1 : List UInt8), mm = (j).toNat ∧ Has 20 [(2, .string (bs ([]))), (5, .bool false), (0, .int .i64 (j)), (3, .string (bs (L1)))] a ∧ Own w0 [] [] w ∧ (0 ≤ j) ∧ (j ≤ k) ∧ (∃ f, (j : Int).toNat ≤ f ∧ digsF f (j : Int).toNat ++ L1 = digsF k.toNat k.toNat) ∧ ((L1.length : Int) + j ≤ k)) ?_ ?_
    · have F : Has 20 [(2, .string (bs ([]))), (5, .bool false), (0, .int .i64 (k)), (3, .string (bs ([])))] a := F.pick ⟨rfl, rfl, rfl, rfl, trivial⟩
      exact ⟨(k).toNat, k, ([]), rfl, F, O, by first | assumption | omega, by first | assumption | omega, by exact ⟨k.toNat, Nat.le_refl _, by simp⟩, by simp⟩
    · rintro mm a w ⟨j, L1, rfl, F, O, hi0a, hi0b, hi0c, hi0d⟩
      refine c_seq fun K6 hK6 => c_seq fun K7 hK7 => c_region (sp F (p_move rfl) rfl rfl fun a F => sp F (p_gtr rfl rfl) rfl rfl fun a F => c_nil (hK7 _ _ (?_)))
      try clear hK7 K7
      by_cases c7 : 0 < j
      · have F := F.setB (d := 7) rfl (decide_eq_true c7)
        refine c_ift F rfl (wp_skip (hK6 _ _ (?_)))
        try clear hK6 K6
        refine wp_block (c_seq fun K8 hK8 => c_region (sp F (p_move rfl) rfl rfl fun a F => sp F (p_rem rfl rfl (by omega) (by omega) (by omega)) rfl rfl fun a F => sp F (p_add rfl rfl (by omega) (by omega)) rfl rfl fun a F => sp F (p_convu8s rfl (by rw [Try.underlying3]; rfl) Try.underlying5 (by omega) (by omega)) rfl rfl fun a F => so F rfl (o_bslice (cs := [.int .u8 (48 + (j % 10))]) F O rfl Try.underlying22 Try.sz_5 Try.zero_5 rfl rfl rfl fun b12 w O a F => ?_)))
        have O : Own w0 [] [.cells b12 [.int .u8 (48 + (j % 10))] 5] w := O
        refine sp F (p_cbs1 rfl Try.underlying22 Try.underlying5 Try.underlying9 (by omega) (by omega) (fun _ h => ld1 (O.load 0 rfl rfl) h)) rfl rfl fun a F => sp F (p_move rfl) rfl rfl fun a F => sp F (p_cat rfl rfl (by first | omega | (simp; omega))) rfl rfl fun a F => sp F (p_assign rfl) rfl rfl fun a F => c_nil (hK8 _ _ (?_))
        try clear hK8 K8
        refine c_region (sp F (p_move rfl) rfl rfl fun a F => sp F (p_quo rfl rfl (by omega) (by omega) (by omega)) rfl rfl fun a F => sp F (p_assign rfl) rfl rfl fun a F => c_nil (?_))
        have F : Has 20 [(2, .string (bs ([]))), (5, .bool false), (0, .int .i64 (j / 10)), (3, .string (bs (([UInt8.ofNat (48 + (j % 10) : Int).toNat]) ++ L1)))] a := F.pick ⟨rfl, rfl, rfl, rfl, trivial⟩
        have O : Own w0 [] [] w := (O.take 0)
        exact ⟨((j / 10)).toNat, by omega, (j / 10), (([UInt8.ofNat (48 + (j % 10) : Int).toNat]) ++ L1), rfl, F, O, by first | assumption | omega, by first | assumption | omega, by obtain ⟨f, hf, hL⟩ := hi0c; exact digsF_step c7 hf hL, by simp; omega⟩
      · have F := F.setB (d := 7) rfl (decide_eq_false c7)
        refine c_iff F rfl (wp_exit (e_then (e_then (e_here (hK5 _ _ (?_))))))
        try clear hK5 K5
        refine c_seq fun K8 hK8 => c_region (sp F (p_move rfl) rfl rfl fun a F => sp F (p_cat rfl rfl (by first | omega | (simp; omega))) rfl rfl fun a F => sp F (p_assign rfl) rfl rfl fun a F => c_nil (hK8 _ _ (?_)))
        try clear hK8 K8
        refine wp_ret (ret1 F rfl rfl (?_))
        exact ⟨congrArg Ending.returned (show Value.string (bs (([109]) ++ L1)) = .string (bs (mtext k)) from by exact vstr (by unfold mtext; rw [if_neg (by omega)]; obtain ⟨f, hf, hL⟩ := hi0c; have h9 : j.toNat = 0 := (by omega); rw [h9, digsF_zero] at hL; rw [← hL]; rfl)), O⟩

set_option maxRecDepth 100000 in
/-- laws.markOpS -/
theorem markOpS_nil (k : Int) (w0 : World) (h0 : 0 ≤ k) (h1 : k ≤ 100000000) :
    Calls Try.prog 27 #[.slice none 0 0, .int .i64 (k)] w0 fun e w => e = .returned (.int .i64 (k)) ∧ Own w0 [] [] w := by
  have O := Own.start w0
  refine enterO (n := 35) Try.func27 rfl rfl rfl O fun a w F O => ?_
  refine c_seq fun K1 hK1 => c_region (sp F (p_assign rfl) rfl rfl fun a F => c_nil (hK1 _ _ (?_)))
  try clear hK1 K1
  refine c_seq fun K2 hK2 => c_seq fun K3 hK3 => c_region (sp F (p_assign rfl) rfl rfl fun a F => c_nil (hK3 _ _ (?_)))
  try clear hK3 K3
  refine wp_block (?_)
  refine c_loop (fun mm a w => mm = 0 ∧ Has 35 [(0, .slice none 0 0), (4, .int .i64 (0)), (5, .int .i64 (0)), (1, .int .i64 (k))] a ∧ Own w0 [] [] w) ?_ ?_
  · have F : Has 35 [(0, .slice none 0 0), (4, .int .i64 (0)), (5, .int .i64 (0)), (1, .int .i64 (k))] a := F.pick ⟨rfl, rfl, rfl, rfl, trivial⟩
    exact ⟨0, rfl, F, O⟩
  · rintro mm a w ⟨rfl, F, O⟩
    refine c_seq fun K4 hK4 => c_seq fun K5 hK5 => c_region (sp F (p_move rfl) rfl rfl fun a F => sp F (p_move rfl) rfl rfl fun a F => sp F (p_len_l rfl Try.underlying23) rfl rfl fun a F => sp F (p_lss rfl rfl) rfl rfl fun a F => ?_)
    have c9 : ¬ (0 < (0 : Int)) := by omega
    have F := F.setB (d := 9) rfl (decide_eq_false c9)
    refine c_nil (hK5 _ _ (?_))
    try clear hK5 K5
    refine c_iff F rfl (wp_exit (e_then (e_then (e_here (hK2 _ _ (?_))))))
    try clear hK2 K2
    refine c_seq fun K6 hK6 => c_region (sp F (p_move rfl) rfl rfl fun a F => sp F (p_assign rfl) rfl rfl fun a F => c_nil (hK6 _ _ (?_)))
    try clear hK6 K6
    refine wp_ret (ret1 F rfl rfl (?_))
    exact ⟨rfl, O⟩

set_option maxRecDepth 100000 in
/-- laws.markOpS -/
theorem markOpS_some (b : Nat) (n : Nat) (c : Nat) (es : List (Int × Int × List UInt8)) (k : Int) (w0 : World) (hn : (n : Int) = es.length) (hb : (n : Int) ≤ 1048600) (h0 : 0 ≤ k) (h1 : k ≤ 10000000) (O : Own w0 [b] [.row 43 3 (.slice (some ⟨b, 0, none⟩) n c) n (es.flatMap encOp)] w0) :
    Calls Try.prog 27 #[.slice (some ⟨b, 0, none⟩) n c, .int .i64 (k)] w0 fun e w => ∃ (es1 : List (Int × Int × List UInt8)), e = .returned (.int .i64 (k + 3 * (n : Int))) ∧ ((n : Int) = es1.length) ∧ (MarksO es1 k) ∧ Own w0 [b] [.row 43 3 (.slice (some ⟨b, 0, none⟩) n c) n (es1.flatMap encOp)] w := by
  refine enterO (n := 35) Try.func27 rfl rfl rfl O fun a w F O => ?_
  refine c_seq fun K1 hK1 => c_region (sp F (p_assign rfl) rfl rfl fun a F => c_nil (hK1 _ _ (?_)))
  try clear hK1 K1
  refine c_seq fun K2 hK2 => c_seq fun K3 hK3 => c_region (sp F (p_assign rfl) rfl rfl fun a F => c_nil (hK3 _ _ (?_)))
  try clear hK3 K3
  refine wp_block (?_)
  refine c_loop (fun mm a w => ∃ (i : Int), ∃ (es1 : List (Int × Int × List UInt8)), mm = ((n : Int) - i).toNat ∧ Has 35 [(0, .slice (some ⟨b, 0, none⟩) n c), (4, .int .i64 (0)), (5, .int .i64 (i)), (1, .int .i64 (k + 3 * i))] a ∧ Own w0 [b] [.row 43 3 (.slice (some ⟨b, 0, none⟩) n c) n (es1.flatMap encOp)] w ∧ (0 ≤ i) ∧ (i ≤ n) ∧ ((es1.length : Int) = n) ∧ (MarksOTo es1 k i)) ?_ ?_
  · have F := F.setV (d := 1) rfl (show Value.int .i64 (k) = .int .i64 (k + 3 * 0) from by first | rfl | exact vint (by omega) | exact vint (by simp; done) | exact vsl (by omega) | (simp; done))
    have F : Has 35 [(0, .slice (some ⟨b, 0, none⟩) n c), (4, .int .i64 (0)), (5, .int .i64 (0)), (1, .int .i64 (k + 3 * 0))] a := F.pick ⟨rfl, rfl, rfl, rfl, trivial⟩
    exact ⟨((n : Int) - 0).toNat, 0, es, rfl, F, O, by first | assumption | omega, by first | assumption | omega, by first | assumption | omega, by exact marksOTo_zero⟩
  · rintro mm a w ⟨i, es1, rfl, F, O, hi0a, hi0b, hi0c, hi0d⟩
    refine c_seq fun K4 hK4 => c_seq fun K5 hK5 => c_region (sp F (p_move rfl) rfl rfl fun a F => sp F (p_move rfl) rfl rfl fun a F => sp F (p_len_l rfl Try.underlying23) rfl rfl fun a F => sp F (p_lss rfl rfl) rfl rfl fun a F => c_nil (hK5 _ _ (?_)))
    try clear hK5 K5
    by_cases c9 : i < (n : Int)
    · have F := F.setB (d := 9) rfl (decide_eq_true c9)
      refine c_ift F rfl (wp_skip (hK4 _ _ (?_)))
      try clear hK4 K4
      refine c_seq fun K6 hK6 => wp_block (c_seq fun K7 hK7 => c_region (sp F (p_move rfl) rfl rfl fun a F => sp F (p_move rfl) rfl rfl fun a F => sp F (p_move rfl) rfl rfl fun a F => ?_))
      obtain ⟨e15, he15⟩ := get_some (l := es1) (i := i) (by omega) (by first | omega | (simp; omega))
      refine sp F (p_iaddr rfl rfl Try.underlying23 Try.sz_43 (by omega) (by omega)) rfl rfl fun a F => sp F (p_faddr rfl Try.foff_43_0) rfl rfl fun a F => so F rfl (o_storeRow F O rfl rfl Try.sz_3 rfl rfl 0 rfl (by rw [flat_len encOp_len]; first | omega | (simp; omega)) fun w O => ?_)
      have hst : (es1.flatMap encOp).set (0 + (i : Int).toNat * 3) (.int .i64 (k + 3 * i)) = (es1.set (i : Int).toNat (k + 3 * i, e15.2.1, e15.2.2)).flatMap encOp := flat_set encOp_len he15 (j := 0) rfl (by decide)
      have O := O.setR 0 rfl (congrArg (Res.row 43 3 (.slice (some ⟨b, 0, none⟩) n c) n) hst)
      have O : Own w0 [b] [.row 43 3 (.slice (some ⟨b, 0, none⟩) n c) n ((es1.set (i : Int).toNat (k + 3 * i, e15.2.1, e15.2.2)).flatMap encOp)] w := O
      refine c_nil (hK7 _ _ (?_))
      try clear hK7 K7
      refine c_seq fun K8 hK8 => c_region (sp F (p_move rfl) rfl rfl fun a F => sp F (p_add rfl rfl (by omega) (by omega)) rfl rfl fun a F => sp F (p_assign rfl) rfl rfl fun a F => c_nil (hK8 _ _ (?_)))
      try clear hK8 K8
      refine c_seq fun K9 hK9 => c_region (sp F (p_move rfl) rfl rfl fun a F => sp F (p_move rfl) rfl rfl fun a F => sp F (p_move rfl) rfl rfl fun a F => ?_)
      obtain ⟨e22, he22⟩ := get_some (l := es1.set (i : Int).toNat (k + 3 * i, e15.2.1, e15.2.2)) (i := i) (by omega) (by first | omega | (simp; omega))
      have hq22 : e22 = (k + 3 * i, e15.2.1, e15.2.2) := by rw [List.getElem?_set_self (by omega)] at he22; injection he22 with h; exact h.symm
      refine sp F (p_iaddr rfl rfl Try.underlying23 Try.sz_43 (by omega) (by omega)) rfl rfl fun a F => sp F (p_faddr rfl Try.foff_43_1) rfl rfl fun a F => so F rfl (o_storeRow F O rfl rfl Try.sz_3 rfl rfl 0 rfl (by rw [flat_len encOp_len]; first | omega | (simp; omega)) fun w O => ?_)
      have hst : ((es1.set (i : Int).toNat (k + 3 * i, e15.2.1, e15.2.2)).flatMap encOp).set (0 + (i : Int).toNat * 3 + 1) (.int .i64 ((k + 3 * i) + 1)) = ((es1.set (i : Int).toNat (k + 3 * i, e15.2.1, e15.2.2)).set (i : Int).toNat (e22.1, (k + 3 * i) + 1, e22.2.2)).flatMap encOp := flat_set encOp_len he22 (j := 1) rfl (by decide)
      have O := O.setR 0 rfl (congrArg (Res.row 43 3 (.slice (some ⟨b, 0, none⟩) n c) n) hst)
      have O : Own w0 [b] [.row 43 3 (.slice (some ⟨b, 0, none⟩) n c) n (((es1.set (i : Int).toNat (k + 3 * i, e15.2.1, e15.2.2)).set (i : Int).toNat (e22.1, (k + 3 * i) + 1, e22.2.2)).flatMap encOp)] w := O
      refine c_nil (hK9 _ _ (?_))
      try clear hK9 K9
      refine c_seq fun K10 hK10 => c_region (sp F (p_move rfl) rfl rfl fun a F => sp F (p_add rfl rfl (by omega) (by omega)) rfl rfl fun a F => sp F (p_assign rfl) rfl rfl fun a F => c_nil (hK10 _ _ (?_)))
      try clear hK10 K10
      refine c_seq fun K11 hK11 => c_region (sp F (p_move rfl) rfl rfl fun a F => sp F (p_move rfl) rfl rfl fun a F => sp F (p_move rfl) rfl rfl fun a F => so F rfl (o_call (vs := #[.int .i64 (((k + 3 * i) + 1) + 1)]) F Try.en_47 rfl rfl ((markText_ok (((k + 3 * i) + 1) + 1) w (by omega) (by omega)).mono ?_)))
      rintro e w ⟨rfl, K⟩
      refine ⟨_, rfl, fun a F => ?_⟩
      have O : Own w0 [b] [.row 43 3 (.slice (some ⟨b, 0, none⟩) n c) n (((es1.set (i : Int).toNat (k + 3 * i, e15.2.1, e15.2.2)).set (i : Int).toNat (e22.1, (k + 3 * i) + 1, e22.2.2)).flatMap encOp)] w := O.call0 K
      clear K
      have O : Own w0 [b] [.row 43 3 (.slice (some ⟨b, 0, none⟩) n c) n (((es1.set (i : Int).toNat (k + 3 * i, e15.2.1, e15.2.2)).set (i : Int).toNat (e22.1, (k + 3 * i) + 1, e22.2.2)).flatMap encOp)] w := O
      obtain ⟨e30, he30⟩ := get_some (l := (es1.set (i : Int).toNat (k + 3 * i, e15.2.1, e15.2.2)).set (i : Int).toNat (e22.1, (k + 3 * i) + 1, e22.2.2)) (i := i) (by omega) (by first | omega | (simp; omega))
      have hq30 : e30 = (e22.1, k + 3 * i + 1, e22.2.2) := by rw [List.getElem?_set_self (by simp; omega)] at he30; injection he30 with h; exact h.symm
      refine sp F (p_iaddr rfl rfl Try.underlying23 Try.sz_43 (by omega) (by omega)) rfl rfl fun a F => sp F (p_faddr rfl Try.foff_43_2) rfl rfl fun a F => so F rfl (o_storeRow F O rfl rfl Try.sz_9 rfl rfl 0 rfl (by rw [flat_len encOp_len]; first | omega | (simp; omega)) fun w O => ?_)
      have hst : (((es1.set (i : Int).toNat (k + 3 * i, e15.2.1, e15.2.2)).set (i : Int).toNat (e22.1, (k + 3 * i) + 1, e22.2.2)).flatMap encOp).set (0 + (i : Int).toNat * 3 + 2) (.string (bs (mtext (((k + 3 * i) + 1) + 1)))) = (((es1.set (i : Int).toNat (k + 3 * i, e15.2.1, e15.2.2)).set (i : Int).toNat (e22.1, (k + 3 * i) + 1, e22.2.2)).set (i : Int).toNat (e30.1, e30.2.1, mtext (((k + 3 * i) + 1) + 1))).flatMap encOp := flat_set encOp_len he30 (j := 2) rfl (by decide)
      have O := O.setR 0 rfl (congrArg (Res.row 43 3 (.slice (some ⟨b, 0, none⟩) n c) n) hst)
      have O : Own w0 [b] [.row 43 3 (.slice (some ⟨b, 0, none⟩) n c) n ((((es1.set (i : Int).toNat (k + 3 * i, e15.2.1, e15.2.2)).set (i : Int).toNat (e22.1, (k + 3 * i) + 1, e22.2.2)).set (i : Int).toNat (e30.1, e30.2.1, mtext (((k + 3 * i) + 1) + 1))).flatMap encOp)] w := O
      refine c_nil (hK11 _ _ (?_))
      try clear hK11 K11
      refine c_region (sp F (p_move rfl) rfl rfl fun a F => sp F (p_add rfl rfl (by omega) (by omega)) rfl rfl fun a F => sp F (p_assign rfl) rfl rfl fun a F => c_nil (hK6 _ _ (?_)))
      try clear hK6 K6
      refine c_region (sp F (p_move rfl) rfl rfl fun a F => sp F (p_add rfl rfl (by omega) (by omega)) rfl rfl fun a F => sp F (p_assign rfl) rfl rfl fun a F => c_nil (?_))
      have F := F.setV (d := 1) rfl (show Value.int .i64 ((((k + 3 * i) + 1) + 1) + 1) = .int .i64 (k + 3 * (i + 1)) from by first | rfl | exact vint (by omega) | exact vint (by simp; done) | exact vsl (by omega) | (simp; done))
      have F : Has 35 [(0, .slice (some ⟨b, 0, none⟩) n c), (4, .int .i64 (0)), (5, .int .i64 (i + 1)), (1, .int .i64 (k + 3 * (i + 1)))] a := F.pick ⟨rfl, rfl, rfl, rfl, trivial⟩
      exact ⟨((n : Int) - (i + 1)).toNat, by omega, (i + 1), (((es1.set (i : Int).toNat (k + 3 * i, e15.2.1, e15.2.2)).set (i : Int).toNat (e22.1, (k + 3 * i) + 1, e22.2.2)).set (i : Int).toNat (e30.1, e30.2.1, mtext (((k + 3 * i) + 1) + 1))), rfl, F, O, by first | assumption | omega, by first | assumption | omega, by simp; omega, by rw [set_set_set]; exact marksOTo_set hi0d hi0a (by omega) (by rw [hq30, hq22]) (by rw [hq30]) (by show mtext _ = mtext _; congr 1; omega)⟩
    · have F := F.setB (d := 9) rfl (decide_eq_false c9)
      refine c_iff F rfl (wp_exit (e_then (e_then (e_here (hK2 _ _ (?_))))))
      try clear hK2 K2
      refine c_seq fun K6 hK6 => c_region (sp F (p_move rfl) rfl rfl fun a F => sp F (p_assign rfl) rfl rfl fun a F => c_nil (hK6 _ _ (?_)))
      try clear hK6 K6
      refine wp_ret (ret1 F rfl rfl (?_))
      exact ⟨es1, congrArg Ending.returned (show Value.int .i64 (k + 3 * i) = .int .i64 (k + 3 * (n : Int)) from by first | exact vint (by omega) | exact vint (by simp; done)), by first | assumption | omega, by exact marksO_of hi0d (by omega), O⟩


theorem markOpS (P : Option Addr) (n c : Nat) (es : List (Int × Int × List UInt8)) (k : Int) (w0 : World) (hn : (n : Int) = es.length) (hb : (n : Int) ≤ 1048600) (h0 : 0 ≤ k) (h1 : k ≤ 10000000) (O : Own w0 (Value.slice P n c).ownBlock.toList [.row 43 3 (.slice P n c) n (es.flatMap encOp)] w0) :
    Calls Try.prog 27 #[.slice P n c, .int .i64 k] w0 fun e w => ∃ (es1 : List (Int × Int × List UInt8)), e = .returned (.int .i64 (k + 3 * (n : Int))) ∧ ((n : Int) = es1.length) ∧ (MarksO es1 k) ∧ Own w0 (Value.slice P n c).ownBlock.toList [.row 43 3 (.slice P n c) n (es1.flatMap encOp)] w := by
  have hr : w0.ownsRow 0 43 3 (.slice P n c) n (es.flatMap encOp) := O.has (i := 0) rfl
  rcases slice_row hr with ⟨rfl, rfl, rfl⟩ | ⟨b, rfl⟩
  · refine (markOpS_nil k w0 h0 (by omega)).mono fun e w h => ?_
    refine ⟨[], h.1.trans (by simp), rfl, fun i e he => by simp at he, ?_⟩
    have O2 := h.2.addNil 43 3
    exact O2
  · exact markOpS_some b n c es k w0 hn hb h0 h1 O

set_option maxRecDepth 100000 in
/-- laws.heldOpS -/
theorem heldOpS_ok (A : Option Addr) (n : Nat) (c : Nat) (es : List (Int × Int × List UInt8)) (k : Int) (w0 : World) (hA : Arr w0 encOp 3 A es) (hn : (n : Int) = es.length) (hb : (n : Int) ≤ 1048600) (hm : MarksO es k) (h0 : 0 ≤ k) (h1 : k ≤ 10000000) :
    Calls Try.prog 28 #[.slice A n c, .int .i64 (k)] w0 fun e w => e = .returned (.int .i64 (k + 3 * (n : Int))) ∧ Own w0 [] [] w := by
  have O := Own.start w0
  refine enterO (n := 41) Try.func28 rfl rfl rfl O fun a w F O => ?_
  refine c_seq fun K1 hK1 => c_region (sp F (p_assign rfl) rfl rfl fun a F => c_nil (hK1 _ _ (?_)))
  try clear hK1 K1
  refine c_seq fun K2 hK2 => c_seq fun K3 hK3 => c_region (sp F (p_assign rfl) rfl rfl fun a F => c_nil (hK3 _ _ (?_)))
  try clear hK3 K3
  refine wp_block (?_)
  refine c_loop (fun mm a w => ∃ (i : Int), mm = ((n : Int) - i).toNat ∧ Has 41 [(0, .slice A n c), (5, .int .i64 (i)), (1, .int .i64 (k + 3 * i))] a ∧ Own w0 [] [] w ∧ (0 ≤ i) ∧ (i ≤ n)) ?_ ?_
  · have F := F.setV (d := 1) rfl (show Value.int .i64 (k) = .int .i64 (k + 3 * 0) from by first | rfl | exact vint (by omega) | exact vint (by simp; done) | exact vsl (by omega) | (simp; done))
    have F : Has 41 [(0, .slice A n c), (5, .int .i64 (0)), (1, .int .i64 (k + 3 * 0))] a := F.pick ⟨rfl, rfl, rfl, trivial⟩
    exact ⟨((n : Int) - 0).toNat, 0, rfl, F, O, by first | assumption | omega, by first | assumption | omega⟩
  · rintro mm a w ⟨i, rfl, F, O, hi0a, hi0b⟩
    refine c_seq fun K4 hK4 => c_seq fun K5 hK5 => c_region (sp F (p_move rfl) rfl rfl fun a F => sp F (p_move rfl) rfl rfl fun a F => sp F (p_len_l rfl Try.underlying23) rfl rfl fun a F => sp F (p_lss rfl rfl) rfl rfl fun a F => c_nil (hK5 _ _ (?_)))
    try clear hK5 K5
    by_cases c9 : i < (n : Int)
    · have F := F.setB (d := 9) rfl (decide_eq_true c9)
      refine c_ift F rfl (wp_skip (hK4 _ _ (?_)))
      try clear hK4 K4
      refine c_seq fun K6 hK6 => wp_block (c_seq fun K7 hK7 => c_seq fun K8 hK8 => c_region (sp F (p_move rfl) rfl rfl fun a F => sp F (p_move rfl) rfl rfl fun a F => ?_))
      obtain ⟨b14, o14, hp14, hb14, hc14⟩ := Arr.out hA (by omega)
      have hA14 := hA; rw [hp14] at hA14 F
      obtain ⟨e14, he14⟩ := get_some (l := es) (i := i) (by omega) (by first | omega | (simp; omega))
      obtain ⟨hm1, hm2, hm3⟩ := marksO_at hm hi0a he14
      refine sp F (p_iaddr rfl rfl Try.underlying23 Try.sz_43 (by omega) (by omega)) rfl rfl fun a F => sp F (p_faddr rfl Try.foff_43_0) rfl rfl fun a F => sp F (p_load rfl Try.agg_3 (fun _ h => (ld1 (((O.old hb14 (by simp)).trans (hc14 _ _ he14 0 _ rfl))) h))) rfl rfl fun a F => sp F (p_move rfl) rfl rfl fun a F => sp F (p_neq rfl rfl) rfl rfl fun a F => ?_
      have c18 : e14.1 = (k + 3 * i) := by omega
      have F := F.setB (d := 18) rfl (decide_eq_false (fun h => h c18))
      refine c_nil (hK8 _ _ (?_))
      try clear hK8 K8
      refine c_iff F rfl (wp_skip (hK7 _ _ (?_)))
      try clear hK7 K7
      refine c_seq fun K9 hK9 => c_region (sp F (p_move rfl) rfl rfl fun a F => sp F (p_add rfl rfl (by omega) (by omega)) rfl rfl fun a F => sp F (p_assign rfl) rfl rfl fun a F => c_nil (hK9 _ _ (?_)))
      try clear hK9 K9
      refine c_seq fun K10 hK10 => c_seq fun K11 hK11 => c_region (sp F (p_move rfl) rfl rfl fun a F => sp F (p_move rfl) rfl rfl fun a F => ?_)
      obtain ⟨hm1, hm2, hm3⟩ := marksO_at hm hi0a he14
      refine sp F (p_iaddr rfl rfl Try.underlying23 Try.sz_43 (by omega) (by omega)) rfl rfl fun a F => sp F (p_faddr rfl Try.foff_43_1) rfl rfl fun a F => sp F (p_load rfl Try.agg_3 (fun _ h => (ld1 (((O.old hb14 (by simp)).trans (hc14 _ _ he14 1 _ rfl))) h))) rfl rfl fun a F => sp F (p_move rfl) rfl rfl fun a F => sp F (p_neq rfl rfl) rfl rfl fun a F => ?_
      have c27 : e14.2.1 = ((k + 3 * i) + 1) := by omega
      have F := F.setB (d := 27) rfl (decide_eq_false (fun h => h c27))
      refine c_nil (hK11 _ _ (?_))
      try clear hK11 K11
      refine c_iff F rfl (wp_skip (hK10 _ _ (?_)))
      try clear hK10 K10
      refine c_seq fun K12 hK12 => c_region (sp F (p_move rfl) rfl rfl fun a F => sp F (p_add rfl rfl (by omega) (by omega)) rfl rfl fun a F => sp F (p_assign rfl) rfl rfl fun a F => c_nil (hK12 _ _ (?_)))
      try clear hK12 K12
      refine c_seq fun K13 hK13 => c_seq fun K14 hK14 => ?_
      obtain ⟨hm1, hm2, hm3⟩ := marksO_at hm hi0a he14
      refine c_draw Try.mixed (SC [(b14, o14 + (i : Int).toNat * 3 + 2, .string (bs (e14.2.2)))]) [] _ (fun a w h => h) ?_
      have O := O.drawn (w.drawn + 1)
      generalize { w with drawn := w.drawn + 1 } = w at O ⊢
      have hS : SC [(b14, o14 + (i : Int).toNat * 3 + 2, .string (bs (e14.2.2)))] w := (SC.cons (((O.old hb14 (by simp)).trans (hc14 _ _ he14 2 _ rfl))) SC.nil)
      refine d_take 0 rfl (by kernel_rfl) F (p_move rfl) rfl rfl hS fun a F => d_take 1 rfl (by kernel_rfl) F (p_move rfl) rfl rfl hS fun a F => d_take 2 rfl (by kernel_rfl) F (p_iaddr rfl rfl Try.underlying23 Try.sz_43 (by omega) (by omega)) rfl rfl hS fun a F => d_take 3 rfl (by kernel_rfl) F (p_faddr rfl Try.foff_43_2) rfl rfl hS fun a F => d_take 4 rfl (by kernel_rfl) F (p_load rfl Try.agg_9 (fun _ h => (SC.get h 0 rfl))) rfl rfl hS fun a F => d_take 5 rfl (by kernel_rfl) F (p_move rfl) rfl rfl hS fun a F => d_one 6 (by kernel_rfl) (d_op rfl F rfl (o_call (vs := #[.int .i64 (((k + 3 * i) + 1) + 1)]) F Try.en_47 rfl rfl ((markText_ok (((k + 3 * i) + 1) + 1) w (by omega) (by omega)).mono ?_)))
      rintro e w ⟨rfl, K⟩
      refine ⟨_, rfl, fun a F => ?_⟩
      have O : Own w0 [] [] w := O.call0 K
      clear K
      have O : Own w0 [] [] w := O
      refine ⟨fun _ => (SC.cons (((O.old hb14 (by simp)).trans (hc14 _ _ he14 2 _ rfl))) SC.nil), ?_⟩
      have hS : SC [(b14, o14 + (i : Int).toNat * 3 + 2, .string (bs (e14.2.2)))] w := (SC.cons (((O.old hb14 (by simp)).trans (hc14 _ _ he14 2 _ rfl))) SC.nil)
      refine d_take 7 rfl (by kernel_rfl) F (p_sne rfl rfl) rfl rfl hS fun a F => ?_
      have c37 : e14.2.2 = (mtext (((k + 3 * i) + 1) + 1)) := by first | (rw [hm3]; done) | (rw [hm3]; congr 1; omega)
      have F := F.setB (d := 37) rfl (decide_eq_false (fun h => h c37))
      refine d_done (by kernel_rfl) (hK14 _ _ (?_))
      try clear hK14 K14
      refine c_iff F rfl (wp_skip (hK13 _ _ (?_)))
      try clear hK13 K13
      refine c_region (sp F (p_move rfl) rfl rfl fun a F => sp F (p_add rfl rfl (by omega) (by omega)) rfl rfl fun a F => sp F (p_assign rfl) rfl rfl fun a F => c_nil (hK6 _ _ (?_)))
      try clear hK6 K6
      refine c_region (sp F (p_move rfl) rfl rfl fun a F => sp F (p_add rfl rfl (by omega) (by omega)) rfl rfl fun a F => sp F (p_assign rfl) rfl rfl fun a F => c_nil (?_))
      try rw [← hp14] at F
      try rw [← hp14] at O
      have F := F.setV (d := 1) rfl (show Value.int .i64 ((((k + 3 * i) + 1) + 1) + 1) = .int .i64 (k + 3 * (i + 1)) from by first | rfl | exact vint (by omega) | exact vint (by simp; done) | exact vsl (by omega) | (simp; done))
      have F : Has 41 [(0, .slice A n c), (5, .int .i64 (i + 1)), (1, .int .i64 (k + 3 * (i + 1)))] a := F.pick ⟨rfl, rfl, rfl, trivial⟩
      exact ⟨((n : Int) - (i + 1)).toNat, by omega, (i + 1), rfl, F, O, by first | assumption | omega, by first | assumption | omega⟩
    · have F := F.setB (d := 9) rfl (decide_eq_false c9)
      refine c_iff F rfl (wp_exit (e_then (e_then (e_here (hK2 _ _ (?_))))))
      try clear hK2 K2
      refine c_seq fun K6 hK6 => c_region (sp F (p_move rfl) rfl rfl fun a F => sp F (p_assign rfl) rfl rfl fun a F => c_nil (hK6 _ _ (?_)))
      try clear hK6 K6
      refine wp_ret (ret1 F rfl rfl (?_))
      exact ⟨congrArg Ending.returned (show Value.int .i64 (k + 3 * i) = .int .i64 (k + 3 * (n : Int)) from by first | exact vint (by omega) | exact vint (by simp; done)), O⟩

end Go.Proofs.Ytbhidkcljekobaa
