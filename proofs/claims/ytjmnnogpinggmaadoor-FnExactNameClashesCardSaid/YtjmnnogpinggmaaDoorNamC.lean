/- Contracts of the functions that match names with patterns. No conditions but those on lengths, and that the library's one variable holds a number. -/
import Derived.Test.YtjmnnogpinggmaaDoorNamB
namespace Go.Proofs.YtjmnnogpinggmaaDoor
open Go.ChangeShapes Go.WideShapes Go.ChangeAt Go.RowKit
set_option linter.unusedVariables false
set_option linter.unusedSimpArgs false


def StarP (w l : List (List UInt8)) : Prop := w.length = l.length ∨ (w.length < l.length ∧ w.getLast? = some [42])
instance {w l : List (List UInt8)} : Decidable (StarP w l) := by unfold StarP; infer_instance
def MTo (k : Int) (w l : List (List UInt8)) : Prop := ∀ (i : Nat) e, (i : Int) < k → w[i]? = some e → e = [42] ∨ l[i]? = some e
def mtcB (w l : List (List UInt8)) : Bool := decide (StarP w l) && (List.range w.length).all fun i => decide (w[i]? = some [42]) || decide (l[i]? = w[i]?)
def matchB (p s : List UInt8) : Bool := (validB s && decide ((p.length : Int) ≤ 12)) && mtcB (cutL p) (cutL s)
section
variable {w l : List (List UInt8)} {k : Int} {e f : List UInt8} {p s : List UInt8}
theorem mtcB_iff : mtcB w l = true ↔ StarP w l ∧ MTo w.length w l := by
  unfold mtcB
  rw [Bool.and_eq_true, decide_eq_true_eq, List.all_eq_true]
  constructor
  · rintro ⟨h0, h⟩
    refine ⟨h0, fun i e h1 h2 => ?_⟩
    have := h i (List.mem_range.2 (by omega))
    rw [Bool.or_eq_true, decide_eq_true_eq, decide_eq_true_eq, h2] at this
    rcases this with h3 | h3
    · injection h3 with h3; exact .inl h3
    · exact .inr h3
  · rintro ⟨h0, h⟩
    refine ⟨h0, fun i hi => ?_⟩
    have hi := List.mem_range.1 hi
    rw [Bool.or_eq_true, decide_eq_true_eq, decide_eq_true_eq]
    rcases h i w[i] (by omega) (List.getElem?_eq_getElem hi) with h3 | h3
    · exact .inl (by rw [List.getElem?_eq_getElem hi, h3])
    · exact .inr (by rw [h3, List.getElem?_eq_getElem hi])
theorem mTo_zero : MTo 0 w l := fun i e h => by omega
theorem mTo_step (h : MTo k w l) (h0 : 0 ≤ k) (he : w[k.toNat]? = some e) (hx : e = [42] ∨ l[k.toNat]? = some e) : MTo (k + 1) w l := fun i e1 hi he1 => by
  by_cases hik : (i : Int) < k
  · exact h i e1 hik he1
  · have : i = k.toNat := by omega
    subst this
    rw [he] at he1; injection he1 with he1; subst he1
    exact hx
theorem mtc_not (h0 : 0 ≤ k) (he : w[k.toNat]? = some e) (h1 : ¬ e = [42]) (h2 : ¬ l[k.toNat]? = some e) : ¬ mtcB w l = true := fun h => by
  have hk := (List.getElem?_eq_some_iff.1 he).1
  rcases (mtcB_iff.1 h).2 k.toNat e (by omega) he with h3 | h3
  · exact h1 h3
  · exact h2 h3
theorem last_get (h0 : 0 < w.length) (he : w[((w.length : Int) - 1).toNat]? = some e) : w.getLast? = some e := by
  rw [List.getLast?_eq_getElem?, ← he]; congr 1; omega
theorem star_last {m : Nat} (hn : (m : Int) = w.length) (h0 : 0 < w.length) (he : w[((m : Int) - 1).toNat]? = some e) : w.getLast? = some e := by rw [hn] at he; exact last_get h0 he
theorem mtc_short (h : l.length < w.length) : ¬ mtcB w l = true := fun hm => by
  rcases (mtcB_iff.1 hm).1 with h1 | h1
  · omega
  · have := h1.1; omega
theorem mtc_star (h : w.length < l.length) (hl : w.getLast? = some e) (he : ¬ e = [42]) : ¬ mtcB w l = true := fun hm => by
  rcases (mtcB_iff.1 hm).1 with h1 | h1
  · omega
  · rw [hl] at h1; have := h1.2; injection this with this; exact he this
theorem matchB_iff : matchB p s = true ↔ (validB s = true ∧ (p.length : Int) ≤ 12) ∧ mtcB (cutL p) (cutL s) = true := by unfold matchB; rw [Bool.and_eq_true, Bool.and_eq_true, decide_eq_true_eq]
end
set_option maxRecDepth 100000 in
/-- impl.matcher$1 -/
theorem matchCl_ok (A : Option Addr) (n : Nat) (c : Nat) (es : List (List UInt8)) (A2 : Option Addr) (n2 : Nat) (c2 : Nat) (es2 : List (List UInt8)) (g : Nat) (w0 : World) (hA : Arr w0 encStr 1 A es) (hn : (n : Int) = es.length) (hb : (n : Int) ≤ 1048600) (hA2 : Arr w0 encStr 1 A2 es2) (hn2 : (n2 : Int) = es2.length) (hb2 : (n2 : Int) ≤ 1048600) (h0 : 0 < es2.length) (hl_g : g < w0.heap.size) (hm_g_0 : w0.cell? ⟨g, 0, none⟩ = some (.slice A2 n2 c2)) :
    Calls Tryd.prog 47 #[.slice A n c, .pointer (some ⟨g, 0, none⟩)] w0 fun e w => e = .returned (.bool (decide (mtcB es2 es = true))) ∧ Own w0 [] [] w := by
  have O := Own.start w0
  refine enterO (n := 45) Tryd.func47 rfl rfl rfl O fun a w F O => ?_
  refine c_seq fun K1 hK1 => c_region (sp F (p_assign rfl) rfl rfl fun a F => c_nil (hK1 _ _ (?_)))
  try clear hK1 K1
  refine c_seq fun K2 hK2 => c_seq fun K3 hK3 => c_region (sp F (p_load rfl Tryd.agg_28 (fun _ h => (ld1 (((O.old hl_g (by simp)).trans hm_g_0)) h))) rfl rfl fun a F => sp F (p_len_l rfl Tryd.underlying28) rfl rfl fun a F => sp F (p_move rfl) rfl rfl fun a F => sp F (p_len_l rfl Tryd.underlying28) rfl rfl fun a F => sp F (p_gtr rfl rfl) rfl rfl fun a F => sp F (p_move rfl) rfl rfl fun a F => ?_)
  by_cases c11 : (n : Int) < (n2 : Int)
  · have F := F.setB (d := 10) rfl (decide_eq_true c11)
    have F := F.setB (d := 11) rfl (decide_eq_true c11)
    refine ss F rfl rfl fun a F => ss F rfl rfl fun a F => ss F rfl rfl fun a F => ss F rfl rfl fun a F => ss F rfl rfl fun a F => ss F rfl rfl fun a F => ss F rfl rfl fun a F => ss F rfl rfl fun a F => ss F rfl rfl fun a F => ss F rfl rfl fun a F => ss F rfl rfl fun a F => ss F rfl rfl fun a F => ss F rfl rfl fun a F => ?_
    refine ss F rfl rfl fun a F => sp F (p_pick (t := true) rfl rfl) rfl rfl fun a F => c_nil (hK3 _ _ (?_))
    try clear hK3 K3
    refine c_ift F rfl (c_seq fun K4 hK4 => c_region (sp F (p_assign rfl) rfl rfl fun a F => c_nil (hK4 _ _ (?_))))
    try clear hK4 K4
    refine wp_ret (r_then (ret1 F rfl rfl (?_)))
    exact ⟨congrArg Ending.returned (show Value.bool false = .bool (decide (mtcB es2 es = true)) from by first | exact vbf (mtc_not hi0a he32 c36 (by rw [he40]; intro h; injection h with h; exact c43 h.symm)) | exact vbf (mtc_short (by omega)) | exact vbf (mtc_star (by omega) (star_last hn2 h0 he22) c26)), O⟩
  · have F := F.setB (d := 10) rfl (decide_eq_false c11)
    have F := F.setB (d := 11) rfl (decide_eq_false c11)
    refine sp F (p_load rfl Tryd.agg_28 (fun _ h => (ld1 (((O.old hl_g (by simp)).trans hm_g_0)) h))) rfl rfl fun a F => sp F (p_len_l rfl Tryd.underlying28) rfl rfl fun a F => sp F (p_move rfl) rfl rfl fun a F => sp F (p_len_l rfl Tryd.underlying28) rfl rfl fun a F => sp F (p_lss rfl rfl) rfl rfl fun a F => sp F (p_move rfl) rfl rfl fun a F => ?_
    by_cases c17 : (n2 : Int) < (n : Int)
    · have F := F.setB (d := 16) rfl (decide_eq_true c17)
      have F := F.setB (d := 17) rfl (decide_eq_true c17)
      refine sp F (p_load rfl Tryd.agg_28 (fun _ h => (ld1 (((O.old hl_g (by simp)).trans hm_g_0)) h))) rfl rfl fun a F => sp F (p_load rfl Tryd.agg_28 (fun _ h => (ld1 (((O.old hl_g (by simp)).trans hm_g_0)) h))) rfl rfl fun a F => sp F (p_len_l rfl Tryd.underlying28) rfl rfl fun a F => sp F (p_sub rfl rfl (by omega) (by omega)) rfl rfl fun a F => ?_
      obtain ⟨b22, o22, hp22, hb22, hc22⟩ := Arr.out hA2 (by omega)
      have hA22 := hA2; rw [hp22] at hA22 F
      rw [hp22] at hm_g_0
      obtain ⟨e22, he22⟩ := get_some (l := es2) (i := (n2 : Int) - 1) (by omega) (by first | omega | (simp; omega))
      refine sp F (p_iaddr rfl rfl Tryd.underlying28 Tryd.sz_9 (by omega) (by omega)) rfl rfl fun a F => sp F (p_load rfl Tryd.agg_9 (fun _ h => (ld1 (((O.old hb22 (by simp)).trans (hc22 _ _ he22 0 _ rfl))) h))) rfl rfl fun a F => sp F (p_sne rfl rfl) rfl rfl fun a F => sp F (p_pick (t := true) rfl rfl) rfl rfl fun a F => sp F (p_pick (t := false) rfl rfl) rfl rfl fun a F => c_nil (hK3 _ _ (?_))
      try clear hK3 K3
      by_cases c26 : e22 = ([42])
      · have F := F.setB (d := 24) rfl (decide_eq_false (fun h => h c26))
        have F := F.setB (d := 25) rfl (decide_eq_false (fun h => h c26))
        have F := F.setB (d := 26) rfl (decide_eq_false (fun h => h c26))
        refine c_iff F rfl (wp_skip (hK2 _ _ (?_)))
        try clear hK2 K2
        refine c_seq fun K4 hK4 => c_seq fun K5 hK5 => c_region (sp F (p_load rfl Tryd.agg_28 (fun _ h => (ld1 (((O.old hl_g (by simp)).trans hm_g_0)) h))) rfl rfl fun a F => sp F (p_len_l rfl Tryd.underlying28) rfl rfl fun a F => sp F (p_move rfl) rfl rfl fun a F => c_nil (hK5 _ _ (?_)))
        try clear hK5 K5
        refine wp_block (?_)
        refine c_loop (fun mm a w => ∃ (k : Int), mm = ((n2 : Int) - k).toNat ∧ Has 45 [(0, .slice A n c), (1, .pointer (some ⟨g, 0, none⟩)), (26, .bool false), (27, .slice (some ⟨b22, o22, none⟩) n2 c2), (28, .int .i64 ((n2 : Int))), (29, .int .i64 (k))] a ∧ Own w0 [] [] w ∧ (0 ≤ k) ∧ (k ≤ n2) ∧ (MTo k es2 es)) ?_ ?_
        · have F : Has 45 [(0, .slice A n c), (1, .pointer (some ⟨g, 0, none⟩)), (26, .bool false), (27, .slice (some ⟨b22, o22, none⟩) n2 c2), (28, .int .i64 ((n2 : Int))), (29, .int .i64 (0))] a := F.pick ⟨rfl, rfl, rfl, rfl, rfl, rfl, trivial⟩
          exact ⟨((n2 : Int) - 0).toNat, 0, rfl, F, O, by first | assumption | omega, by first | assumption | omega, by exact mTo_zero⟩
        · rintro mm a w ⟨k, rfl, F, O, hi0a, hi0b, hi0c⟩
          refine c_seq fun K6 hK6 => c_region (sp F (p_lss rfl rfl) rfl rfl fun a F => c_nil (hK6 _ _ (?_)))
          try clear hK6 K6
          refine c_seq fun K7 hK7 => ?_
          by_cases c30 : k < (n2 : Int)
          · have F := F.setB (d := 30) rfl (decide_eq_true c30)
            refine c_ift F rfl (wp_skip (hK7 _ _ (?_)))
            try clear hK7 K7
            refine c_seq fun K8 hK8 => wp_block (c_seq fun K9 hK9 => c_region (sp F (p_move rfl) rfl rfl fun a F => ?_))
            obtain ⟨e32, he32⟩ := get_some (l := es2) (i := k) (by omega) (by first | omega | (simp; omega))
            refine sp F (p_iaddr rfl rfl Tryd.underlying28 Tryd.sz_9 (by omega) (by omega)) rfl rfl fun a F => sp F (p_load rfl Tryd.agg_9 (fun _ h => (ld1 (((O.old hb22 (by simp)).trans (hc22 _ _ he32 0 _ rfl))) h))) rfl rfl fun a F => sp F (p_assign rfl) rfl rfl fun a F => sp F (p_assign rfl) rfl rfl fun a F => c_nil (hK9 _ _ (?_))
            try clear hK9 K9
            refine c_seq fun K10 hK10 => c_region (sp F (p_move rfl) rfl rfl fun a F => sp F (p_sne rfl rfl) rfl rfl fun a F => sp F (p_move rfl) rfl rfl fun a F => ?_)
            by_cases c36 : e32 = ([42])
            · have F := F.setB (d := 35) rfl (decide_eq_false (fun h => h c36))
              have F := F.setB (d := 36) rfl (decide_eq_false (fun h => h c36))
              refine ss F rfl rfl fun a F => ss F rfl rfl fun a F => ss F rfl rfl fun a F => ss F rfl rfl fun a F => ss F rfl rfl fun a F => ss F rfl rfl fun a F => sp F (p_pick (t := false) rfl rfl) rfl rfl fun a F => c_nil (hK10 _ _ (?_))
              try clear hK10 K10
              refine c_iff F rfl (wp_skip (hK8 _ _ (?_)))
              try clear hK8 K8
              refine c_region (sp F (p_add rfl rfl (by omega) (by omega)) rfl rfl fun a F => sp F (p_move rfl) rfl rfl fun a F => c_nil (?_))
              have F : Has 45 [(0, .slice A n c), (1, .pointer (some ⟨g, 0, none⟩)), (26, .bool false), (27, .slice (some ⟨b22, o22, none⟩) n2 c2), (28, .int .i64 ((n2 : Int))), (29, .int .i64 (k + 1))] a := F.pick ⟨rfl, rfl, rfl, rfl, rfl, rfl, trivial⟩
              exact ⟨((n2 : Int) - (k + 1)).toNat, by omega, (k + 1), rfl, F, O, by first | assumption | omega, by first | assumption | omega, by exact mTo_step hi0c hi0a he32 (by first | exact .inl c36 | exact .inr (by rw [he40, c43]))⟩
            · have F := F.setB (d := 35) rfl (decide_eq_true c36)
              have F := F.setB (d := 36) rfl (decide_eq_true c36)
              refine sp F (p_move rfl) rfl rfl fun a F => sp F (p_move rfl) rfl rfl fun a F => sp F (p_move rfl) rfl rfl fun a F => ?_
              obtain ⟨b40, o40, hp40, hb40, hc40⟩ := Arr.out hA (by omega)
              have hA40 := hA; rw [hp40] at hA40 F
              obtain ⟨e40, he40⟩ := get_some (l := es) (i := k) (by omega) (by first | omega | (simp; omega))
              refine sp F (p_iaddr rfl rfl Tryd.underlying28 Tryd.sz_9 (by omega) (by omega)) rfl rfl fun a F => sp F (p_load rfl Tryd.agg_9 (fun _ h => (ld1 (((O.old hb40 (by simp)).trans (hc40 _ _ he40 0 _ rfl))) h))) rfl rfl fun a F => sp F (p_sne rfl rfl) rfl rfl fun a F => sp F (p_pick (t := true) rfl rfl) rfl rfl fun a F => c_nil (hK10 _ _ (?_))
              try clear hK10 K10
              by_cases c43 : e32 = e40
              · have F := F.setB (d := 42) rfl (decide_eq_false (fun h => h c43))
                have F := F.setB (d := 43) rfl (decide_eq_false (fun h => h c43))
                refine c_iff F rfl (wp_skip (hK8 _ _ (?_)))
                try clear hK8 K8
                refine c_region (sp F (p_add rfl rfl (by omega) (by omega)) rfl rfl fun a F => sp F (p_move rfl) rfl rfl fun a F => c_nil (?_))
                try rw [← hp40] at F
                try rw [← hp40] at O
                have F : Has 45 [(0, .slice A n c), (1, .pointer (some ⟨g, 0, none⟩)), (26, .bool false), (27, .slice (some ⟨b22, o22, none⟩) n2 c2), (28, .int .i64 ((n2 : Int))), (29, .int .i64 (k + 1))] a := F.pick ⟨rfl, rfl, rfl, rfl, rfl, rfl, trivial⟩
                exact ⟨((n2 : Int) - (k + 1)).toNat, by omega, (k + 1), rfl, F, O, by first | assumption | omega, by first | assumption | omega, by exact mTo_step hi0c hi0a he32 (by first | exact .inl c36 | exact .inr (by rw [he40, c43]))⟩
              · have F := F.setB (d := 42) rfl (decide_eq_true c43)
                have F := F.setB (d := 43) rfl (decide_eq_true c43)
                refine c_ift F rfl (c_seq fun K11 hK11 => c_region (sp F (p_assign rfl) rfl rfl fun a F => c_nil (hK11 _ _ (?_))))
                try clear hK11 K11
                refine wp_ret (r_block (r_then (r_then (r_block (r_then (ret1 F rfl rfl (?_)))))))
                exact ⟨congrArg Ending.returned (show Value.bool false = .bool (decide (mtcB es2 es = true)) from by first | exact vbf (mtc_not hi0a he32 c36 (by rw [he40]; intro h; injection h with h; exact c43 h.symm)) | exact vbf (mtc_short (by omega)) | exact vbf (mtc_star (by omega) (star_last hn2 h0 he22) c26)), O⟩
          · have F := F.setB (d := 30) rfl (decide_eq_false c30)
            refine c_iff F rfl (wp_exit (e_then (e_then (e_here (hK4 _ _ (?_))))))
            try clear hK4 K4
            refine c_seq fun K8 hK8 => c_region (sp F (p_assign rfl) rfl rfl fun a F => c_nil (hK8 _ _ (?_)))
            try clear hK8 K8
            refine wp_ret (ret1 F rfl rfl (?_))
            exact ⟨congrArg Ending.returned (show Value.bool true = .bool (decide (mtcB es2 es = true)) from by exact vbt (mtcB_iff.2 ⟨by first | exact .inl (by omega) | exact .inr ⟨by omega, by rw [star_last hn2 h0 he22, c26]⟩, by rw [show (es2.length : Int) = k by omega]; exact hi0c⟩)), O⟩
      · have F := F.setB (d := 24) rfl (decide_eq_true c26)
        have F := F.setB (d := 25) rfl (decide_eq_true c26)
        have F := F.setB (d := 26) rfl (decide_eq_true c26)
        refine c_ift F rfl (c_seq fun K4 hK4 => c_region (sp F (p_assign rfl) rfl rfl fun a F => c_nil (hK4 _ _ (?_))))
        try clear hK4 K4
        refine wp_ret (r_then (ret1 F rfl rfl (?_)))
        exact ⟨congrArg Ending.returned (show Value.bool false = .bool (decide (mtcB es2 es = true)) from by first | exact vbf (mtc_not hi0a he32 c36 (by rw [he40]; intro h; injection h with h; exact c43 h.symm)) | exact vbf (mtc_short (by omega)) | exact vbf (mtc_star (by omega) (star_last hn2 h0 he22) c26)), O⟩
    · have F := F.setB (d := 16) rfl (decide_eq_false c17)
      have F := F.setB (d := 17) rfl (decide_eq_false c17)
      refine ss F rfl rfl fun a F => ss F rfl rfl fun a F => ss F rfl rfl fun a F => ss F rfl rfl fun a F => ss F rfl rfl fun a F => ss F rfl rfl fun a F => ss F rfl rfl fun a F => sp F (p_pick (t := false) rfl rfl) rfl rfl fun a F => sp F (p_pick (t := false) rfl rfl) rfl rfl fun a F => c_nil (hK3 _ _ (?_))
      try clear hK3 K3
      refine c_iff F rfl (wp_skip (hK2 _ _ (?_)))
      try clear hK2 K2
      refine c_seq fun K4 hK4 => c_seq fun K5 hK5 => c_region (sp F (p_load rfl Tryd.agg_28 (fun _ h => (ld1 (((O.old hl_g (by simp)).trans hm_g_0)) h))) rfl rfl fun a F => sp F (p_len_l rfl Tryd.underlying28) rfl rfl fun a F => sp F (p_move rfl) rfl rfl fun a F => c_nil (hK5 _ _ (?_)))
      try clear hK5 K5
      refine wp_block (?_)
      refine c_loop (fun mm a w => ∃ (k : Int), mm = ((n2 : Int) - k).toNat ∧ Has 45 [(0, .slice A n c), (1, .pointer (some ⟨g, 0, none⟩)), (26, .bool false), (27, .slice A2 n2 c2), (28, .int .i64 ((n2 : Int))), (29, .int .i64 (k))] a ∧ Own w0 [] [] w ∧ (0 ≤ k) ∧ (k ≤ n2) ∧ (MTo k es2 es)) ?_ ?_
      · have F : Has 45 [(0, .slice A n c), (1, .pointer (some ⟨g, 0, none⟩)), (26, .bool false), (27, .slice A2 n2 c2), (28, .int .i64 ((n2 : Int))), (29, .int .i64 (0))] a := F.pick ⟨rfl, rfl, rfl, rfl, rfl, rfl, trivial⟩
        exact ⟨((n2 : Int) - 0).toNat, 0, rfl, F, O, by first | assumption | omega, by first | assumption | omega, by exact mTo_zero⟩
      · rintro mm a w ⟨k, rfl, F, O, hi0a, hi0b, hi0c⟩
        refine c_seq fun K6 hK6 => c_region (sp F (p_lss rfl rfl) rfl rfl fun a F => c_nil (hK6 _ _ (?_)))
        try clear hK6 K6
        refine c_seq fun K7 hK7 => ?_
        by_cases c30 : k < (n2 : Int)
        · have F := F.setB (d := 30) rfl (decide_eq_true c30)
          refine c_ift F rfl (wp_skip (hK7 _ _ (?_)))
          try clear hK7 K7
          refine c_seq fun K8 hK8 => wp_block (c_seq fun K9 hK9 => c_region (sp F (p_move rfl) rfl rfl fun a F => ?_))
          obtain ⟨b32, o32, hp32, hb32, hc32⟩ := Arr.out hA2 (by omega)
          have hA32 := hA2; rw [hp32] at hA32 F
          rw [hp32] at hm_g_0
          obtain ⟨e32, he32⟩ := get_some (l := es2) (i := k) (by omega) (by first | omega | (simp; omega))
          refine sp F (p_iaddr rfl rfl Tryd.underlying28 Tryd.sz_9 (by omega) (by omega)) rfl rfl fun a F => sp F (p_load rfl Tryd.agg_9 (fun _ h => (ld1 (((O.old hb32 (by simp)).trans (hc32 _ _ he32 0 _ rfl))) h))) rfl rfl fun a F => sp F (p_assign rfl) rfl rfl fun a F => sp F (p_assign rfl) rfl rfl fun a F => c_nil (hK9 _ _ (?_))
          try clear hK9 K9
          refine c_seq fun K10 hK10 => c_region (sp F (p_move rfl) rfl rfl fun a F => sp F (p_sne rfl rfl) rfl rfl fun a F => sp F (p_move rfl) rfl rfl fun a F => ?_)
          by_cases c36 : e32 = ([42])
          · have F := F.setB (d := 35) rfl (decide_eq_false (fun h => h c36))
            have F := F.setB (d := 36) rfl (decide_eq_false (fun h => h c36))
            refine ss F rfl rfl fun a F => ss F rfl rfl fun a F => ss F rfl rfl fun a F => ss F rfl rfl fun a F => ss F rfl rfl fun a F => ss F rfl rfl fun a F => sp F (p_pick (t := false) rfl rfl) rfl rfl fun a F => c_nil (hK10 _ _ (?_))
            try clear hK10 K10
            refine c_iff F rfl (wp_skip (hK8 _ _ (?_)))
            try clear hK8 K8
            refine c_region (sp F (p_add rfl rfl (by omega) (by omega)) rfl rfl fun a F => sp F (p_move rfl) rfl rfl fun a F => c_nil (?_))
            try rw [← hp32] at F
            try rw [← hp32] at O
            have F : Has 45 [(0, .slice A n c), (1, .pointer (some ⟨g, 0, none⟩)), (26, .bool false), (27, .slice A2 n2 c2), (28, .int .i64 ((n2 : Int))), (29, .int .i64 (k + 1))] a := F.pick ⟨rfl, rfl, rfl, rfl, rfl, rfl, trivial⟩
            exact ⟨((n2 : Int) - (k + 1)).toNat, by omega, (k + 1), rfl, F, O, by first | assumption | omega, by first | assumption | omega, by exact mTo_step hi0c hi0a he32 (by first | exact .inl c36 | exact .inr (by rw [he40, c43]))⟩
          · have F := F.setB (d := 35) rfl (decide_eq_true c36)
            have F := F.setB (d := 36) rfl (decide_eq_true c36)
            refine sp F (p_move rfl) rfl rfl fun a F => sp F (p_move rfl) rfl rfl fun a F => sp F (p_move rfl) rfl rfl fun a F => ?_
            obtain ⟨b40, o40, hp40, hb40, hc40⟩ := Arr.out hA (by omega)
            have hA40 := hA; rw [hp40] at hA40 F
            obtain ⟨e40, he40⟩ := get_some (l := es) (i := k) (by omega) (by first | omega | (simp; omega))
            refine sp F (p_iaddr rfl rfl Tryd.underlying28 Tryd.sz_9 (by omega) (by omega)) rfl rfl fun a F => sp F (p_load rfl Tryd.agg_9 (fun _ h => (ld1 (((O.old hb40 (by simp)).trans (hc40 _ _ he40 0 _ rfl))) h))) rfl rfl fun a F => sp F (p_sne rfl rfl) rfl rfl fun a F => sp F (p_pick (t := true) rfl rfl) rfl rfl fun a F => c_nil (hK10 _ _ (?_))
            try clear hK10 K10
            by_cases c43 : e32 = e40
            · have F := F.setB (d := 42) rfl (decide_eq_false (fun h => h c43))
              have F := F.setB (d := 43) rfl (decide_eq_false (fun h => h c43))
              refine c_iff F rfl (wp_skip (hK8 _ _ (?_)))
              try clear hK8 K8
              refine c_region (sp F (p_add rfl rfl (by omega) (by omega)) rfl rfl fun a F => sp F (p_move rfl) rfl rfl fun a F => c_nil (?_))
              try rw [← hp40] at F
              try rw [← hp40] at O
              try rw [← hp32] at F
              try rw [← hp32] at O
              have F : Has 45 [(0, .slice A n c), (1, .pointer (some ⟨g, 0, none⟩)), (26, .bool false), (27, .slice A2 n2 c2), (28, .int .i64 ((n2 : Int))), (29, .int .i64 (k + 1))] a := F.pick ⟨rfl, rfl, rfl, rfl, rfl, rfl, trivial⟩
              exact ⟨((n2 : Int) - (k + 1)).toNat, by omega, (k + 1), rfl, F, O, by first | assumption | omega, by first | assumption | omega, by exact mTo_step hi0c hi0a he32 (by first | exact .inl c36 | exact .inr (by rw [he40, c43]))⟩
            · have F := F.setB (d := 42) rfl (decide_eq_true c43)
              have F := F.setB (d := 43) rfl (decide_eq_true c43)
              refine c_ift F rfl (c_seq fun K11 hK11 => c_region (sp F (p_assign rfl) rfl rfl fun a F => c_nil (hK11 _ _ (?_))))
              try clear hK11 K11
              refine wp_ret (r_block (r_then (r_then (r_block (r_then (ret1 F rfl rfl (?_)))))))
              exact ⟨congrArg Ending.returned (show Value.bool false = .bool (decide (mtcB es2 es = true)) from by first | exact vbf (mtc_not hi0a he32 c36 (by rw [he40]; intro h; injection h with h; exact c43 h.symm)) | exact vbf (mtc_short (by omega)) | exact vbf (mtc_star (by omega) (star_last hn2 h0 he22) c26)), O⟩
        · have F := F.setB (d := 30) rfl (decide_eq_false c30)
          refine c_iff F rfl (wp_exit (e_then (e_then (e_here (hK4 _ _ (?_))))))
          try clear hK4 K4
          refine c_seq fun K8 hK8 => c_region (sp F (p_assign rfl) rfl rfl fun a F => c_nil (hK8 _ _ (?_)))
          try clear hK8 K8
          refine wp_ret (ret1 F rfl rfl (?_))
          exact ⟨congrArg Ending.returned (show Value.bool true = .bool (decide (mtcB es2 es = true)) from by exact vbt (mtcB_iff.2 ⟨by first | exact .inl (by omega) | exact .inr ⟨by omega, by rw [star_last hn2 h0 he22, c26]⟩, by rw [show (es2.length : Int) = k by omega]; exact hi0c⟩)), O⟩

set_option maxRecDepth 100000 in
/-- impl.matcher -/
theorem matcher_ok (s : List UInt8) (m0 : Int) (w0 : World) (hs : (s.length : Int) ≤ 1048576) (hl_0 : 0 < w0.heap.size) (hm_0_0 : w0.cell? ⟨0, 0, none⟩ = some (.int .i64 (m0))) :
    Calls Tryd.prog 38 #[.string (bs (s))] w0 fun e w => ∃ (b : Nat), ∃ (q : Nat), e = .returned (.func (.func 47) #[] #[.pointer (some ⟨b, 0, none⟩)]) ∧ Own w0 [] [.cells b [.slice (some ⟨q, 0, none⟩) ((cutL s).length) ((cutL s).length)] 28, .row 9 1 (.slice (some ⟨q, 0, none⟩) ((cutL s).length) ((cutL s).length)) ((cutL s).length) ((cutL s).flatMap encStr)] w := by
  have O := Own.start w0
  refine enterO (n := 7) Tryd.func38 rfl rfl rfl O fun a w F O => ?_
  refine c_seq fun K1 hK1 => c_region (sp F (p_assign rfl) rfl rfl fun a F => c_nil (hK1 _ _ (?_)))
  try clear hK1 K1
  refine c_seq fun K2 hK2 => c_region (sp F (p_move rfl) rfl rfl fun a F => so F rfl (o_call (vs := #[.string (bs (s)), .string (bs ([47]))]) F Tryd.en_41 rfl rfl ((split_ok s m0 w (by first | omega | assumption | (simp; omega) | (exact hE _ (List.mem_of_getElem? (by assumption))) | (have := cut_small _ (List.mem_of_getElem? (by assumption)); omega)) (Nat.lt_of_lt_of_le hl_0 O.size) (((O.old hl_0 (by simp)).trans hm_0_0))).mono ?_)))
  rintro e w ⟨b5, rfl, K⟩
  refine ⟨_, rfl, fun a F => ?_⟩
  have O : Own w0 [] [.row 9 1 (.slice (some ⟨b5, 0, none⟩) ((cutL s).length) ((cutL s).length)) ((cutL s).length) ((cutL s).flatMap encStr)] w := O.call0 K
  clear K
  have O : Own w0 [] [.row 9 1 (.slice (some ⟨b5, 0, none⟩) ((cutL s).length) ((cutL s).length)) ((cutL s).length) ((cutL s).flatMap encStr)] w := O
  refine so F rfl (o_alloc F O Tryd.zero_28 rfl fun b3 w O a F => ?_)
  have O : Own w0 [] [.cells b3 [.slice none 0 0] 28, .row 9 1 (.slice (some ⟨b5, 0, none⟩) ((cutL s).length) ((cutL s).length)) ((cutL s).length) ((cutL s).flatMap encStr)] w := O
  refine so F rfl (o_store F O rfl rfl Tryd.sz_28 rfl rfl 0 rfl rfl fun w O => ?_)
  have O : Own w0 [] [.cells b3 [.slice (some ⟨b5, 0, none⟩) ((cutL s).length) ((cutL s).length)] 28, .row 9 1 (.slice (some ⟨b5, 0, none⟩) ((cutL s).length) ((cutL s).length)) ((cutL s).length) ((cutL s).flatMap encStr)] w := O
  refine c_nil (hK2 _ _ (?_))
  try clear hK2 K2
  refine c_seq fun K3 hK3 => c_region (sp F (p_makeFunc (vs := [.pointer (some ⟨b3, 0, none⟩)]) rfl) rfl rfl fun a F => sp F (p_assign rfl) rfl rfl fun a F => c_nil (hK3 _ _ (?_)))
  try clear hK3 K3
  refine wp_ret (ret1 F rfl rfl (?_))
  exact ⟨b3, b5, rfl, O⟩

set_option maxRecDepth 100000 in
/-- impl.NameMatches -/
theorem iNameMatches_ok (p : List UInt8) (s : List UInt8) (m0 : Int) (w0 : World) (hp : (p.length : Int) ≤ 1048576) (hs : (s.length : Int) ≤ 1048576) (hl_0 : 0 < w0.heap.size) (hm_0_0 : w0.cell? ⟨0, 0, none⟩ = some (.int .i64 (m0))) :
    Calls Tryd.prog 19 #[.string (bs (p)), .string (bs (s))] w0 fun e w => e = .returned (.bool (decide (matchB p s = true))) ∧ Own w0 [] [] w := by
  have O := Own.start w0
  have hcp := cut_len (s := p)
  refine enterO (n := 19) Tryd.func19 rfl rfl rfl O fun a w F O => ?_
  refine c_seq fun K1 hK1 => c_region (sp F (p_assign rfl) rfl rfl fun a F => c_nil (hK1 _ _ (?_)))
  try clear hK1 K1
  refine c_seq fun K2 hK2 => c_region (sp F (p_move rfl) rfl rfl fun a F => so F rfl (o_call (vs := #[.string (bs (s))]) F Tryd.en_21 rfl rfl ((iNameValid_ok s m0 w (by first | omega | assumption | (simp; omega) | (exact hE _ (List.mem_of_getElem? (by assumption))) | (have := cut_small _ (List.mem_of_getElem? (by assumption)); omega)) (Nat.lt_of_lt_of_le hl_0 O.size) (((O.old hl_0 (by simp)).trans hm_0_0))).mono ?_)))
  rintro e w ⟨rfl, K⟩
  refine ⟨_, rfl, fun a F => ?_⟩
  have O : Own w0 [] [] w := O.call0 K
  clear K
  have O : Own w0 [] [] w := O
  refine sp F (p_move rfl) rfl rfl fun a F => ?_
  by_cases c7 : validB s = true
  · have F := F.setB (d := 6) rfl (decide_eq_true c7)
    have F := F.setB (d := 7) rfl (decide_eq_true c7)
    refine sp F (p_move rfl) rfl rfl fun a F => sp F (p_len_b rfl Tryd.underlying9) rfl rfl fun a F => sp F (p_leq rfl rfl) rfl rfl fun a F => sp F (p_pick (t := true) rfl rfl) rfl rfl fun a F => sp F (p_move rfl) rfl rfl fun a F => ?_
    by_cases c12 : (p.length : Int) ≤ 12
    · have F := F.setB (d := 10) rfl (decide_eq_true c12)
      have F := F.setB (d := 11) rfl (decide_eq_true c12)
      have F := F.setB (d := 12) rfl (decide_eq_true c12)
      refine sp F (p_move rfl) rfl rfl fun a F => so F rfl (o_call (vs := #[.string (bs (p))]) F Tryd.en_38 rfl rfl ((matcher_ok p m0 w (by first | omega | assumption | (simp; omega) | (exact hE _ (List.mem_of_getElem? (by assumption))) | (have := cut_small _ (List.mem_of_getElem? (by assumption)); omega)) (Nat.lt_of_lt_of_le hl_0 O.size) (((O.old hl_0 (by simp)).trans hm_0_0))).mono ?_))
      rintro e w ⟨b14, q14, rfl, K⟩
      refine ⟨_, rfl, fun a F => ?_⟩
      have O : Own w0 [] [.cells b14 [.slice (some ⟨q14, 0, none⟩) ((cutL p).length) ((cutL p).length)] 28, .row 9 1 (.slice (some ⟨q14, 0, none⟩) ((cutL p).length) ((cutL p).length)) ((cutL p).length) ((cutL p).flatMap encStr)] w := O.call0 K
      clear K
      have O : Own w0 [] [.cells b14 [.slice (some ⟨q14, 0, none⟩) ((cutL p).length) ((cutL p).length)] 28, .row 9 1 (.slice (some ⟨q14, 0, none⟩) ((cutL p).length) ((cutL p).length)) ((cutL p).length) ((cutL p).flatMap encStr)] w := O
      refine sp F (p_move rfl) rfl rfl fun a F => so F rfl (o_call (vs := #[.string (bs (s))]) F Tryd.en_22 rfl rfl ((iNameParts_ok s m0 w (by first | omega | assumption | (simp; omega) | (exact hE _ (List.mem_of_getElem? (by assumption))) | (have := cut_small _ (List.mem_of_getElem? (by assumption)); omega)) (Nat.lt_of_lt_of_le hl_0 O.size) (((O.old hl_0 (by simp)).trans hm_0_0))).mono ?_))
      rintro e w ⟨P16, N16, C16, rfl, h16a, h16b, K⟩
      refine ⟨_, rfl, fun a F => ?_⟩
      have O : Own w0 [] [.row 9 1 (.slice P16 N16 C16) N16 ((partsL s).flatMap encStr), .cells b14 [.slice (some ⟨q14, 0, none⟩) ((cutL p).length) ((cutL p).length)] 28, .row 9 1 (.slice (some ⟨q14, 0, none⟩) ((cutL p).length) ((cutL p).length)) ((cutL p).length) ((cutL p).flatMap encStr)] w := O.call0 K
      clear K
      have O : Own w0 [] [.row 9 1 (.slice P16 N16 C16) N16 ((partsL s).flatMap encStr), .cells b14 [.slice (some ⟨q14, 0, none⟩) ((cutL p).length) ((cutL p).length)] 28, .row 9 1 (.slice (some ⟨q14, 0, none⟩) ((cutL p).length) ((cutL p).length)) ((cutL p).length) ((cutL p).flatMap encStr)] w := O
      refine so F rfl (o_callv (vs := #[.slice P16 N16 C16]) (lb := #[.pointer (some ⟨b14, 0, none⟩)]) F rfl (by simp) Tryd.en_47 rfl rfl ((matchCl_ok P16 N16 C16 (partsL s) (some ⟨q14, 0, none⟩) ((cutL p).length) ((cutL p).length) (cutL p) b14 w (O.arr 0 (es := partsL s) rfl encStr_len (by decide)) (by first | omega | (simp; done) | (simp; omega) | (simp at *; omega)) (by omega) (O.arr 2 (es := cutL p) rfl encStr_len (by decide)) (by first | omega | (simp; done) | (simp; omega) | (simp at *; omega)) (by omega) (by first | omega | exact cut_pos) (Res.holds_lt (O.has (i := 1) rfl) rfl) (O.load 1 rfl rfl)).mono ?_))
      rintro e w ⟨rfl, K⟩
      refine ⟨_, rfl, fun a F => ?_⟩
      have O : Own w0 [] [.row 9 1 (.slice P16 N16 C16) N16 ((partsL s).flatMap encStr), .cells b14 [.slice (some ⟨q14, 0, none⟩) ((cutL p).length) ((cutL p).length)] 28, .row 9 1 (.slice (some ⟨q14, 0, none⟩) ((cutL p).length) ((cutL p).length)) ((cutL p).length) ((cutL p).flatMap encStr)] w := O.call0 K
      clear K
      have O : Own w0 [] [.row 9 1 (.slice P16 N16 C16) N16 ((partsL s).flatMap encStr), .cells b14 [.slice (some ⟨q14, 0, none⟩) ((cutL p).length) ((cutL p).length)] 28, .row 9 1 (.slice (some ⟨q14, 0, none⟩) ((cutL p).length) ((cutL p).length)) ((cutL p).length) ((cutL p).flatMap encStr)] w := O
      refine sp F (p_pick (t := true) rfl rfl) rfl rfl fun a F => sp F (p_assign rfl) rfl rfl fun a F => c_nil (hK2 _ _ (?_))
      try clear hK2 K2
      refine wp_ret (ret1 F rfl rfl (?_))
      have O : Own w0 [] [] w := (O.take 0)
      exact ⟨congrArg Ending.returned (show Value.bool (decide (mtcB (cutL p) (partsL s) = true)) = .bool (decide (matchB p s = true)) from by exact vbi (by rw [parts_ok c7, matchB_iff]; exact ⟨fun h => ⟨⟨c7, c12⟩, h⟩, fun h => h.2⟩)), O⟩
    · have F := F.setB (d := 10) rfl (decide_eq_false c12)
      have F := F.setB (d := 11) rfl (decide_eq_false c12)
      have F := F.setB (d := 12) rfl (decide_eq_false c12)
      refine ss F rfl rfl fun a F => ss F rfl rfl fun a F => ss F rfl rfl fun a F => ss F rfl rfl fun a F => ss F rfl rfl fun a F => sp F (p_pick (t := false) rfl rfl) rfl rfl fun a F => sp F (p_assign rfl) rfl rfl fun a F => c_nil (hK2 _ _ (?_))
      try clear hK2 K2
      refine wp_ret (ret1 F rfl rfl (?_))
      exact ⟨congrArg Ending.returned (show Value.bool false = .bool (decide (matchB p s = true)) from by first | exact vbf (fun h => c12 (matchB_iff.1 h).1.2) | exact vbf (fun h => c7 (matchB_iff.1 h).1.1)), O⟩
  · have F := F.setB (d := 6) rfl (decide_eq_false c7)
    have F := F.setB (d := 7) rfl (decide_eq_false c7)
    refine ss F rfl rfl fun a F => ss F rfl rfl fun a F => ss F rfl rfl fun a F => sp F (p_pick (t := false) rfl rfl) rfl rfl fun a F => sp F (p_move rfl) rfl rfl fun a F => ss F rfl rfl fun a F => ss F rfl rfl fun a F => ss F rfl rfl fun a F => ss F rfl rfl fun a F => ss F rfl rfl fun a F => sp F (p_pick (t := false) rfl rfl) rfl rfl fun a F => sp F (p_assign rfl) rfl rfl fun a F => c_nil (?_)
    refine hK2 _ _ (?_)
    try clear hK2 K2
    refine wp_ret (ret1 F rfl rfl (?_))
    exact ⟨congrArg Ending.returned (show Value.bool false = .bool (decide (matchB p s = true)) from by first | exact vbf (fun h => c12 (matchB_iff.1 h).1.2) | exact vbf (fun h => c7 (matchB_iff.1 h).1.1)), O⟩

set_option maxRecDepth 100000 in
/-- spec.NameMatches -/
theorem sNameMatches_ok (p : List UInt8) (s : List UInt8) (w0 : World) (hp : (p.length : Int) ≤ 1048576) (hs : (s.length : Int) ≤ 1048576) :
    Calls Tryd.prog 20 #[.string (bs (p)), .string (bs (s))] w0 fun e w => e = .returned (.bool (decide (matchB p s = true))) ∧ Own w0 [] [] w := by
  have O := Own.start w0
  refine enterO (n := 60) Tryd.func20 rfl rfl rfl O fun a w F O => ?_
  refine c_seq fun K1 hK1 => c_region (sp F (p_assign rfl) rfl rfl fun a F => c_nil (hK1 _ _ (?_)))
  try clear hK1 K1
  refine c_seq fun K2 hK2 => c_seq fun K3 hK3 => c_region (sp F (p_move rfl) rfl rfl fun a F => so F rfl (o_call (vs := #[.string (bs (s))]) F Tryd.en_27 rfl rfl ((sNameValid_ok s w (by first | omega | assumption | (simp; omega) | (exact hE _ (List.mem_of_getElem? (by assumption))) | (have := cut_small _ (List.mem_of_getElem? (by assumption)); omega))).mono ?_)))
  rintro e w ⟨rfl, K⟩
  refine ⟨_, rfl, fun a F => ?_⟩
  have O : Own w0 [] [] w := O.call0 K
  clear K
  have O : Own w0 [] [] w := O
  by_cases c9 : validB s = true
  · have F := F.setB (d := 9) rfl (decide_eq_true c9)
    refine sp F (p_not rfl) rfl rfl fun a F => sp F (p_move rfl) rfl rfl fun a F => sp F (p_move rfl) rfl rfl fun a F => sp F (p_len_b rfl Tryd.underlying9) rfl rfl fun a F => sp F (p_gtr rfl rfl) rfl rfl fun a F => sp F (p_pick (t := false) rfl rfl) rfl rfl fun a F => c_nil (hK3 _ _ (?_))
    try clear hK3 K3
    by_cases c15 : 12 < (p.length : Int)
    · have F := F.setB (d := 14) rfl (decide_eq_true c15)
      have F := F.setB (d := 15) rfl (decide_eq_true c15)
      refine c_ift F rfl (c_seq fun K4 hK4 => c_region (sp F (p_assign rfl) rfl rfl fun a F => c_nil (hK4 _ _ (?_))))
      try clear hK4 K4
      refine wp_ret (r_then (ret1 F rfl rfl (?_)))
      exact ⟨congrArg Ending.returned (show Value.bool false = .bool (decide (matchB p s = true)) from by first | exact vbf (fun h => mtc_not hi0a he32 cc1 (by rw [he42]; intro h2; injection h2 with h2; exact c45 h2.symm) (matchB_iff.1 h).2) | exact vbf (fun h => mtc_short (by omega) (matchB_iff.1 h).2) | exact vbf (fun h => absurd (matchB_iff.1 h).1.2 (by omega)) | exact vbf (fun h => c9 (matchB_iff.1 h).1.1)), O⟩
    · have F := F.setB (d := 14) rfl (decide_eq_false c15)
      have F := F.setB (d := 15) rfl (decide_eq_false c15)
      refine c_iff F rfl (wp_skip (hK2 _ _ (?_)))
      try clear hK2 K2
      refine c_seq fun K4 hK4 => c_region (sp F (p_move rfl) rfl rfl fun a F => so F rfl (o_call (vs := #[.string (bs (p))]) F Tryd.en_39 rfl rfl ((l5Cut_ok p w (by first | omega | assumption | (simp; omega) | (exact hE _ (List.mem_of_getElem? (by assumption))) | (have := cut_small _ (List.mem_of_getElem? (by assumption)); omega))).mono ?_)))
      rintro e w ⟨P17, N17, C17, rfl, h17a, h17b, K⟩
      refine ⟨_, rfl, fun a F => ?_⟩
      have O : Own w0 [] [.row 9 1 (.slice P17 N17 C17) N17 ((cutL p).flatMap encStr)] w := O.call0 K
      clear K
      have O : Own w0 [] [.row 9 1 (.slice P17 N17 C17) N17 ((cutL p).flatMap encStr)] w := O
      refine sp F (p_assign rfl) rfl rfl fun a F => c_nil (hK4 _ _ (?_))
      try clear hK4 K4
      refine c_seq fun K5 hK5 => c_region (sp F (p_move rfl) rfl rfl fun a F => so F rfl (o_call (vs := #[.string (bs (s))]) F Tryd.en_39 rfl rfl ((l5Cut_ok s w (by first | omega | assumption | (simp; omega) | (exact hE _ (List.mem_of_getElem? (by assumption))) | (have := cut_small _ (List.mem_of_getElem? (by assumption)); omega))).mono ?_)))
      rintro e w ⟨P19, N19, C19, rfl, h19a, h19b, K⟩
      refine ⟨_, rfl, fun a F => ?_⟩
      have O : Own w0 [] [.row 9 1 (.slice P19 N19 C19) N19 ((cutL s).flatMap encStr), .row 9 1 (.slice P17 N17 C17) N17 ((cutL p).flatMap encStr)] w := O.call0 K
      clear K
      have O : Own w0 [] [.row 9 1 (.slice P19 N19 C19) N19 ((cutL s).flatMap encStr), .row 9 1 (.slice P17 N17 C17) N17 ((cutL p).flatMap encStr)] w := O
      refine sp F (p_assign rfl) rfl rfl fun a F => c_nil (hK5 _ _ (?_))
      try clear hK5 K5
      refine c_seq fun K6 hK6 => c_seq fun K7 hK7 => c_region (sp F (p_assign rfl) rfl rfl fun a F => c_nil (hK7 _ _ (?_)))
      try clear hK7 K7
      refine wp_block (?_)
      refine c_loop (fun mm a w => ∃ (k : Int), mm = ((N17 : Int) - k).toNat ∧ Has 60 [(0, .string (bs (p))), (1, .string (bs (s))), (15, .bool false), (5, .slice P17 N17 C17), (6, .slice P19 N19 C19), (7, .int .i64 (k))] a ∧ Own w0 [] [.row 9 1 (.slice P19 N19 C19) N19 ((cutL s).flatMap encStr), .row 9 1 (.slice P17 N17 C17) N17 ((cutL p).flatMap encStr)] w ∧ (0 ≤ k) ∧ (k ≤ N17) ∧ (k ≤ N19) ∧ (MTo k (cutL p) (cutL s))) ?_ ?_
      · have F : Has 60 [(0, .string (bs (p))), (1, .string (bs (s))), (15, .bool false), (5, .slice P17 N17 C17), (6, .slice P19 N19 C19), (7, .int .i64 (0))] a := F.pick ⟨rfl, rfl, rfl, rfl, rfl, rfl, trivial⟩
        exact ⟨((N17 : Int) - 0).toNat, 0, rfl, F, O, by first | assumption | omega, by first | assumption | omega, by first | assumption | omega, by exact mTo_zero⟩
      · rintro mm a w ⟨k, rfl, F, O, hi0a, hi0b, hi0c, hi0d⟩
        refine c_seq fun K8 hK8 => c_seq fun K9 hK9 => c_region (sp F (p_move rfl) rfl rfl fun a F => sp F (p_move rfl) rfl rfl fun a F => sp F (p_len_l rfl Tryd.underlying28) rfl rfl fun a F => sp F (p_lss rfl rfl) rfl rfl fun a F => c_nil (hK9 _ _ (?_)))
        try clear hK9 K9
        by_cases c23 : k < (N17 : Int)
        · have F := F.setB (d := 23) rfl (decide_eq_true c23)
          refine c_ift F rfl (wp_skip (hK8 _ _ (?_)))
          try clear hK8 K8
          refine c_seq fun K10 hK10 => wp_block (c_seq fun K11 hK11 => c_seq fun K12 hK12 => c_region (sp F (p_move rfl) rfl rfl fun a F => sp F (p_move rfl) rfl rfl fun a F => sp F (p_len_l rfl Tryd.underlying28) rfl rfl fun a F => sp F (p_eql rfl rfl) rfl rfl fun a F => c_nil (hK12 _ _ (?_))))
          try clear hK12 K12
          by_cases c29 : k = (N19 : Int)
          · have F := F.setB (d := 29) rfl (decide_eq_true c29)
            refine c_ift F rfl (c_seq fun K13 hK13 => c_region (sp F (p_assign rfl) rfl rfl fun a F => c_nil (hK13 _ _ (?_))))
            try clear hK13 K13
            refine wp_ret (r_then (r_block (r_then (r_then (r_block (r_then (ret1 F rfl rfl (?_))))))))
            have O : Own w0 [] [] w := (O.take 0)
            exact ⟨congrArg Ending.returned (show Value.bool false = .bool (decide (matchB p s = true)) from by first | exact vbf (fun h => mtc_not hi0a he32 cc1 (by rw [he42]; intro h2; injection h2 with h2; exact c45 h2.symm) (matchB_iff.1 h).2) | exact vbf (fun h => mtc_short (by omega) (matchB_iff.1 h).2) | exact vbf (fun h => absurd (matchB_iff.1 h).1.2 (by omega)) | exact vbf (fun h => c9 (matchB_iff.1 h).1.1)), O⟩
          · have F := F.setB (d := 29) rfl (decide_eq_false c29)
            refine c_iff F rfl (wp_skip (hK11 _ _ (?_)))
            try clear hK11 K11
            refine c_seq fun K13 hK13 => ?_
            obtain ⟨b32, hp32⟩ := O.rowSome 1 rfl (by omega)
            rw [hp32] at O
            try rw [hp32] at F
            obtain ⟨e32, he32⟩ := get_some (l := cutL p) (i := k) (by omega) (by first | omega | (simp; omega))
            by_cases cc1 : e32 = ([42])
            · refine c_draw Tryd.mixed (SC [(b32, 0 + (k : Int).toNat * 1, .string (bs (e32)))]) [] _ (fun a w h => h) ?_
              have O := O.drawn (w.drawn + 1)
              generalize { w with drawn := w.drawn + 1 } = w at O ⊢
              have hS : SC [(b32, 0 + (k : Int).toNat * 1, .string (bs (e32)))] w := (SC.cons ((O.loadRow 1 rfl (flat_get0 encStr_len he32 rfl))) SC.nil)
              refine d_take 0 rfl (by kernel_rfl) F (p_move rfl) rfl rfl hS fun a F => d_take 1 rfl (by kernel_rfl) F (p_move rfl) rfl rfl hS fun a F => d_take 2 rfl (by kernel_rfl) F (p_iaddr rfl rfl Tryd.underlying28 Tryd.sz_9 (by omega) (by omega)) rfl rfl hS fun a F => d_take 3 rfl (by kernel_rfl) F (p_load rfl Tryd.agg_9 (fun _ h => (SC.get h 0 rfl))) rfl rfl hS fun a F => d_take 4 rfl (by kernel_rfl) F (p_sne rfl rfl) rfl rfl hS fun a F => ?_
              have F := F.setB (d := 34) rfl (decide_eq_false (fun h => h cc1))
              refine d_take 5 rfl (by kernel_rfl) F (p_move rfl) rfl rfl hS fun a F => d_skip 6 rfl (by kernel_rfl) F rfl rfl hS fun a F => d_skip 7 rfl (by kernel_rfl) F rfl rfl hS fun a F => d_skip 8 rfl (by kernel_rfl) F rfl rfl hS fun a F => d_skip 9 rfl (by kernel_rfl) F rfl rfl hS fun a F => d_skip 10 rfl (by kernel_rfl) F rfl rfl hS fun a F => d_skip 11 rfl (by kernel_rfl) F rfl rfl hS fun a F => d_skip 12 rfl (by kernel_rfl) F rfl rfl hS fun a F => d_skip 13 rfl (by kernel_rfl) F rfl rfl hS fun a F => d_skip 14 rfl (by kernel_rfl) F rfl rfl hS fun a F => d_take 15 rfl (by kernel_rfl) F (p_pick (t := false) rfl rfl) rfl rfl hS fun a F => d_done (by kernel_rfl) (hK13 _ _ (?_))
              try clear hK13 K13
              refine c_iff F rfl (wp_skip (hK10 _ _ (?_)))
              try clear hK10 K10
              refine c_region (sp F (p_move rfl) rfl rfl fun a F => sp F (p_add rfl rfl (by omega) (by omega)) rfl rfl fun a F => sp F (p_assign rfl) rfl rfl fun a F => c_nil (?_))
              try rw [← hp32] at F
              try rw [← hp32] at O
              have F : Has 60 [(0, .string (bs (p))), (1, .string (bs (s))), (15, .bool false), (5, .slice P17 N17 C17), (6, .slice P19 N19 C19), (7, .int .i64 (k + 1))] a := F.pick ⟨rfl, rfl, rfl, rfl, rfl, rfl, trivial⟩
              exact ⟨((N17 : Int) - (k + 1)).toNat, by omega, (k + 1), rfl, F, O, by first | assumption | omega, by first | assumption | omega, by first | assumption | omega, by exact mTo_step hi0d hi0a he32 (by first | exact .inl cc1 | exact .inr (by rw [he42, c45]))⟩
            · obtain ⟨b42, hp42⟩ := O.rowSome 0 rfl (by omega)
              rw [hp42] at O
              try rw [hp42] at F
              obtain ⟨e42, he42⟩ := get_some (l := cutL s) (i := k) (by omega) (by first | omega | (simp; omega))
              refine c_draw Tryd.mixed (SC [(b32, 0 + (k : Int).toNat * 1, .string (bs (e32))), (b42, 0 + (k : Int).toNat * 1, .string (bs (e42)))]) [] _ (fun a w h => h) ?_
              have O := O.drawn (w.drawn + 1)
              generalize { w with drawn := w.drawn + 1 } = w at O ⊢
              have hS : SC [(b32, 0 + (k : Int).toNat * 1, .string (bs (e32))), (b42, 0 + (k : Int).toNat * 1, .string (bs (e42)))] w := (SC.cons ((O.loadRow 1 rfl (flat_get0 encStr_len he32 rfl))) (SC.cons ((O.loadRow 0 rfl (flat_get0 encStr_len he42 rfl))) SC.nil))
              refine d_take 0 rfl (by kernel_rfl) F (p_move rfl) rfl rfl hS fun a F => d_take 1 rfl (by kernel_rfl) F (p_move rfl) rfl rfl hS fun a F => d_take 2 rfl (by kernel_rfl) F (p_iaddr rfl rfl Tryd.underlying28 Tryd.sz_9 (by omega) (by omega)) rfl rfl hS fun a F => d_take 3 rfl (by kernel_rfl) F (p_load rfl Tryd.agg_9 (fun _ h => (SC.get h 0 rfl))) rfl rfl hS fun a F => d_take 4 rfl (by kernel_rfl) F (p_sne rfl rfl) rfl rfl hS fun a F => ?_
              have F := F.setB (d := 34) rfl (decide_eq_true cc1)
              refine d_take 5 rfl (by kernel_rfl) F (p_move rfl) rfl rfl hS fun a F => d_take 6 rfl (by kernel_rfl) F (p_move rfl) rfl rfl hS fun a F => d_take 7 rfl (by kernel_rfl) F (p_move rfl) rfl rfl hS fun a F => d_take 8 rfl (by kernel_rfl) F (p_iaddr rfl rfl Tryd.underlying28 Tryd.sz_9 (by omega) (by omega)) rfl rfl hS fun a F => d_take 9 rfl (by kernel_rfl) F (p_load rfl Tryd.agg_9 (fun _ h => (SC.get h 0 rfl))) rfl rfl hS fun a F => d_take 10 rfl (by kernel_rfl) F (p_move rfl) rfl rfl hS fun a F => d_take 11 rfl (by kernel_rfl) F (p_move rfl) rfl rfl hS fun a F => d_take 12 rfl (by kernel_rfl) F (p_iaddr rfl rfl Tryd.underlying28 Tryd.sz_9 (by omega) (by omega)) rfl rfl hS fun a F => d_take 13 rfl (by kernel_rfl) F (p_load rfl Tryd.agg_9 (fun _ h => (SC.get h 1 rfl))) rfl rfl hS fun a F => d_take 14 rfl (by kernel_rfl) F (p_sne rfl rfl) rfl rfl hS fun a F => d_take 15 rfl (by kernel_rfl) F (p_pick (t := true) rfl rfl) rfl rfl hS fun a F => d_done (by kernel_rfl) (hK13 _ _ (?_))
              try clear hK13 K13
              by_cases c45 : e32 = e42
              · have F := F.setB (d := 44) rfl (decide_eq_false (fun h => h c45))
                have F := F.setB (d := 45) rfl (decide_eq_false (fun h => h c45))
                refine c_iff F rfl (wp_skip (hK10 _ _ (?_)))
                try clear hK10 K10
                refine c_region (sp F (p_move rfl) rfl rfl fun a F => sp F (p_add rfl rfl (by omega) (by omega)) rfl rfl fun a F => sp F (p_assign rfl) rfl rfl fun a F => c_nil (?_))
                try rw [← hp42] at F
                try rw [← hp42] at O
                try rw [← hp32] at F
                try rw [← hp32] at O
                have F : Has 60 [(0, .string (bs (p))), (1, .string (bs (s))), (15, .bool false), (5, .slice P17 N17 C17), (6, .slice P19 N19 C19), (7, .int .i64 (k + 1))] a := F.pick ⟨rfl, rfl, rfl, rfl, rfl, rfl, trivial⟩
                exact ⟨((N17 : Int) - (k + 1)).toNat, by omega, (k + 1), rfl, F, O, by first | assumption | omega, by first | assumption | omega, by first | assumption | omega, by exact mTo_step hi0d hi0a he32 (by first | exact .inl cc1 | exact .inr (by rw [he42, c45]))⟩
              · have F := F.setB (d := 44) rfl (decide_eq_true c45)
                have F := F.setB (d := 45) rfl (decide_eq_true c45)
                refine c_ift F rfl (c_seq fun K14 hK14 => c_region (sp F (p_assign rfl) rfl rfl fun a F => c_nil (hK14 _ _ (?_))))
                try clear hK14 K14
                refine wp_ret (r_block (r_then (r_then (r_block (r_then (ret1 F rfl rfl (?_)))))))
                have O : Own w0 [] [] w := (O.take 0)
                exact ⟨congrArg Ending.returned (show Value.bool false = .bool (decide (matchB p s = true)) from by first | exact vbf (fun h => mtc_not hi0a he32 cc1 (by rw [he42]; intro h2; injection h2 with h2; exact c45 h2.symm) (matchB_iff.1 h).2) | exact vbf (fun h => mtc_short (by omega) (matchB_iff.1 h).2) | exact vbf (fun h => absurd (matchB_iff.1 h).1.2 (by omega)) | exact vbf (fun h => c9 (matchB_iff.1 h).1.1)), O⟩
        · have F := F.setB (d := 23) rfl (decide_eq_false c23)
          refine c_iff F rfl (wp_exit (e_then (e_then (e_here (hK6 _ _ (?_))))))
          try clear hK6 K6
          refine c_seq fun K10 hK10 => ?_
          have hcw := cut_pos (s := p)
          refine c_region (sp F (p_move rfl) rfl rfl fun a F => sp F (p_len_l rfl Tryd.underlying28) rfl rfl fun a F => sp F (p_move rfl) rfl rfl fun a F => sp F (p_len_l rfl Tryd.underlying28) rfl rfl fun a F => sp F (p_eql rfl rfl) rfl rfl fun a F => sp F (p_move rfl) rfl rfl fun a F => ?_)
          by_cases c51 : (N17 : Int) = (N19 : Int)
          · have F := F.setB (d := 50) rfl (decide_eq_true c51)
            have F := F.setB (d := 51) rfl (decide_eq_true c51)
            refine ss F rfl rfl fun a F => ss F rfl rfl fun a F => ss F rfl rfl fun a F => ss F rfl rfl fun a F => ss F rfl rfl fun a F => ss F rfl rfl fun a F => ss F rfl rfl fun a F => sp F (p_pick (t := true) rfl rfl) rfl rfl fun a F => sp F (p_assign rfl) rfl rfl fun a F => c_nil (hK10 _ _ (?_))
            try clear hK10 K10
            refine wp_ret (ret1 F rfl rfl (?_))
            have O : Own w0 [] [] w := (O.take 0)
            exact ⟨congrArg Ending.returned (show Value.bool true = .bool (decide (matchB p s = true)) from by exact vbt (matchB_iff.2 ⟨⟨c9, by omega⟩, mtcB_iff.2 ⟨.inl (by omega), by rw [show ((cutL p).length : Int) = k by omega]; exact hi0d⟩⟩)), O⟩
          · have F := F.setB (d := 50) rfl (decide_eq_false c51)
            have F := F.setB (d := 51) rfl (decide_eq_false c51)
            refine sp F (p_move rfl) rfl rfl fun a F => sp F (p_move rfl) rfl rfl fun a F => sp F (p_len_l rfl Tryd.underlying28) rfl rfl fun a F => sp F (p_sub rfl rfl (by omega) (by omega)) rfl rfl fun a F => ?_
            obtain ⟨b56, hp56⟩ := O.rowSome 1 rfl (by omega)
            rw [hp56] at O
            try rw [hp56] at F
            obtain ⟨e56, he56⟩ := get_some (l := cutL p) (i := (N17 : Int) - 1) (by omega) (by first | omega | (simp; omega))
            refine sp F (p_iaddr rfl rfl Tryd.underlying28 Tryd.sz_9 (by omega) (by omega)) rfl rfl fun a F => sp F (p_load rfl Tryd.agg_9 (fun _ h => (ld1 ((O.loadRow 1 rfl (flat_get0 encStr_len he56 rfl))) h))) rfl rfl fun a F => sp F (p_seq rfl rfl) rfl rfl fun a F => sp F (p_pick (t := false) rfl rfl) rfl rfl fun a F => sp F (p_assign rfl) rfl rfl fun a F => c_nil (hK10 _ _ (?_))
            try clear hK10 K10
            refine wp_ret (ret1 F rfl rfl (?_))
            have O : Own w0 [] [] w := (O.take 0)
            exact ⟨congrArg Ending.returned (show Value.bool (decide (e56 = ([42]))) = .bool (decide (matchB p s = true)) from by exact vbi ⟨fun h => matchB_iff.2 ⟨⟨c9, by omega⟩, mtcB_iff.2 ⟨.inr ⟨by omega, by rw [star_last h17a hcw he56, h]⟩, by rw [show ((cutL p).length : Int) = k by omega]; exact hi0d⟩⟩, fun h => Decidable.byContradiction fun h2 => mtc_star (by omega) (star_last h17a hcw he56) h2 (matchB_iff.1 h).2⟩), O⟩
  · have F := F.setB (d := 9) rfl (decide_eq_false c9)
    refine sp F (p_not rfl) rfl rfl fun a F => sp F (p_move rfl) rfl rfl fun a F => ss F rfl rfl fun a F => ss F rfl rfl fun a F => ss F rfl rfl fun a F => sp F (p_pick (t := true) rfl rfl) rfl rfl fun a F => c_nil (hK3 _ _ (?_))
    try clear hK3 K3
    refine c_ift F rfl (c_seq fun K4 hK4 => c_region (sp F (p_assign rfl) rfl rfl fun a F => c_nil (hK4 _ _ (?_))))
    try clear hK4 K4
    refine wp_ret (r_then (ret1 F rfl rfl (?_)))
    exact ⟨congrArg Ending.returned (show Value.bool false = .bool (decide (matchB p s = true)) from by first | exact vbf (fun h => mtc_not hi0a he32 cc1 (by rw [he42]; intro h2; injection h2 with h2; exact c45 h2.symm) (matchB_iff.1 h).2) | exact vbf (fun h => mtc_short (by omega) (matchB_iff.1 h).2) | exact vbf (fun h => absurd (matchB_iff.1 h).1.2 (by omega)) | exact vbf (fun h => c9 (matchB_iff.1 h).1.1)), O⟩

end Go.Proofs.YtjmnnogpinggmaaDoor
