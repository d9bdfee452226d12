/- A second failure changes nothing: the law FnCrashTwice returns true. No conditions. -/
import Derived.Test.YtklgkfknifkbaaaLCrash
import Derived.Test.YtklgkfknifkbaaaLogM
import Derived.Test.YtklgkfknifkbaaaOpenC
namespace Go.Proofs.Ytklgkfknifkbaaa
open Go.ChangeShapes Go.WideShapes Go.ChangeAt Go.RowKit
set_option linter.unusedVariables false
set_option linter.unusedSimpArgs false

set_option maxRecDepth 100000 in
/-- laws.FnCrashTwice -/
theorem crashTwice_ok (A : Option Addr) (cn : Nat) (cc : Nat) (A2 : Option Addr) (cn2 : Nat) (cc2 : Nat) (w0 : World) (hC : CodeIn w0 A cn cc) (hC2 : CodeIn w0 A2 cn2 cc2) :
    Calls Try.prog 17 #[.slice A cn cc, .slice A2 cn2 cc2] w0 fun e w => e = .returned (.bool true) ∧ Own w0 [] [] w := by
  have O := Own.start w0
  have hcc : (cn : Int) ≤ cc := by have := hC.1; omega
  have hcm : (cc : Int) ≤ 9223372036854775807 := by have := hC.2.1; unfold maxLen at this; omega
  have hcc2 : (cn2 : Int) ≤ cc2 := by have := hC2.1; omega
  have hcm2 : (cc2 : Int) ≤ 9223372036854775807 := by have := hC2.2.1; unfold maxLen at this; omega
  refine enterO (n := 50) Try.func17 rfl rfl rfl O fun a w F O => ?_
  refine c_seq fun K1 hK1 => c_region (sp F (p_assign rfl) rfl rfl fun a F => c_nil (hK1 _ _ (?_)))
  try clear hK1 K1
  refine c_seq fun K2 hK2 => c_seq fun K3 hK3 => c_region (sp F (p_move rfl) rfl rfl fun a F => sp F (p_len_l rfl Try.underlying34) rfl rfl fun a F => sp F (p_gtr rfl rfl) rfl rfl fun a F => sp F (p_move rfl) rfl rfl fun a F => ?_)
  by_cases c12 : 1048576 < (cn : Int)
  · have F := F.setB (d := 11) rfl (decide_eq_true c12)
    have F := F.setB (d := 12) rfl (decide_eq_true c12)
    refine ss F rfl rfl fun a F => ss F rfl rfl fun a F => ss F rfl rfl fun a F => sp F (p_pick (t := true) rfl rfl) rfl rfl fun a F => c_nil (hK3 _ _ (?_))
    try clear hK3 K3
    refine c_ift F rfl (c_seq fun K4 hK4 => c_region (sp F (p_assign rfl) rfl rfl fun a F => c_nil (hK4 _ _ (?_))))
    try clear hK4 K4
    refine wp_ret (r_then (ret1 F rfl rfl (?_)))
    exact ⟨rfl, O⟩
  · have F := F.setB (d := 11) rfl (decide_eq_false c12)
    have F := F.setB (d := 12) rfl (decide_eq_false c12)
    refine sp F (p_move rfl) rfl rfl fun a F => sp F (p_len_l rfl Try.underlying34) rfl rfl fun a F => sp F (p_gtr rfl rfl) rfl rfl fun a F => sp F (p_pick (t := false) rfl rfl) rfl rfl fun a F => c_nil (hK3 _ _ (?_))
    try clear hK3 K3
    by_cases c16 : 1048576 < (cn2 : Int)
    · have F := F.setB (d := 15) rfl (decide_eq_true c16)
      have F := F.setB (d := 16) rfl (decide_eq_true c16)
      refine c_ift F rfl (c_seq fun K4 hK4 => c_region (sp F (p_assign rfl) rfl rfl fun a F => c_nil (hK4 _ _ (?_))))
      try clear hK4 K4
      refine wp_ret (r_then (ret1 F rfl rfl (?_)))
      exact ⟨rfl, O⟩
    · have F := F.setB (d := 15) rfl (decide_eq_false c16)
      have F := F.setB (d := 16) rfl (decide_eq_false c16)
      refine c_iff F rfl (wp_skip (hK2 _ _ (?_)))
      try clear hK2 K2
      refine c_seq fun K4 hK4 => c_region (sp F (p_move rfl) rfl rfl fun a F => so F rfl (o_call (vs := #[.slice A cn cc]) F Try.en_48 rfl rfl ((dLogCrash_ok A cn cc w (hC.keep O)).mono ?_)))
      rintro e w ⟨l19, n19, k19, rfl, h19a, h19b, h19c, h19d, h19e, K⟩
      refine ⟨_, rfl, fun a F => ?_⟩
      have O : Own w0 [] [] w := O.call0 K
      clear K
      have O : Own w0 [] [] w := O
      refine sp F (p_move rfl) rfl rfl fun a F => sp F (p_extract rfl rfl) rfl rfl fun a F => sp F (p_extract rfl rfl) rfl rfl fun a F => so F rfl (o_alloc F O Try.zero_27 rfl fun b5 w O a F => ?_)
      have O : Own w0 [] [.cells b5 [.string (bs ([])), .int .i64 (0)] 27] w := O
      refine so F rfl (o_storeA (vs := [.string (bs (l19)), .int .i64 (n19)]) F O rfl rfl Try.sz_27 (by simp [Value.oneCell']) 0 rfl rfl fun w O => ?_)
      have O : Own w0 [] [.cells b5 [.string (bs (l19)), .int .i64 (n19)] 27] w := O
      refine sp F (p_assign rfl) rfl rfl fun a F => c_nil (hK4 _ _ (?_))
      try clear hK4 K4
      refine c_seq fun K5 hK5 => c_region (sp F (p_loadC (cs := [.string (bs (l19)), .int .i64 (n19)]) rfl Try.agg_27 Try.sz_27 (fun _ h => (CA.cons (ld1 (O.load 0 rfl rfl) h) (CA.cons (ld1 (O.load 0 rfl rfl) h) CA.nil)))) rfl rfl fun a F => sp F (p_move rfl) rfl rfl fun a F => so F rfl (o_call (vs := #[.agg #[.string (bs (l19)), .int .i64 (n19)], .int .i64 (k19)]) F Try.en_43 rfl rfl ((iLogCrash_ok l19 n19 k19 w (by omega)).mono ?_)))
      rintro e w ⟨rfl, K⟩
      refine ⟨_, rfl, fun a F => ?_⟩
      have O : Own w0 [] [.cells b5 [.string (bs (l19)), .int .i64 (n19)] 27] w := O.call0 K
      clear K
      have O : Own w0 [] [.cells b5 [.string (bs (l19)), .int .i64 (n19)] 27] w := O
      refine so F rfl (o_alloc F O Try.zero_27 rfl fun b7 w O a F => ?_)
      have O : Own w0 [] [.cells b7 [.string (bs ([])), .int .i64 (0)] 27, .cells b5 [.string (bs (l19)), .int .i64 (n19)] 27] w := O
      refine so F rfl (o_storeA (vs := [.string (bs (crL l19 n19 k19)), .int .i64 (crN l19 n19 k19)]) F O rfl rfl Try.sz_27 (by simp [Value.oneCell']) 0 rfl rfl fun w O => ?_)
      have O : Own w0 [] [.cells b7 [.string (bs (crL l19 n19 k19)), .int .i64 (crN l19 n19 k19)] 27, .cells b5 [.string (bs (l19)), .int .i64 (n19)] 27] w := O
      refine c_nil (hK5 _ _ (?_))
      try clear hK5 K5
      refine c_seq fun K6 hK6 => c_region (sp F (p_loadC (cs := [.string (bs (l19)), .int .i64 (n19)]) rfl Try.agg_27 Try.sz_27 (fun _ h => (CA.cons (ld1 (O.load 1 rfl rfl) h) (CA.cons (ld1 (O.load 1 rfl rfl) h) CA.nil)))) rfl rfl fun a F => sp F (p_move rfl) rfl rfl fun a F => so F rfl (o_call (vs := #[.agg #[.string (bs (l19)), .int .i64 (n19)], .int .i64 (k19)]) F Try.en_42 rfl rfl ((sLogCrash_ok l19 n19 k19 w (by omega)).mono ?_)))
      rintro e w ⟨rfl, K⟩
      refine ⟨_, rfl, fun a F => ?_⟩
      have O : Own w0 [] [.cells b7 [.string (bs (crL l19 n19 k19)), .int .i64 (crN l19 n19 k19)] 27, .cells b5 [.string (bs (l19)), .int .i64 (n19)] 27] w := O.call0 K
      clear K
      have O : Own w0 [] [.cells b7 [.string (bs (crL l19 n19 k19)), .int .i64 (crN l19 n19 k19)] 27, .cells b5 [.string (bs (l19)), .int .i64 (n19)] 27] w := O
      refine so F rfl (o_alloc F O Try.zero_27 rfl fun b8 w O a F => ?_)
      have O : Own w0 [] [.cells b8 [.string (bs ([])), .int .i64 (0)] 27, .cells b7 [.string (bs (crL l19 n19 k19)), .int .i64 (crN l19 n19 k19)] 27, .cells b5 [.string (bs (l19)), .int .i64 (n19)] 27] w := O
      refine so F rfl (o_storeA (vs := [.string (bs (crL l19 n19 k19)), .int .i64 (crN l19 n19 k19)]) F O rfl rfl Try.sz_27 (by simp [Value.oneCell']) 0 rfl rfl fun w O => ?_)
      have O : Own w0 [] [.cells b8 [.string (bs (crL l19 n19 k19)), .int .i64 (crN l19 n19 k19)] 27, .cells b7 [.string (bs (crL l19 n19 k19)), .int .i64 (crN l19 n19 k19)] 27, .cells b5 [.string (bs (l19)), .int .i64 (n19)] 27] w := O
      refine c_nil (hK6 _ _ (?_))
      try clear hK6 K6
      refine c_seq fun K7 hK7 => c_seq fun K8 hK8 => c_region (sp F (p_loadC (cs := [.string (bs (crL l19 n19 k19)), .int .i64 (crN l19 n19 k19)]) rfl Try.agg_27 Try.sz_27 (fun _ h => (CA.cons (ld1 (O.load 1 rfl rfl) h) (CA.cons (ld1 (O.load 1 rfl rfl) h) CA.nil)))) rfl rfl fun a F => sp F (p_loadC (cs := [.string (bs (crL l19 n19 k19)), .int .i64 (crN l19 n19 k19)]) rfl Try.agg_27 Try.sz_27 (fun _ h => (CA.cons (ld1 (O.load 0 rfl rfl) h) (CA.cons (ld1 (O.load 0 rfl rfl) h) CA.nil)))) rfl rfl fun a F => sp F (p_nesiL rfl rfl Try.si_27 false (by simp)) rfl rfl fun a F => sp F (p_move rfl) rfl rfl fun a F => sp F (p_loadC (cs := [.string (bs (l19)), .int .i64 (n19)]) rfl Try.agg_27 Try.sz_27 (fun _ h => (CA.cons (ld1 (O.load 2 rfl rfl) h) (CA.cons (ld1 (O.load 2 rfl rfl) h) CA.nil)))) rfl rfl fun a F => so F rfl (o_call (vs := #[.agg #[.string (bs (l19)), .int .i64 (n19)]]) F Try.en_26 rfl rfl ((sDiskValid_ok l19 n19 w).mono ?_)))
      rintro e w ⟨rfl, K⟩
      refine ⟨_, rfl, fun a F => ?_⟩
      have O : Own w0 [] [.cells b8 [.string (bs (crL l19 n19 k19)), .int .i64 (crN l19 n19 k19)] 27, .cells b7 [.string (bs (crL l19 n19 k19)), .int .i64 (crN l19 n19 k19)] 27, .cells b5 [.string (bs (l19)), .int .i64 (n19)] 27] w := O.call0 K
      clear K
      have O : Own w0 [] [.cells b8 [.string (bs (crL l19 n19 k19)), .int .i64 (crN l19 n19 k19)] 27, .cells b7 [.string (bs (crL l19 n19 k19)), .int .i64 (crN l19 n19 k19)] 27, .cells b5 [.string (bs (l19)), .int .i64 (n19)] 27] w := O
      by_cases c33 : (l19.length : Int) ≤ 120 ∧ 0 ≤ n19 ∧ n19 ≤ (l19.length : Int)
      · have F := F.setB (d := 33) rfl (decide_eq_true c33)
        refine sp F (p_not rfl) rfl rfl fun a F => sp F (p_pick (t := false) rfl rfl) rfl rfl fun a F => sp F (p_move rfl) rfl rfl fun a F => sp F (p_move rfl) rfl rfl fun a F => sp F (p_lss rfl rfl) rfl rfl fun a F => sp F (p_pick (t := false) rfl rfl) rfl rfl fun a F => c_nil (hK8 _ _ (?_))
        try clear hK8 K8
        by_cases c39 : k19 < 0
        · have F := F.setB (d := 38) rfl (decide_eq_true c39)
          have F := F.setB (d := 39) rfl (decide_eq_true c39)
          refine c_ift F rfl (c_seq fun K9 hK9 => c_region (sp F (p_loadC (cs := [.string (bs (crL l19 n19 k19)), .int .i64 (crN l19 n19 k19)]) rfl Try.agg_27 Try.sz_27 (fun _ h => (CA.cons (ld1 (O.load 1 rfl rfl) h) (CA.cons (ld1 (O.load 1 rfl rfl) h) CA.nil)))) rfl rfl fun a F => sp F (p_loadC (cs := [.string (bs (crL l19 n19 k19)), .int .i64 (crN l19 n19 k19)]) rfl Try.agg_27 Try.sz_27 (fun _ h => (CA.cons (ld1 (O.load 0 rfl rfl) h) (CA.cons (ld1 (O.load 0 rfl rfl) h) CA.nil)))) rfl rfl fun a F => sp F (p_eqsiL rfl rfl Try.si_27 true (by simp)) rfl rfl fun a F => sp F (p_assign rfl) rfl rfl fun a F => c_nil (hK9 _ _ (?_))))
          try clear hK9 K9
          refine wp_ret (r_then (ret1 F rfl rfl (?_)))
          have O : Own w0 [] [] w := (O.take 0)
          exact ⟨rfl, O⟩
        · have F := F.setB (d := 38) rfl (decide_eq_false c39)
          have F := F.setB (d := 39) rfl (decide_eq_false c39)
          refine c_iff F rfl (wp_skip (hK7 _ _ (?_)))
          try clear hK7 K7
          refine c_seq fun K9 hK9 => ?_
          have hV : CVal l19 n19 k19 := ⟨c33, by omega⟩
          have hcl := crL_le (l := l19) (n := n19) (k := k19)
          have hbd := crN_bd hV
          refine c_draw Try.mixed (SC [(b7, 0, .string (bs (crL l19 n19 k19))), (b7, 0 + 1, .int .i64 (crN l19 n19 k19))]) [] _ (fun a w h => h) ?_
          have O := O.drawn (w.drawn + 1)
          generalize { w with drawn := w.drawn + 1 } = w at O ⊢
          have hS : SC [(b7, 0, .string (bs (crL l19 n19 k19))), (b7, 0 + 1, .int .i64 (crN l19 n19 k19))] w := (SC.cons (O.load 1 rfl rfl) (SC.cons (O.load 1 rfl rfl) SC.nil))
          refine d_take 0 rfl (by kernel_rfl) F (p_loadC (cs := [.string (bs (crL l19 n19 k19)), .int .i64 (crN l19 n19 k19)]) rfl Try.agg_27 Try.sz_27 (fun _ h => (CA.cons (SC.get h 0 rfl) (CA.cons (SC.get h 1 rfl) CA.nil)))) rfl rfl hS fun a F => d_take 1 rfl (by kernel_rfl) F (p_move rfl) rfl rfl hS fun a F => d_take 2 rfl (by kernel_rfl) F (p_len_l rfl Try.underlying34) rfl rfl hS fun a F => d_take 3 rfl (by kernel_rfl) F (p_rem rfl rfl (by omega) (by omega) (by omega)) rfl rfl hS fun a F => d_take 5 rfl (by kernel_rfl) F (p_loadC (cs := [.string (bs (crL l19 n19 k19)), .int .i64 (crN l19 n19 k19)]) rfl Try.agg_27 Try.sz_27 (fun _ h => (CA.cons (SC.get h 0 rfl) (CA.cons (SC.get h 1 rfl) CA.nil)))) rfl rfl hS fun a F => d_one 4 (by kernel_rfl) (d_op rfl F rfl (o_call (vs := #[.agg #[.string (bs (crL l19 n19 k19)), .int .i64 (crN l19 n19 k19)], .int .i64 ((cn2 : Int) % 7)]) F Try.en_43 rfl rfl ((iLogCrash_ok (crL l19 n19 k19) (crN l19 n19 k19) ((cn2 : Int) % 7) w (by omega)).mono ?_)))
          rintro e w ⟨rfl, K⟩
          refine ⟨_, rfl, fun a F => ?_⟩
          have O : Own w0 [] [.cells b8 [.string (bs (crL l19 n19 k19)), .int .i64 (crN l19 n19 k19)] 27, .cells b7 [.string (bs (crL l19 n19 k19)), .int .i64 (crN l19 n19 k19)] 27, .cells b5 [.string (bs (l19)), .int .i64 (n19)] 27] w := O.call0 K
          clear K
          have O : Own w0 [] [.cells b8 [.string (bs (crL l19 n19 k19)), .int .i64 (crN l19 n19 k19)] 27, .cells b7 [.string (bs (crL l19 n19 k19)), .int .i64 (crN l19 n19 k19)] 27, .cells b5 [.string (bs (l19)), .int .i64 (n19)] 27] w := O
          refine ⟨fun _ => (SC.cons (O.load 1 rfl rfl) (SC.cons (O.load 1 rfl rfl) SC.nil)), ?_⟩
          have hS : SC [(b7, 0, .string (bs (crL l19 n19 k19))), (b7, 0 + 1, .int .i64 (crN l19 n19 k19))] w := (SC.cons (O.load 1 rfl rfl) (SC.cons (O.load 1 rfl rfl) SC.nil))
          refine d_take 6 rfl (by kernel_rfl) F (p_eqsi rfl rfl Try.si_27) rfl rfl hS fun a F => ?_
          have c49 : (crL (crL l19 n19 k19) (crN l19 n19 k19) ((cn2 : Int) % 7)) = (crL l19 n19 k19) ∧ (crN (crL l19 n19 k19) (crN l19 n19 k19) ((cn2 : Int) % 7)) = (crN l19 n19 k19) := by exact cr_twice hV (by omega)
          have F := F.setB (d := 49) rfl (decide_eq_true c49)
          refine d_take 7 rfl (by kernel_rfl) F (p_assign rfl) rfl rfl hS fun a F => d_done (by kernel_rfl) (hK9 _ _ (?_))
          try clear hK9 K9
          refine wp_ret (ret1 F rfl rfl (?_))
          have O : Own w0 [] [] w := (O.take 0)
          exact ⟨rfl, O⟩
      · have F := F.setB (d := 33) rfl (decide_eq_false c33)
        refine sp F (p_not rfl) rfl rfl fun a F => sp F (p_pick (t := false) rfl rfl) rfl rfl fun a F => sp F (p_move rfl) rfl rfl fun a F => ss F rfl rfl fun a F => ss F rfl rfl fun a F => sp F (p_pick (t := true) rfl rfl) rfl rfl fun a F => c_nil (hK8 _ _ (?_))
        try clear hK8 K8
        refine c_ift F rfl (c_seq fun K9 hK9 => c_region (sp F (p_loadC (cs := [.string (bs (crL l19 n19 k19)), .int .i64 (crN l19 n19 k19)]) rfl Try.agg_27 Try.sz_27 (fun _ h => (CA.cons (ld1 (O.load 1 rfl rfl) h) (CA.cons (ld1 (O.load 1 rfl rfl) h) CA.nil)))) rfl rfl fun a F => sp F (p_loadC (cs := [.string (bs (crL l19 n19 k19)), .int .i64 (crN l19 n19 k19)]) rfl Try.agg_27 Try.sz_27 (fun _ h => (CA.cons (ld1 (O.load 0 rfl rfl) h) (CA.cons (ld1 (O.load 0 rfl rfl) h) CA.nil)))) rfl rfl fun a F => sp F (p_eqsiL rfl rfl Try.si_27 true (by simp)) rfl rfl fun a F => sp F (p_assign rfl) rfl rfl fun a F => c_nil (hK9 _ _ (?_))))
        try clear hK9 K9
        refine wp_ret (r_then (ret1 F rfl rfl (?_)))
        have O : Own w0 [] [] w := (O.take 0)
        exact ⟨rfl, O⟩

set_option maxRecDepth 100000 in
theorem crashTwice_lifted (os : Os) (started : os.Started) (H : Type) (enc : TypeId × Value → H) :
    ReturnsInHanded {} Try.checked os 17 .any (Rows.fnCrashTwiceSpec.pre6 enc Try.prog Try.f17 Rows.fnCrashTwiceRow.domain false) (Rows.fnCrashTwiceSpec.post enc Try.prog Try.f17 false true false false) := by
  have e0 : Rows.fnCrashTwiceRow.domain = [] := rfl
  rw [e0]
  refine lifted_of (C := Try.checked) Try.facts started (by kernel_rfl) Try.func17 rfl ?_ (tb := 4) (by kernel_rfl) Try.underlying4 (by kernel_rfl)
    (ChangeSpec.witness6 (enc := enc) (C := Try.checked) false ⟨#[], #[.slice none 0 0, .slice none 0 0], []⟩ 8 (by kernel_rfl) (by kernel_rfl) (by kernel_rfl) (by kernel_rfl)) ?_
  · intro ds hds
    match ds, hds with
    | [_, _], _ => rfl
  intro W base args ds p hval0 hA0
  have hval : ∀ (j : Nat) t v, Try.f17.params[j]? = some t → args[j]? = some v → Value.okWide Try.prog W .any base t v := hval0
  have hA : DataW.TrodAll enc Try.prog W 0 (fun _ => true) true Try.f17.params.toList args.toList ds p := hA0
  clear hA0 hval0
  show Calls Try.prog 17 args W _
  rw [Try.params17] at hA hval
  obtain ⟨v0, v1, d0, d1, p0, p1, hargs, rfl, rfl, h0, h1⟩ := trodAll_two hA
  obtain rfl : args = #[v0, v1] := by cases args; simp_all
  obtain ⟨a, n, c, rfl, hC⟩ := open_codeIn (hval 0 34 v0 rfl rfl) h0
  obtain ⟨a2, n2, c2, rfl, hC2⟩ := open_codeIn (hval 1 34 v1 rfl rfl) h1
  exact (crashTwice_ok a n c a2 n2 c2 W hC hC2).mono fun e w' h => ⟨h.1, h.2.below⟩

theorem crashTwice_pkg : ¬ Check.packageOf Try.f17.name = "main" := by
  intro h
  have h2 := congrArg String.toList h
  simp only [Check.packageOf, Try.f17] at h2
  simp at h2

theorem crashTwice_closed : lawFacts Try.prog 17 Try.f17 Rows.fnCrashTwiceSpec Rows.fnCrashTwiceRow = true := by kernel_rfl
theorem crashTwice_facts : joinedFacts Try.pinned.checked.prog 17 Try.f17 Rows.fnCrashTwiceSpec Rows.fnCrashTwiceRow = true := facts_of (P := Try.prog) Try.facts crashTwice_closed

theorem crashTwice_wrap : Func.isWrapper Try.pinned.checked.prog Try.f17 Rows.fnCrashTwiceRow.wrapper Rows.fnCrashTwiceRow.mainSum := by
  have e1 : Rows.fnCrashTwiceRow.wrapper = false := rfl
  have e2 : Rows.fnCrashTwiceRow.mainSum = "" := rfl
  rw [e1, e2]
  exact wrapper_of Try.pinned.checked.prog Try.f17 crashTwice_pkg

/-- The statement. -/
theorem crashTwice_over : Rows.fnCrashTwiceRow.holds Try.pinned (OpenSpec.ofChange Rows.fnCrashTwiceSpec) :=
  OpenClaim.holds_of_wide 17 Try.f17 rfl rfl rfl rfl rfl rfl rfl ⟨rfl, rfl, rfl, rfl, rfl⟩ rfl rfl rfl rfl rfl (by kernel_rfl) Try.func17 crashTwice_facts
    (of_decide_eq_true (by kernel_rfl)) crashTwice_wrap
    (fun os started H enc _ => crashTwice_lifted os started H enc)
theorem crashTwice_holds : Rows.FnCrashTwiceSaid := crashTwice_over
#print axioms crashTwice_holds

end Go.Proofs.Ytklgkfknifkbaaa
