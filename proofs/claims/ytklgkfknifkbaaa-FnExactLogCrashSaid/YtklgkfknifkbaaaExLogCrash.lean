/- The law FnExactLogCrash returns true for all arguments. No conditions. -/
import Derived.Test.YtklgkfknifkbaaaLCrash
import Derived.Test.YtklgkfknifkbaaaDisk
namespace Go.Proofs.Ytklgkfknifkbaaa
open Go.ChangeShapes Go.WideShapes Go.ChangeAt Go.RowKit
set_option linter.unusedVariables false
set_option linter.unusedSimpArgs false

set_option maxRecDepth 100000 in
/-- laws.FnExactLogCrash -/
theorem exLogCrash_ok (l : List UInt8) (n : Int) (k : Int) (w0 : World) (hb : (l.length : Int) ≤ 9223372036854775807) :
    Calls Try.prog 12 #[.agg #[.string (bs (l)), .int .i64 (n)], .int .i64 (k)] w0 fun e w => e = .returned (.bool true) ∧ Own w0 [] [] w := by
  have O := Own.start w0
  refine enterO (n := 25) Try.func12 rfl rfl rfl O fun a w F O => ?_
  refine c_seq fun K1 hK1 => c_region (so F rfl (o_box F O rfl rfl fun b2 w O a F => ?_))
  have O : Own w0 [] [.cells b2 [.string (bs (l)), .int .i64 (n)] 24] w := O
  refine sp F (p_assign rfl) rfl rfl fun a F => c_nil (hK1 _ _ (?_))
  try clear hK1 K1
  refine c_seq fun K2 hK2 => c_region (sp F (p_assign rfl) rfl rfl fun a F => c_nil (hK2 _ _ (?_)))
  try clear hK2 K2
  refine c_seq fun K3 hK3 => c_region (sp F (p_loadC (cs := [.string (bs (l)), .int .i64 (n)]) rfl Try.agg_24 Try.sz_24 (fun _ h => (CA.cons (ld1 (O.load 0 rfl rfl) h) (CA.cons (ld1 (O.load 0 rfl rfl) h) CA.nil)))) rfl rfl fun a F => sp F (p_move rfl) rfl rfl fun a F => so F rfl (o_call (vs := #[.agg #[.string (bs (l)), .int .i64 (n)], .int .i64 (1048576)]) F Try.en_25 rfl rfl ((szDisk_ok l n 1048576 w (by omega) (by omega) (by omega)).mono ?_)))
  rintro e w ⟨q10, rfl, h10a, K⟩
  refine ⟨_, rfl, fun a F => ?_⟩
  have O : Own w0 [] [.cells b2 [.string (bs (l)), .int .i64 (n)] 24] w := O.call0 K
  clear K
  have O : Own w0 [] [.cells b2 [.string (bs (l)), .int .i64 (n)] 24] w := O
  refine sp F (p_assign rfl) rfl rfl fun a F => c_nil (hK3 _ _ (?_))
  try clear hK3 K3
  refine c_seq fun K4 hK4 => c_seq fun K5 hK5 => c_region (sp F (p_move rfl) rfl rfl fun a F => sp F (p_lss rfl rfl) rfl rfl fun a F => c_nil (hK5 _ _ (?_)))
  try clear hK5 K5
  by_cases c12 : q10 < 0
  · have F := F.setB (d := 12) rfl (decide_eq_true c12)
    refine c_ift F rfl (c_seq fun K6 hK6 => c_region (sp F (p_assign rfl) rfl rfl fun a F => c_nil (hK6 _ _ (?_))))
    try clear hK6 K6
    refine wp_ret (r_then (ret1 F rfl rfl (?_)))
    have O : Own w0 [] [] w := (O.take 0)
    exact ⟨rfl, O⟩
  · have F := F.setB (d := 12) rfl (decide_eq_false c12)
    refine c_iff F rfl (wp_skip (hK4 _ _ (?_)))
    try clear hK4 K4
    refine c_seq fun K6 hK6 => c_region (sp F (p_loadC (cs := [.string (bs (l)), .int .i64 (n)]) rfl Try.agg_24 Try.sz_24 (fun _ h => (CA.cons (ld1 (O.load 0 rfl rfl) h) (CA.cons (ld1 (O.load 0 rfl rfl) h) CA.nil)))) rfl rfl fun a F => so F rfl (o_call (vs := #[.agg #[.string (bs (l)), .int .i64 (n)]]) F Try.en_27 rfl rfl ((toDisk_ok l n w).mono ?_)))
    rintro e w ⟨rfl, K⟩
    refine ⟨_, rfl, fun a F => ?_⟩
    have O : Own w0 [] [.cells b2 [.string (bs (l)), .int .i64 (n)] 24] w := O.call0 K
    clear K
    have O : Own w0 [] [.cells b2 [.string (bs (l)), .int .i64 (n)] 24] w := O
    refine sp F (p_move rfl) rfl rfl fun a F => so F rfl (o_call (vs := #[.agg #[.string (bs (l)), .int .i64 (n)], .int .i64 (k)]) F Try.en_42 rfl rfl ((sLogCrash_ok l n k w (by omega)).mono ?_))
    rintro e w ⟨rfl, K⟩
    refine ⟨_, rfl, fun a F => ?_⟩
    have O : Own w0 [] [.cells b2 [.string (bs (l)), .int .i64 (n)] 24] w := O.call0 K
    clear K
    have O : Own w0 [] [.cells b2 [.string (bs (l)), .int .i64 (n)] 24] w := O
    refine so F rfl (o_alloc F O Try.zero_27 rfl fun b6 w O a F => ?_)
    have O : Own w0 [] [.cells b6 [.string (bs ([])), .int .i64 (0)] 27, .cells b2 [.string (bs (l)), .int .i64 (n)] 24] w := O
    refine so F rfl (o_storeA (vs := [.string (bs (crL l n k)), .int .i64 (crN l n k)]) F O rfl rfl Try.sz_27 (by simp [Value.oneCell']) 0 rfl rfl fun w O => ?_)
    have O : Own w0 [] [.cells b6 [.string (bs (crL l n k)), .int .i64 (crN l n k)] 27, .cells b2 [.string (bs (l)), .int .i64 (n)] 24] w := O
    refine c_nil (hK6 _ _ (?_))
    try clear hK6 K6
    refine c_seq fun K7 hK7 => c_region (sp F (p_loadC (cs := [.string (bs (l)), .int .i64 (n)]) rfl Try.agg_24 Try.sz_24 (fun _ h => (CA.cons (ld1 (O.load 1 rfl rfl) h) (CA.cons (ld1 (O.load 1 rfl rfl) h) CA.nil)))) rfl rfl fun a F => so F rfl (o_call (vs := #[.agg #[.string (bs (l)), .int .i64 (n)]]) F Try.en_27 rfl rfl ((toDisk_ok l n w).mono ?_)))
    rintro e w ⟨rfl, K⟩
    refine ⟨_, rfl, fun a F => ?_⟩
    have O : Own w0 [] [.cells b6 [.string (bs (crL l n k)), .int .i64 (crN l n k)] 27, .cells b2 [.string (bs (l)), .int .i64 (n)] 24] w := O.call0 K
    clear K
    have O : Own w0 [] [.cells b6 [.string (bs (crL l n k)), .int .i64 (crN l n k)] 27, .cells b2 [.string (bs (l)), .int .i64 (n)] 24] w := O
    refine sp F (p_move rfl) rfl rfl fun a F => so F rfl (o_call (vs := #[.agg #[.string (bs (l)), .int .i64 (n)], .int .i64 (k)]) F Try.en_43 rfl rfl ((iLogCrash_ok l n k w (by omega)).mono ?_))
    rintro e w ⟨rfl, K⟩
    refine ⟨_, rfl, fun a F => ?_⟩
    have O : Own w0 [] [.cells b6 [.string (bs (crL l n k)), .int .i64 (crN l n k)] 27, .cells b2 [.string (bs (l)), .int .i64 (n)] 24] w := O.call0 K
    clear K
    have O : Own w0 [] [.cells b6 [.string (bs (crL l n k)), .int .i64 (crN l n k)] 27, .cells b2 [.string (bs (l)), .int .i64 (n)] 24] w := O
    refine so F rfl (o_alloc F O Try.zero_27 rfl fun b7 w O a F => ?_)
    have O : Own w0 [] [.cells b7 [.string (bs ([])), .int .i64 (0)] 27, .cells b6 [.string (bs (crL l n k)), .int .i64 (crN l n k)] 27, .cells b2 [.string (bs (l)), .int .i64 (n)] 24] w := O
    refine so F rfl (o_storeA (vs := [.string (bs (crL l n k)), .int .i64 (crN l n k)]) F O rfl rfl Try.sz_27 (by simp [Value.oneCell']) 0 rfl rfl fun w O => ?_)
    have O : Own w0 [] [.cells b7 [.string (bs (crL l n k)), .int .i64 (crN l n k)] 27, .cells b6 [.string (bs (crL l n k)), .int .i64 (crN l n k)] 27, .cells b2 [.string (bs (l)), .int .i64 (n)] 24] w := O
    refine c_nil (hK7 _ _ (?_))
    try clear hK7 K7
    refine c_seq fun K8 hK8 => c_seq fun K9 hK9 => c_region (sp F (p_loadC (cs := [.string (bs (crL l n k)), .int .i64 (crN l n k)]) rfl Try.agg_27 Try.sz_27 (fun _ h => (CA.cons (ld1 (O.load 0 rfl rfl) h) (CA.cons (ld1 (O.load 0 rfl rfl) h) CA.nil)))) rfl rfl fun a F => sp F (p_loadC (cs := [.string (bs (crL l n k)), .int .i64 (crN l n k)]) rfl Try.agg_27 Try.sz_27 (fun _ h => (CA.cons (ld1 (O.load 1 rfl rfl) h) (CA.cons (ld1 (O.load 1 rfl rfl) h) CA.nil)))) rfl rfl fun a F => so F rfl (o_call (vs := #[.agg #[.string (bs (crL l n k)), .int .i64 (crN l n k)], .agg #[.string (bs (crL l n k)), .int .i64 (crN l n k)]]) F Try.en_33 rfl rfl ((eqDisk_ok (crL l n k) (crN l n k) (crL l n k) (crN l n k) w).mono ?_)))
    rintro e w ⟨rfl, K⟩
    refine ⟨_, rfl, fun a F => ?_⟩
    have O : Own w0 [] [.cells b7 [.string (bs (crL l n k)), .int .i64 (crN l n k)] 27, .cells b6 [.string (bs (crL l n k)), .int .i64 (crN l n k)] 27, .cells b2 [.string (bs (l)), .int .i64 (n)] 24] w := O.call0 K
    clear K
    have c23 : (crL l n k) = (crL l n k) ∧ (crN l n k) = (crN l n k) := by exact ⟨rfl, rfl⟩
    have F := F.setB (d := 23) rfl (decide_eq_true c23)
    have O : Own w0 [] [.cells b7 [.string (bs (crL l n k)), .int .i64 (crN l n k)] 27, .cells b6 [.string (bs (crL l n k)), .int .i64 (crN l n k)] 27, .cells b2 [.string (bs (l)), .int .i64 (n)] 24] w := O
    refine sp F (p_not rfl) rfl rfl fun a F => c_nil (hK9 _ _ (?_))
    try clear hK9 K9
    refine c_iff F rfl (wp_skip (hK8 _ _ (?_)))
    try clear hK8 K8
    refine c_seq fun K10 hK10 => c_region (sp F (p_assign rfl) rfl rfl fun a F => c_nil (hK10 _ _ (?_)))
    try clear hK10 K10
    refine wp_ret (ret1 F rfl rfl (?_))
    have O : Own w0 [] [] w := (O.take 0)
    exact ⟨rfl, O⟩

set_option maxRecDepth 100000 in
theorem exLogCrash_lifted (os : Os) (started : os.Started) (H : Type) (enc : TypeId × Value → H) :
    ReturnsInHanded {} Try.checked os 12 .any (Rows.fnExactLogCrashSpec.pre6 enc Try.prog Try.f12 Rows.fnExactLogCrashRow.domain false) (Rows.fnExactLogCrashSpec.post enc Try.prog Try.f12 false true false false) := by
  have e0 : Rows.fnExactLogCrashRow.domain = [] := rfl
  rw [e0]
  refine lifted_of (C := Try.checked) Try.facts started (by kernel_rfl) Try.func12 rfl ?_ (tb := 4) (by kernel_rfl) Try.underlying4 (by kernel_rfl)
    (ChangeSpec.witness6 (enc := enc) (C := Try.checked) false ⟨#[], #[.agg #[.string ByteArray.empty,.int .i64 0], .int .i64 0], []⟩ 8 (by kernel_rfl) (by kernel_rfl) (by kernel_rfl) (by kernel_rfl)) ?_
  · intro ds hds
    match ds, hds with
    | [_, _], _ => rfl
  intro W base args ds p hval0 hA0
  have hval : ∀ (j : Nat) t v, Try.f12.params[j]? = some t → args[j]? = some v → Value.okWide Try.prog W .any base t v := hval0
  have hA : DataW.TrodAll enc Try.prog W 0 (fun _ => true) true Try.f12.params.toList args.toList ds p := hA0
  clear hA0 hval0
  show Calls Try.prog 12 args W _
  rw [Try.params12] at hA hval
  obtain ⟨v0, v1, d0, d1, p0, p1, hargs, rfl, rfl, h0, h1⟩ := trodAll_two hA
  obtain rfl : args = #[v0, v1] := by cases args; simp_all
  obtain ⟨s, n, rfl, hs, hn⟩ := open_disk (hval 0 24 v0 rfl rfl) h0
  obtain ⟨k, rfl⟩ := okWide_int Try.underlying3 (hval 1 3 v1 rfl rfl)
  rw [bs_of s] at hs ⊢
  exact (exLogCrash_ok _ n k W (by rw [bs_size] at hs; unfold maxLen at hs; omega)).mono fun e w' h => ⟨h.1, h.2.below⟩

theorem exLogCrash_pkg : ¬ Check.packageOf Try.f12.name = "main" := by
  intro h
  have h2 := congrArg String.toList h
  simp only [Check.packageOf, Try.f12] at h2
  simp at h2

theorem exLogCrash_closed : lawFacts Try.prog 12 Try.f12 Rows.fnExactLogCrashSpec Rows.fnExactLogCrashRow = true := by kernel_rfl
theorem exLogCrash_facts : joinedFacts Try.pinned.checked.prog 12 Try.f12 Rows.fnExactLogCrashSpec Rows.fnExactLogCrashRow = true := facts_of (P := Try.prog) Try.facts exLogCrash_closed

theorem exLogCrash_wrap : Func.isWrapper Try.pinned.checked.prog Try.f12 Rows.fnExactLogCrashRow.wrapper Rows.fnExactLogCrashRow.mainSum := by
  have e1 : Rows.fnExactLogCrashRow.wrapper = false := rfl
  have e2 : Rows.fnExactLogCrashRow.mainSum = "" := rfl
  rw [e1, e2]
  exact wrapper_of Try.pinned.checked.prog Try.f12 exLogCrash_pkg

/-- The statement. -/
theorem exLogCrash_over : Rows.fnExactLogCrashRow.holds Try.pinned (OpenSpec.ofChange Rows.fnExactLogCrashSpec) :=
  OpenClaim.holds_of_wide 12 Try.f12 rfl rfl rfl rfl rfl rfl rfl ⟨rfl, rfl, rfl, rfl, rfl⟩ rfl rfl rfl rfl rfl (by kernel_rfl) Try.func12 exLogCrash_facts
    (of_decide_eq_true (by kernel_rfl)) exLogCrash_wrap
    (fun os started H enc _ => exLogCrash_lifted os started H enc)
theorem exLogCrash_holds : Rows.FnExactLogCrashSaid := exLogCrash_over
#print axioms exLogCrash_holds

end Go.Proofs.Ytklgkfknifkbaaa
