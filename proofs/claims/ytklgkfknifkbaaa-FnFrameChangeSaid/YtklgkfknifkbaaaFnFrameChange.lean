/- A changed frame is not read: the law FnFrameChange returns true. No conditions. -/
import Derived.Test.YtklgkfknifkbaaaLCrash
import Derived.Test.YtklgkfknifkbaaaLogM
import Derived.Test.YtklgkfknifkbaaaOpenC
namespace Go.Proofs.Ytklgkfknifkbaaa
open Go.ChangeShapes Go.WideShapes Go.ChangeAt Go.RowKit
set_option linter.unusedVariables false
set_option linter.unusedSimpArgs false

set_option maxRecDepth 100000 in
/-- laws.FnFrameChange -/
theorem frameChange_ok (A : Option Addr) (cn : Nat) (cc : Nat) (A2 : Option Addr) (cn2 : Nat) (cc2 : Nat) (w0 : World) (hC : CodeIn w0 A cn cc) (hC2 : CodeIn w0 A2 cn2 cc2) :
    Calls Try.prog 9 #[.slice A cn cc, .slice A2 cn2 cc2] w0 fun e w => e = .returned (.bool true) ∧ Own w0 [] [] w := by
  have O := Own.start w0
  have hcc : (cn : Int) ≤ cc := by have := hC.1; omega
  have hcm : (cc : Int) ≤ 9223372036854775807 := by have := hC.2.1; unfold maxLen at this; omega
  have hcc2 : (cn2 : Int) ≤ cc2 := by have := hC2.1; omega
  have hcm2 : (cc2 : Int) ≤ 9223372036854775807 := by have := hC2.2.1; unfold maxLen at this; omega
  refine enterO (n := 74) Try.func9 rfl rfl rfl O fun a w F O => ?_
  refine c_seq fun K1 hK1 => c_region (sp F (p_assign rfl) rfl rfl fun a F => c_nil (hK1 _ _ (?_)))
  try clear hK1 K1
  refine c_seq fun K2 hK2 => c_seq fun K3 hK3 => c_region (sp F (p_move rfl) rfl rfl fun a F => sp F (p_len_l rfl Try.underlying34) rfl rfl fun a F => sp F (p_gtr rfl rfl) rfl rfl fun a F => sp F (p_move rfl) rfl rfl fun a F => ?_)
  by_cases c15 : 1048576 < (cn : Int)
  · have F := F.setB (d := 14) rfl (decide_eq_true c15)
    have F := F.setB (d := 15) rfl (decide_eq_true c15)
    refine ss F rfl rfl fun a F => ss F rfl rfl fun a F => ss F rfl rfl fun a F => sp F (p_pick (t := true) rfl rfl) rfl rfl fun a F => c_nil (hK3 _ _ (?_))
    try clear hK3 K3
    refine c_ift F rfl (c_seq fun K4 hK4 => c_region (sp F (p_assign rfl) rfl rfl fun a F => c_nil (hK4 _ _ (?_))))
    try clear hK4 K4
    refine wp_ret (r_then (ret1 F rfl rfl (?_)))
    exact ⟨rfl, O⟩
  · have F := F.setB (d := 14) rfl (decide_eq_false c15)
    have F := F.setB (d := 15) rfl (decide_eq_false c15)
    refine sp F (p_move rfl) rfl rfl fun a F => sp F (p_len_l rfl Try.underlying34) rfl rfl fun a F => sp F (p_gtr rfl rfl) rfl rfl fun a F => sp F (p_pick (t := false) rfl rfl) rfl rfl fun a F => c_nil (hK3 _ _ (?_))
    try clear hK3 K3
    by_cases c19 : 1048576 < (cn2 : Int)
    · have F := F.setB (d := 18) rfl (decide_eq_true c19)
      have F := F.setB (d := 19) rfl (decide_eq_true c19)
      refine c_ift F rfl (c_seq fun K4 hK4 => c_region (sp F (p_assign rfl) rfl rfl fun a F => c_nil (hK4 _ _ (?_))))
      try clear hK4 K4
      refine wp_ret (r_then (ret1 F rfl rfl (?_)))
      exact ⟨rfl, O⟩
    · have F := F.setB (d := 18) rfl (decide_eq_false c19)
      have F := F.setB (d := 19) rfl (decide_eq_false c19)
      refine c_iff F rfl (wp_skip (hK2 _ _ (?_)))
      try clear hK2 K2
      refine c_seq fun K4 hK4 => c_region (sp F (p_move rfl) rfl rfl fun a F => so F rfl (o_call (vs := #[.slice A cn cc]) F Try.en_34 rfl rfl ((dLogFrame_ok A cn cc w (hC.keep O)).mono ?_)))
      rintro e w ⟨l21, rfl, h21a, K⟩
      refine ⟨_, rfl, fun a F => ?_⟩
      have O : Own w0 [] [] w := O.call0 K
      clear K
      have O : Own w0 [] [] w := O
      refine sp F (p_assign rfl) rfl rfl fun a F => c_nil (hK4 _ _ (?_))
      try clear hK4 K4
      refine c_seq fun K5 hK5 => c_region (sp F (p_move rfl) rfl rfl fun a F => so F rfl (o_call (vs := #[.string (bs (l21))]) F Try.en_30 rfl rfl ((iLogFrame_ok l21 w).mono ?_)))
      rintro e w ⟨rfl, K⟩
      refine ⟨_, rfl, fun a F => ?_⟩
      have O : Own w0 [] [] w := O.call0 K
      clear K
      have O : Own w0 [] [] w := O
      refine sp F (p_assign rfl) rfl rfl fun a F => c_nil (hK5 _ _ (?_))
      try clear hK5 K5
      refine c_seq fun K6 hK6 => c_region (sp F (p_move rfl) rfl rfl fun a F => so F rfl (o_call (vs := #[.string (bs (l21))]) F Try.en_29 rfl rfl ((sLogFrame_ok l21 w).mono ?_)))
      rintro e w ⟨rfl, K⟩
      refine ⟨_, rfl, fun a F => ?_⟩
      have O : Own w0 [] [] w := O.call0 K
      clear K
      have O : Own w0 [] [] w := O
      refine sp F (p_assign rfl) rfl rfl fun a F => c_nil (hK6 _ _ (?_))
      try clear hK6 K6
      refine c_seq fun K7 hK7 => c_seq fun K8 hK8 => c_region (sp F (p_move rfl) rfl rfl fun a F => sp F (p_move rfl) rfl rfl fun a F => sp F (p_sneL rfl rfl false (by simp)) rfl rfl fun a F => sp F (p_move rfl) rfl rfl fun a F => sp F (p_move rfl) rfl rfl fun a F => sp F (p_seq rfl rfl) rfl rfl fun a F => sp F (p_pick (t := false) rfl rfl) rfl rfl fun a F => c_nil (hK8 _ _ (?_)))
      try clear hK8 K8
      by_cases c32 : (lFrame l21) = ([])
      · have F := F.setB (d := 31) rfl (decide_eq_true c32)
        have F := F.setB (d := 32) rfl (decide_eq_true c32)
        refine c_ift F rfl (c_seq fun K9 hK9 => c_region (sp F (p_move rfl) rfl rfl fun a F => sp F (p_move rfl) rfl rfl fun a F => sp F (p_seqL rfl rfl true (by simp)) rfl rfl fun a F => sp F (p_assign rfl) rfl rfl fun a F => c_nil (hK9 _ _ (?_))))
        try clear hK9 K9
        refine wp_ret (r_then (ret1 F rfl rfl (?_)))
        exact ⟨rfl, O⟩
      · have F := F.setB (d := 31) rfl (decide_eq_false c32)
        have F := F.setB (d := 32) rfl (decide_eq_false c32)
        refine c_iff F rfl (wp_skip (hK7 _ _ (?_)))
        try clear hK7 K7
        refine c_seq fun K9 hK9 => ?_
        have hR := rec_of c32
        have hl := lFrame_len hR
        have hk0 := Int.emod_nonneg (cn2 : Int) (show (l21.length : Int) ≠ 0 by omega)
        have hk1 := Int.emod_lt_of_pos (cn2 : Int) (show (0 : Int) < l21.length by omega)
        refine c_region (sp F (p_move rfl) rfl rfl fun a F => sp F (p_len_l rfl Try.underlying34) rfl rfl fun a F => sp F (p_move rfl) rfl rfl fun a F => sp F (p_len_b rfl Try.underlying9) rfl rfl fun a F => sp F (p_rem rfl rfl (by omega) (by omega) (by omega)) rfl rfl fun a F => sp F (p_add rfl rfl (by omega) (by omega)) rfl rfl fun a F => sp F (p_assign rfl) rfl rfl fun a F => c_nil (hK9 _ _ (?_)))
        try clear hK9 K9
        refine c_seq fun K10 hK10 => ?_
        obtain ⟨k, hk⟩ : ∃ k, k = 1 + ((cn2 : Int) % (l21.length : Int)) := ⟨_, rfl⟩
        rw [← hk] at F
        have hb1 := byteAt_lo (lFrame l21) k
        have hb2 := byteAt_hi (lFrame l21) k
        have hxn := xor_near (x := (byteAt (lFrame l21) k).toNat) (q := (1 + ((cn2 : Int) % 2) : Int).toNat) (by omega) (by omega)
        refine c_draw Try.mixed (SC []) [] _ (fun a w h => h) ?_
        have O := O.drawn (w.drawn + 1)
        generalize { w with drawn := w.drawn + 1 } = w at O ⊢
        have hS : SC [] w := SC.nil
        refine d_take 0 rfl (by kernel_rfl) F (p_move rfl) rfl rfl hS fun a F => d_take 1 rfl (by kernel_rfl) F (p_move rfl) rfl rfl hS fun a F => d_take 2 rfl (by kernel_rfl) F (p_sto rfl rfl Try.underlying9 (by omega) (by omega)) rfl rfl hS fun a F => d_take 3 rfl (by kernel_rfl) F (p_move rfl) rfl rfl hS fun a F => d_take 4 rfl (by kernel_rfl) F (p_move rfl) rfl rfl hS fun a F => d_take 5 rfl (by kernel_rfl) F (p_index rfl rfl Try.underlying9 (by omega) (by omega)) rfl rfl hS fun a F => d_take 6 rfl (by kernel_rfl) F (p_move rfl) rfl rfl hS fun a F => d_take 7 rfl (by kernel_rfl) F (p_len_l rfl Try.underlying34) rfl rfl hS fun a F => d_take 8 rfl (by kernel_rfl) F (p_rem rfl rfl (by omega) (by omega) (by omega)) rfl rfl hS fun a F => d_take 9 rfl (by kernel_rfl) F (p_add rfl rfl (by omega) (by omega)) rfl rfl hS fun a F => d_take 10 rfl (by kernel_rfl) F (p_convu8s rfl (by rw [Try.underlying3]; rfl) Try.underlying5 (by omega) (by omega)) rfl rfl hS fun a F => d_take 11 rfl (by kernel_rfl) F (p_xor8 rfl rfl (by omega) (by omega) (by omega) (by omega)) rfl rfl hS fun a F => d_take 15 rfl (by kernel_rfl) F (p_move rfl) rfl rfl hS fun a F => ?_
        refine d_take 16 rfl (by kernel_rfl) F (p_move rfl) rfl rfl hS fun a F => d_take 17 rfl (by kernel_rfl) F (p_add rfl rfl (by omega) (by omega)) rfl rfl hS fun a F => d_take 18 rfl (by kernel_rfl) F (p_sfrom rfl rfl Try.underlying9 (by omega) (by omega)) rfl rfl hS fun a F => d_one 12 (by kernel_rfl) (d_op rfl F rfl (o_bslice (cs := [.int .u8 ((((byteAt (lFrame l21) k : Int).toNat ^^^ (1 + ((cn2 : Int) % 2) : Int).toNat : Nat) : Int))]) F O rfl Try.underlying34 Try.sz_5 Try.zero_5 rfl rfl rfl fun b54 w O a F => ?_))
        have O : Own w0 [] [.cells b54 [.int .u8 ((((byteAt (lFrame l21) k : Int).toNat ^^^ (1 + ((cn2 : Int) % 2) : Int).toNat : Nat) : Int))] 5] w := O
        refine ⟨fun _ => SC.nil, ?_⟩
        have hS : SC [] w := SC.nil
        refine d_one 13 (by kernel_rfl) (d_op rfl F rfl (o_pure F (p_cbs1 rfl Try.underlying34 Try.underlying5 Try.underlying9 (by omega) (by omega) (fun _ h => ld1 (O.load 0 rfl rfl) h)) rfl fun a F => ?_))
        have O : Own w0 [] [.cells b54 [.int .u8 ((((byteAt (lFrame l21) k : Int).toNat ^^^ (1 + ((cn2 : Int) % 2) : Int).toNat : Nat) : Int))] 5] w := O
        refine ⟨fun _ => SC.nil, ?_⟩
        have hS : SC [] w := SC.nil
        refine d_take 14 rfl (by kernel_rfl) F (p_cat rfl rfl (by first | omega | (simp; omega))) rfl rfl hS fun a F => d_take 19 rfl (by kernel_rfl) F (p_cat rfl rfl (by first | omega | (simp; omega))) rfl rfl hS fun a F => d_take 20 rfl (by kernel_rfl) F (p_assign rfl) rfl rfl hS fun a F => d_done (by kernel_rfl) (hK10 _ _ (?_))
        try clear hK10 K10
        refine c_seq fun K11 hK11 => c_region (sp F (p_move rfl) rfl rfl fun a F => so F rfl (o_call (vs := #[.string (bs ((((lFrame l21).take (k : Int).toNat) ++ ([UInt8.ofNat ((((byteAt (lFrame l21) k : Int).toNat ^^^ (1 + ((cn2 : Int) % 2) : Int).toNat : Nat) : Int) : Int).toNat])) ++ ((lFrame l21).drop (k + 1 : Int).toNat)))]) F Try.en_37 rfl rfl ((iLogScan_ok ((((lFrame l21).take (k : Int).toNat) ++ ([UInt8.ofNat ((((byteAt (lFrame l21) k : Int).toNat ^^^ (1 + ((cn2 : Int) % 2) : Int).toNat : Nat) : Int) : Int).toNat])) ++ ((lFrame l21).drop (k + 1 : Int).toNat)) w (by first | omega | (simp; done) | (simp; omega))).mono ?_)))
        rintro e w ⟨P64, N64, C64, rfl, h64a, h64b, h64c, K⟩
        refine ⟨_, rfl, fun a F => ?_⟩
        have O : Own w0 [] [.row 9 1 (.slice P64 N64 C64) N64 ((scan ((((lFrame l21).take (k : Int).toNat) ++ ([UInt8.ofNat ((((byteAt (lFrame l21) k : Int).toNat ^^^ (1 + ((cn2 : Int) % 2) : Int).toNat : Nat) : Int) : Int).toNat])) ++ ((lFrame l21).drop (k + 1 : Int).toNat))).flatMap encStr), .cells b54 [.int .u8 ((((byteAt (lFrame l21) k : Int).toNat ^^^ (1 + ((cn2 : Int) % 2) : Int).toNat : Nat) : Int))] 5] w := O.call0 K
        clear K
        have hs : scan ((((lFrame l21).take (k : Int).toNat) ++ ([UInt8.ofNat ((((byteAt (lFrame l21) k : Int).toNat ^^^ (1 + ((cn2 : Int) % 2) : Int).toNat : Nat) : Int) : Int).toNat])) ++ ((lFrame l21).drop (k + 1 : Int).toNat)) = [] := scan_changeI hR (by omega) (by omega) (by omega)
        rw [hs] at h64a
        have O : Own w0 [] [.row 9 1 (.slice P64 N64 C64) N64 ((scan ((((lFrame l21).take (k : Int).toNat) ++ ([UInt8.ofNat ((((byteAt (lFrame l21) k : Int).toNat ^^^ (1 + ((cn2 : Int) % 2) : Int).toNat : Nat) : Int) : Int).toNat])) ++ ((lFrame l21).drop (k + 1 : Int).toNat))).flatMap encStr), .cells b54 [.int .u8 ((((byteAt (lFrame l21) k : Int).toNat ^^^ (1 + ((cn2 : Int) % 2) : Int).toNat : Nat) : Int))] 5] w := O
        refine sp F (p_move rfl) rfl rfl fun a F => sp F (p_extract rfl rfl) rfl rfl fun a F => sp F (p_extract rfl rfl) rfl rfl fun a F => sp F (p_assign rfl) rfl rfl fun a F => sp F (p_assign rfl) rfl rfl fun a F => c_nil (hK11 _ _ (?_))
        try clear hK11 K11
        refine c_seq fun K12 hK12 => c_region (sp F (p_move rfl) rfl rfl fun a F => sp F (p_len_l rfl Try.underlying40) rfl rfl fun a F => sp F (p_eql rfl rfl) rfl rfl fun a F => ?_)
        have c69 : (N64 : Int) = 0 := by simp at h64a; omega
        have F := F.setB (d := 69) rfl (decide_eq_true c69)
        refine sp F (p_move rfl) rfl rfl fun a F => sp F (p_move rfl) rfl rfl fun a F => sp F (p_eql rfl rfl) rfl rfl fun a F => ?_
        have c72 : (used (scan ((((lFrame l21).take (k : Int).toNat) ++ ([UInt8.ofNat ((((byteAt (lFrame l21) k : Int).toNat ^^^ (1 + ((cn2 : Int) % 2) : Int).toNat : Nat) : Int) : Int).toNat])) ++ ((lFrame l21).drop (k + 1 : Int).toNat))) : Int) = 0 := by rw [hs]; rfl
        have F := F.setB (d := 72) rfl (decide_eq_true c72)
        refine sp F (p_pick (t := true) rfl rfl) rfl rfl fun a F => sp F (p_assign rfl) rfl rfl fun a F => c_nil (hK12 _ _ (?_))
        try clear hK12 K12
        refine wp_ret (ret1 F rfl rfl (?_))
        have O : Own w0 [] [] w := (O.take 0)
        exact ⟨rfl, O⟩

set_option maxRecDepth 100000 in
theorem frameChange_lifted (os : Os) (started : os.Started) (H : Type) (enc : TypeId × Value → H) :
    ReturnsInHanded {} Try.checked os 9 .any (Rows.fnFrameChangeSpec.pre6 enc Try.prog Try.f9 Rows.fnFrameChangeRow.domain false) (Rows.fnFrameChangeSpec.post enc Try.prog Try.f9 false true false false) := by
  have e0 : Rows.fnFrameChangeRow.domain = [] := rfl
  rw [e0]
  refine lifted_of (C := Try.checked) Try.facts started (by kernel_rfl) Try.func9 rfl ?_ (tb := 4) (by kernel_rfl) Try.underlying4 (by kernel_rfl)
    (ChangeSpec.witness6 (enc := enc) (C := Try.checked) false ⟨#[], #[.slice none 0 0, .slice none 0 0], []⟩ 8 (by kernel_rfl) (by kernel_rfl) (by kernel_rfl) (by kernel_rfl)) ?_
  · intro ds hds
    match ds, hds with
    | [_, _], _ => rfl
  intro W base args ds p hval0 hA0
  have hval : ∀ (j : Nat) t v, Try.f9.params[j]? = some t → args[j]? = some v → Value.okWide Try.prog W .any base t v := hval0
  have hA : DataW.TrodAll enc Try.prog W 0 (fun _ => true) true Try.f9.params.toList args.toList ds p := hA0
  clear hA0 hval0
  show Calls Try.prog 9 args W _
  rw [Try.params9] at hA hval
  obtain ⟨v0, v1, d0, d1, p0, p1, hargs, rfl, rfl, h0, h1⟩ := trodAll_two hA
  obtain rfl : args = #[v0, v1] := by cases args; simp_all
  obtain ⟨a, n, c, rfl, hC⟩ := open_codeIn (hval 0 34 v0 rfl rfl) h0
  obtain ⟨a2, n2, c2, rfl, hC2⟩ := open_codeIn (hval 1 34 v1 rfl rfl) h1
  exact (frameChange_ok a n c a2 n2 c2 W hC hC2).mono fun e w' h => ⟨h.1, h.2.below⟩

theorem frameChange_pkg : ¬ Check.packageOf Try.f9.name = "main" := by
  intro h
  have h2 := congrArg String.toList h
  simp only [Check.packageOf, Try.f9] at h2
  simp at h2

theorem frameChange_closed : lawFacts Try.prog 9 Try.f9 Rows.fnFrameChangeSpec Rows.fnFrameChangeRow = true := by kernel_rfl
theorem frameChange_facts : joinedFacts Try.pinned.checked.prog 9 Try.f9 Rows.fnFrameChangeSpec Rows.fnFrameChangeRow = true := facts_of (P := Try.prog) Try.facts frameChange_closed

theorem frameChange_wrap : Func.isWrapper Try.pinned.checked.prog Try.f9 Rows.fnFrameChangeRow.wrapper Rows.fnFrameChangeRow.mainSum := by
  have e1 : Rows.fnFrameChangeRow.wrapper = false := rfl
  have e2 : Rows.fnFrameChangeRow.mainSum = "" := rfl
  rw [e1, e2]
  exact wrapper_of Try.pinned.checked.prog Try.f9 frameChange_pkg

/-- The statement. -/
theorem frameChange_over : Rows.fnFrameChangeRow.holds Try.pinned (OpenSpec.ofChange Rows.fnFrameChangeSpec) :=
  OpenClaim.holds_of_wide 9 Try.f9 rfl rfl rfl rfl rfl rfl rfl ⟨rfl, rfl, rfl, rfl, rfl⟩ rfl rfl rfl rfl rfl (by kernel_rfl) Try.func9 frameChange_facts
    (of_decide_eq_true (by kernel_rfl)) frameChange_wrap
    (fun os started H enc _ => frameChange_lifted os started H enc)
theorem frameChange_holds : Rows.FnFrameChangeSaid := frameChange_over
#print axioms frameChange_holds

end Go.Proofs.Ytklgkfknifkbaaa
