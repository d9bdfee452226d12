/- Contracts of comparing operations and of what the laws on deltas draw. No conditions but those on lengths. -/
import Derived.Test.YtbhidkcljekobaaDelI
namespace Go.Proofs.Ytbhidkcljekobaa
open Go.ChangeShapes Go.WideShapes Go.ChangeAt Go.RowKit
set_option linter.unusedVariables false
set_option linter.unusedSimpArgs false


theorem opS : ∃ f0 f1 f2 : Field, Try.prog.underlying 43 = some (.struct #[f0, f1, f2]) ∧ (f0.name ≠ "_" ∧ f1.name ≠ "_" ∧ f2.name ≠ "_") ∧ (f0.offset = 0 ∧ f1.offset = 1 ∧ f2.offset = 2) ∧ (Try.prog.underlying f0.type = some (.int .i64) ∧ Try.prog.underlying f1.type = some (.int .i64) ∧ Try.prog.underlying f2.type = some .string) ∧ Try.prog.stoodInHeld 43 = false ∧ Try.prog.eqGuardType Try.prog.depth 43 = false :=
  ⟨_, _, _, Try.underlying43, ⟨by decide, by decide, by decide⟩, ⟨rfl, rfl, rfl⟩, ⟨Try.underlying3, Try.underlying3, Try.underlying9⟩, by kernel_rfl, by kernel_rfl⟩
section
variable {S : World → Prop} {Fr : List (Nat × Value)} {x y : Operand} {ty yt : TypeId} {i j i' j' : Int} {l m : List UInt8}
theorem run_op (w : World) : (Op.equalIn 10000 43 (.agg #[.int .i64 i, .int .i64 j, .string (bs l)]) (.agg #[.int .i64 i', .int .i64 j', .string (bs m)])).run Try.prog w = .ok (decide (i = i' ∧ j = j' ∧ l = m)) w := by
  obtain ⟨f0, f1, f2, hu, ⟨n0, n1, n2⟩, ⟨o0, o1, o2⟩, ⟨u0, u1, u2⟩, hs, _⟩ := opS
  have hf : Try.prog.fieldsOf 43 = #[f0, f1, f2] := by unfold Program.fieldsOf; rw [hu]
  have a0 : aggB Try.prog f0.type = some false := by unfold aggB; rw [u0]; rfl
  have a1 : aggB Try.prog f1.type = some false := by unfold aggB; rw [u1]; rfl
  have a2 : aggB Try.prog f2.type = some false := by unfold aggB; rw [u2]; rfl
  rw [run_equalIn_struct w 9999 43 _ _ (by rw [hf]; exact hu) hs, hf]
  simp only [Op.eqFields, n0, n1, n2, o0, o1, o2, ne_eq, not_false_eq_true, if_true, Sem.run_bind, part, run_isAgg a0, run_isAgg a1, run_isAgg a2, Result.andThen_ok]
  by_cases e : i = i'
  · by_cases e2 : j = j'
    · by_cases e3 : l = m <;> simp [run_equalIn_int w 9998 f0.type _ _ _ _ u0, run_equalIn_int w 9998 f1.type _ _ _ _ u1, run_equalIn_string w 9998 f2.type _ _ u2, bs_toList, e, e2, e3, run_isAgg a1, run_isAgg a2]
    · simp [run_equalIn_int w 9998 f0.type _ _ _ _ u0, run_equalIn_int w 9998 f1.type _ _ _ _ u1, e, e2, run_isAgg a1]
  · simp [run_equalIn_int w 9998 f0.type _ _ _ _ u0, e]
theorem p_neop (hx : ev Fr x = some (.agg #[.int .i64 i, .int .i64 j, .string (bs l)])) (hy : ev Fr y = some (.agg #[.int .i64 i', .int .i64 j', .string (bs m)])) : PureIf Try.prog S (.binOp .neq 43 x y yt) ty Fr (.bool (decide (¬ (i = i' ∧ j = j' ∧ l = m)))) := fun n a w dst pos aft g F hS => by
  obtain ⟨f0, f1, f2, hu, _, _, _, hs, hg⟩ := opS
  simp only [execOp, F.ev hx, F.ev hy, Sem.run_bind, run_eqGuard_agg w _ _ _ _ _ _ hg, Result.andThen_ok, run_neq_struct, run_op]
  by_cases e : i = i' ∧ j = j' ∧ l = m <;> simp [e]
end
set_option maxRecDepth 100000 in
/-- laws.sameOps -/
theorem sameOps_ok (A : Option Addr) (n : Nat) (c : Nat) (es : List (Int × Int × List UInt8)) (A2 : Option Addr) (n2 : Nat) (c2 : Nat) (es2 : List (Int × Int × List UInt8)) (w0 : World) (hA : Arr w0 encOp 3 A es) (hn : (n : Int) = es.length) (hb : (n : Int) ≤ 1048600) (hA2 : Arr w0 encOp 3 A2 es2) (hn2 : (n2 : Int) = es2.length) (hb2 : (n2 : Int) ≤ 1048600) :
    Calls Try.prog 26 #[.slice A n c, .slice A2 n2 c2] w0 fun e w => e = .returned (.bool (decide (es = es2))) ∧ Own w0 [] [] w := by
  have O := Own.start w0
  refine enterO (n := 26) Try.func26 rfl rfl rfl O fun a w F O => ?_
  refine c_seq fun K1 hK1 => c_region (sp F (p_assign rfl) rfl rfl fun a F => c_nil (hK1 _ _ (?_)))
  try clear hK1 K1
  refine c_seq fun K2 hK2 => c_seq fun K3 hK3 => c_region (sp F (p_move rfl) rfl rfl fun a F => sp F (p_len_l rfl Try.underlying23) rfl rfl fun a F => sp F (p_move rfl) rfl rfl fun a F => sp F (p_len_l rfl Try.underlying23) rfl rfl fun a F => sp F (p_neq rfl rfl) rfl rfl fun a F => c_nil (hK3 _ _ (?_)))
  try clear hK3 K3
  by_cases c10 : (n : Int) = (n2 : Int)
  · have F := F.setB (d := 10) rfl (decide_eq_false (fun h => h c10))
    refine c_iff F rfl (wp_skip (hK2 _ _ (?_)))
    try clear hK2 K2
    refine c_seq fun K4 hK4 => c_seq fun K5 hK5 => c_region (sp F (p_assign rfl) rfl rfl fun a F => c_nil (hK5 _ _ (?_)))
    try clear hK5 K5
    refine wp_block (?_)
    refine c_loop (fun mm a w => ∃ (k : Int), mm = ((n : Int) - k).toNat ∧ Has 26 [(0, .slice A n c), (1, .slice A2 n2 c2), (10, .bool false), (5, .int .i64 (k))] a ∧ Own w0 [] [] w ∧ (0 ≤ k) ∧ (k ≤ n) ∧ (SameTo k es es2)) ?_ ?_
    · have F : Has 26 [(0, .slice A n c), (1, .slice A2 n2 c2), (10, .bool false), (5, .int .i64 (0))] a := F.pick ⟨rfl, rfl, rfl, rfl, trivial⟩
      exact ⟨((n : Int) - 0).toNat, 0, rfl, F, O, by first | assumption | omega, by first | assumption | omega, by exact sameTo_zero⟩
    · rintro mm a w ⟨k, rfl, F, O, hi0a, hi0b, hi0c⟩
      refine c_seq fun K6 hK6 => c_seq fun K7 hK7 => c_region (sp F (p_move rfl) rfl rfl fun a F => sp F (p_move rfl) rfl rfl fun a F => sp F (p_len_l rfl Try.underlying23) rfl rfl fun a F => sp F (p_lss rfl rfl) rfl rfl fun a F => c_nil (hK7 _ _ (?_)))
      try clear hK7 K7
      by_cases c14 : k < (n : Int)
      · have F := F.setB (d := 14) rfl (decide_eq_true c14)
        refine c_ift F rfl (wp_skip (hK6 _ _ (?_)))
        try clear hK6 K6
        refine c_seq fun K8 hK8 => wp_block (c_seq fun K9 hK9 => ?_)
        obtain ⟨b19, o19, hp19, hb19, hc19⟩ := Arr.out hA (by omega)
        have hA19 := hA; rw [hp19] at hA19 F
        obtain ⟨e19, he19⟩ := get_some (l := es) (i := k) (by omega) (by first | omega | (simp; omega))
        obtain ⟨b23, o23, hp23, hb23, hc23⟩ := Arr.out hA2 (by omega)
        have hA23 := hA2; rw [hp23] at hA23 F
        obtain ⟨e23, he23⟩ := get_some (l := es2) (i := k) (by omega) (by first | omega | (simp; omega))
        refine c_draw Try.mixed (SC [(b19, o19 + (k : Int).toNat * 3, .int .i64 (e19.1)), (b19, o19 + (k : Int).toNat * 3 + 1, .int .i64 (e19.2.1)), (b19, o19 + (k : Int).toNat * 3 + 2, .string (bs (e19.2.2))), (b23, o23 + (k : Int).toNat * 3, .int .i64 (e23.1)), (b23, o23 + (k : Int).toNat * 3 + 1, .int .i64 (e23.2.1)), (b23, o23 + (k : Int).toNat * 3 + 2, .string (bs (e23.2.2)))]) [] _ (fun a w h => h) ?_
        have O := O.drawn (w.drawn + 1)
        generalize { w with drawn := w.drawn + 1 } = w at O ⊢
        have hS : SC [(b19, o19 + (k : Int).toNat * 3, .int .i64 (e19.1)), (b19, o19 + (k : Int).toNat * 3 + 1, .int .i64 (e19.2.1)), (b19, o19 + (k : Int).toNat * 3 + 2, .string (bs (e19.2.2))), (b23, o23 + (k : Int).toNat * 3, .int .i64 (e23.1)), (b23, o23 + (k : Int).toNat * 3 + 1, .int .i64 (e23.2.1)), (b23, o23 + (k : Int).toNat * 3 + 2, .string (bs (e23.2.2)))] w := (SC.cons (((O.old hb19 (by simp)).trans (hc19 _ _ he19 0 _ rfl))) (SC.cons (((O.old hb19 (by simp)).trans (hc19 _ _ he19 1 _ rfl))) (SC.cons (((O.old hb19 (by simp)).trans (hc19 _ _ he19 2 _ rfl))) (SC.cons (((O.old hb23 (by simp)).trans (hc23 _ _ he23 0 _ rfl))) (SC.cons (((O.old hb23 (by simp)).trans (hc23 _ _ he23 1 _ rfl))) (SC.cons (((O.old hb23 (by simp)).trans (hc23 _ _ he23 2 _ rfl))) SC.nil))))))
        refine d_take 0 rfl (by kernel_rfl) F (p_move rfl) rfl rfl hS fun a F => d_take 1 rfl (by kernel_rfl) F (p_move rfl) rfl rfl hS fun a F => d_take 2 rfl (by kernel_rfl) F (p_iaddr rfl rfl Try.underlying23 Try.sz_43 (by omega) (by omega)) rfl rfl hS fun a F => d_take 3 rfl (by kernel_rfl) F (p_loadC (cs := [.int .i64 (e19.1), .int .i64 (e19.2.1), .string (bs (e19.2.2))]) rfl Try.agg_43 Try.sz_43 (fun _ h => (CA.cons (SC.get h 0 rfl) (CA.cons (SC.get h 1 rfl) (CA.cons (SC.get h 2 rfl) CA.nil))))) rfl rfl hS fun a F => d_take 4 rfl (by kernel_rfl) F (p_move rfl) rfl rfl hS fun a F => d_take 5 rfl (by kernel_rfl) F (p_move rfl) rfl rfl hS fun a F => d_take 6 rfl (by kernel_rfl) F (p_iaddr rfl rfl Try.underlying23 Try.sz_43 (by omega) (by omega)) rfl rfl hS fun a F => d_take 7 rfl (by kernel_rfl) F (p_loadC (cs := [.int .i64 (e23.1), .int .i64 (e23.2.1), .string (bs (e23.2.2))]) rfl Try.agg_43 Try.sz_43 (fun _ h => (CA.cons (SC.get h 3 rfl) (CA.cons (SC.get h 4 rfl) (CA.cons (SC.get h 5 rfl) CA.nil))))) rfl rfl hS fun a F => d_take 8 rfl (by kernel_rfl) F (p_neop rfl rfl) rfl rfl hS fun a F => d_done (by kernel_rfl) (hK9 _ _ (?_))
        try clear hK9 K9
        by_cases c25 : ¬ (e19.1 = e23.1 ∧ e19.2.1 = e23.2.1 ∧ e19.2.2 = e23.2.2)
        · have F := F.setB (d := 25) rfl (decide_eq_true c25)
          refine c_ift F rfl (c_seq fun K10 hK10 => c_region (sp F (p_assign rfl) rfl rfl fun a F => c_nil (hK10 _ _ (?_))))
          try clear hK10 K10
          refine wp_ret (r_block (r_then (r_then (r_block (r_then (ret1 F rfl rfl (?_)))))))
          exact ⟨congrArg Ending.returned (show Value.bool false = .bool (decide (es = es2)) from by exact vbf (fun h => by subst h; first | omega | (rw [he19] at he23; injection he23 with h9; subst h9; exact c25 ⟨rfl, rfl, rfl⟩))), O⟩
        · have F := F.setB (d := 25) rfl (decide_eq_false c25)
          refine c_iff F rfl (wp_skip (hK8 _ _ (?_)))
          try clear hK8 K8
          refine c_region (sp F (p_move rfl) rfl rfl fun a F => sp F (p_add rfl rfl (by omega) (by omega)) rfl rfl fun a F => sp F (p_assign rfl) rfl rfl fun a F => c_nil (?_))
          try rw [← hp23] at F
          try rw [← hp23] at O
          try rw [← hp19] at F
          try rw [← hp19] at O
          have F : Has 26 [(0, .slice A n c), (1, .slice A2 n2 c2), (10, .bool false), (5, .int .i64 (k + 1))] a := F.pick ⟨rfl, rfl, rfl, rfl, trivial⟩
          exact ⟨((n : Int) - (k + 1)).toNat, by omega, (k + 1), rfl, F, O, by first | assumption | omega, by first | assumption | omega, by have h9 := Decidable.not_not.1 c25; exact sameTo_step hi0c hi0a he19 he23 (Prod.ext h9.1 (Prod.ext h9.2.1 h9.2.2))⟩
      · have F := F.setB (d := 14) rfl (decide_eq_false c14)
        refine c_iff F rfl (wp_exit (e_then (e_then (e_here (hK4 _ _ (?_))))))
        try clear hK4 K4
        refine c_seq fun K8 hK8 => c_region (sp F (p_assign rfl) rfl rfl fun a F => c_nil (hK8 _ _ (?_)))
        try clear hK8 K8
        refine wp_ret (ret1 F rfl rfl (?_))
        exact ⟨congrArg Ending.returned (show Value.bool true = .bool (decide (es = es2)) from by exact vbt (same_ext hi0c (by omega) (by omega))), O⟩
  · have F := F.setB (d := 10) rfl (decide_eq_true c10)
    refine c_ift F rfl (c_seq fun K4 hK4 => c_region (sp F (p_assign rfl) rfl rfl fun a F => c_nil (hK4 _ _ (?_))))
    try clear hK4 K4
    refine wp_ret (r_then (ret1 F rfl rfl (?_)))
    exact ⟨congrArg Ending.returned (show Value.bool false = .bool (decide (es = es2)) from by exact vbf (fun h => by subst h; first | omega | (rw [he19] at he23; injection he23 with h9; subst h9; exact c25 ⟨rfl, rfl, rfl⟩))), O⟩

set_option maxRecDepth 100000 in
/-- spec.DrawDeltaMake -/
theorem dDeltaMake_ok (A : Option Addr) (cn : Nat) (cc : Nat) (w0 : World) (hC : CodeIn w0 A cn cc) :
    Calls Try.prog 23 #[.slice A cn cc] w0 fun e w => ∃ (L : List UInt8), ∃ (M : List UInt8), e = .returned (.tuple #[.string (bs (L)), .string (bs (M))]) ∧ ((L.length : Int) ≤ 9) ∧ ((M.length : Int) ≤ 9) ∧ Own w0 [] [] w := by
  have O := Own.start w0
  have hcc : (cn : Int) ≤ cc := by have := hC.1; omega
  have hcm : (cc : Int) ≤ 9223372036854775807 := by have := hC.2.1; unfold maxLen at this; omega
  refine enterO (n := 28) Try.func23 rfl rfl rfl O fun a w F O => ?_
  refine c_seq fun K1 hK1 => c_region (sp F (p_assign rfl) rfl rfl fun a F => sp F (p_assign rfl) rfl rfl fun a F => c_nil (hK1 _ _ (?_)))
  try clear hK1 K1
  refine c_seq fun K2 hK2 => c_region (sp F (p_move rfl) rfl rfl fun a F => so F rfl (o_call (vs := #[.slice A cn cc]) F Try.en_29 rfl rfl ((l6Open_ok A cn cc w (by omega) (by omega)).mono ?_)))
  rintro e w ⟨b8, m8, rfl, h8a, h8b, K⟩
  refine ⟨_, rfl, fun a F => ?_⟩
  have O : Own w0 [] [.cells b8 [.slice A m8 cc, .int .i64 (0)] 78] w := O.call0 K
  clear K
  have hCode : Code w0 b8 A m8 := Code.of hC (by omega) (by omega) (O.fresh 0 rfl rfl)
  have O : Own w0 [] [.cells b8 [.slice A m8 cc, .int .i64 (0)] 78] w := O
  refine sp F (p_assign rfl) rfl rfl fun a F => c_nil (hK2 _ _ (?_))
  try clear hK2 K2
  refine c_seq fun K3 hK3 => c_region (sp F (p_move rfl) rfl rfl fun a F => so F rfl (o_call (vs := #[.pointer (some ⟨b8, 0, none⟩)]) F Try.en_31 rfl rfl ((l91Text_ok b8 A m8 cc 0 w (hCode.keep O (by simp)) (by omega) (by omega) (O.hand1 rfl)).mono ?_)))
  rintro e w ⟨L10, q10, rfl, h10a, h10b, h10c, K⟩
  refine ⟨_, rfl, fun a F => ?_⟩
  have O : Own w0 [] [.cells b8 [.slice A m8 cc, .int .i64 (q10)] 78] w := O.call1 K rfl
  clear K
  have O : Own w0 [] [.cells b8 [.slice A m8 cc, .int .i64 (q10)] 78] w := O
  refine sp F (p_assign rfl) rfl rfl fun a F => c_nil (hK3 _ _ (?_))
  try clear hK3 K3
  refine c_seq fun K4 hK4 => c_region (sp F (p_move rfl) rfl rfl fun a F => so F rfl (o_call (vs := #[.pointer (some ⟨b8, 0, none⟩)]) F Try.en_31 rfl rfl ((l91Text_ok b8 A m8 cc q10 w (hCode.keep O (by simp)) (by omega) (by omega) (O.hand1 rfl)).mono ?_)))
  rintro e w ⟨L12, q12, rfl, h12a, h12b, h12c, K⟩
  refine ⟨_, rfl, fun a F => ?_⟩
  have O : Own w0 [] [.cells b8 [.slice A m8 cc, .int .i64 (q12)] 78] w := O.call1 K rfl
  clear K
  have O : Own w0 [] [.cells b8 [.slice A m8 cc, .int .i64 (q12)] 78] w := O
  refine sp F (p_assign rfl) rfl rfl fun a F => c_nil (hK4 _ _ (?_))
  try clear hK4 K4
  refine c_seq fun K5 hK5 => c_seq fun K6 hK6 => c_region (sp F (p_move rfl) rfl rfl fun a F => sp F (p_len_b rfl Try.underlying9) rfl rfl fun a F => sp F (p_gtr rfl rfl) rfl rfl fun a F => sp F (p_move rfl) rfl rfl fun a F => ?_)
  by_cases c16 : 2 < (L10.length : Int)
  · have F := F.setB (d := 15) rfl (decide_eq_true c16)
    have F := F.setB (d := 16) rfl (decide_eq_true c16)
    refine sp F (p_move rfl) rfl rfl fun a F => so F rfl (o_call (vs := #[.pointer (some ⟨b8, 0, none⟩), .int .i64 (2)]) F Try.en_43 rfl rfl ((pick_ok b8 A m8 cc q12 2 78 w (hCode.keep O (by simp)) (by omega) (by omega) (by omega) (by omega) (O.hand1 rfl)).mono ?_))
    rintro e w ⟨r18, rfl, h18a, h18b, K⟩
    refine ⟨_, rfl, fun a F => ?_⟩
    have O : Own w0 [] [.cells b8 [.slice A m8 cc, .int .i64 (q12 + 1)] 78] w := O.call1 K rfl
    clear K
    have O : Own w0 [] [.cells b8 [.slice A m8 cc, .int .i64 (q12 + 1)] 78] w := O
    refine sp F (p_eql rfl rfl) rfl rfl fun a F => sp F (p_pick (t := true) rfl rfl) rfl rfl fun a F => c_nil (hK6 _ _ (?_))
    try clear hK6 K6
    by_cases c20 : r18 = 0
    · have F := F.setB (d := 19) rfl (decide_eq_true c20)
      have F := F.setB (d := 20) rfl (decide_eq_true c20)
      refine c_ift F rfl (?_)
      refine c_draw Try.mixed (SC []) [] _ (fun a w h => h) ?_
      have O := O.drawn (w.drawn + 1)
      generalize { w with drawn := w.drawn + 1 } = w at O ⊢
      have hS : SC [] w := SC.nil
      refine d_take 0 rfl (by kernel_rfl) F (p_move rfl) rfl rfl hS fun a F => d_take 1 rfl (by kernel_rfl) F (p_sfrom rfl rfl Try.underlying9 (by omega) (by omega)) rfl rfl hS fun a F => d_take 2 rfl (by kernel_rfl) F (p_move rfl) rfl rfl hS fun a F => d_take 3 rfl (by kernel_rfl) F (p_sto rfl rfl Try.underlying9 (by omega) (by omega)) rfl rfl hS fun a F => d_take 4 rfl (by kernel_rfl) F (p_cat rfl rfl (by first | omega | (simp; omega))) rfl rfl hS fun a F => d_take 5 rfl (by kernel_rfl) F (p_assign rfl) rfl rfl hS fun a F => d_done (by kernel_rfl) (hK5 _ _ (?_))
      try clear hK5 K5
      refine c_seq fun K7 hK7 => c_region (sp F (p_move rfl) rfl rfl fun a F => sp F (p_move rfl) rfl rfl fun a F => sp F (p_assign rfl) rfl rfl fun a F => sp F (p_assign rfl) rfl rfl fun a F => c_nil (hK7 _ _ (?_)))
      try clear hK7 K7
      refine wp_ret (ret2 F rfl rfl rfl (?_))
      have O : Own w0 [] [] w := (O.take 0)
      exact ⟨L10, ((L10.drop (1 : Int).toNat) ++ (L10.take (1 : Int).toNat)), congrArg Ending.returned (show Value.tuple #[.string (bs (L10)), .string (bs ((L10.drop (1 : Int).toNat) ++ (L10.take (1 : Int).toNat)))] = .tuple #[.string (bs (L10)), .string (bs (((L10.drop (1 : Int).toNat) ++ (L10.take (1 : Int).toNat))))] from by rw [show Value.string (bs ((L10.drop (1 : Int).toNat) ++ (L10.take (1 : Int).toNat))) = .string (bs (((L10.drop (1 : Int).toNat) ++ (L10.take (1 : Int).toNat)))) from by first | rfl | (simp; done)]), by first | omega | (simp; omega), by first | omega | (simp; omega), O⟩
    · have F := F.setB (d := 19) rfl (decide_eq_false c20)
      have F := F.setB (d := 20) rfl (decide_eq_false c20)
      refine c_iff F rfl (wp_skip (hK5 _ _ (?_)))
      try clear hK5 K5
      refine c_seq fun K7 hK7 => c_region (sp F (p_move rfl) rfl rfl fun a F => sp F (p_move rfl) rfl rfl fun a F => sp F (p_assign rfl) rfl rfl fun a F => sp F (p_assign rfl) rfl rfl fun a F => c_nil (hK7 _ _ (?_)))
      try clear hK7 K7
      refine wp_ret (ret2 F rfl rfl rfl (?_))
      have O : Own w0 [] [] w := (O.take 0)
      exact ⟨L10, L12, rfl, by first | omega | (simp; omega), by first | omega | (simp; omega), O⟩
  · have F := F.setB (d := 15) rfl (decide_eq_false c16)
    have F := F.setB (d := 16) rfl (decide_eq_false c16)
    refine ss F rfl rfl fun a F => ss F rfl rfl fun a F => ss F rfl rfl fun a F => sp F (p_pick (t := false) rfl rfl) rfl rfl fun a F => c_nil (hK6 _ _ (?_))
    try clear hK6 K6
    refine c_iff F rfl (wp_skip (hK5 _ _ (?_)))
    try clear hK5 K5
    refine c_seq fun K7 hK7 => c_region (sp F (p_move rfl) rfl rfl fun a F => sp F (p_move rfl) rfl rfl fun a F => sp F (p_assign rfl) rfl rfl fun a F => sp F (p_assign rfl) rfl rfl fun a F => c_nil (hK7 _ _ (?_)))
    try clear hK7 K7
    refine wp_ret (ret2 F rfl rfl rfl (?_))
    have O : Own w0 [] [] w := (O.take 0)
    exact ⟨L10, L12, rfl, by first | omega | (simp; omega), by first | omega | (simp; omega), O⟩

end Go.Proofs.Ytbhidkcljekobaa
