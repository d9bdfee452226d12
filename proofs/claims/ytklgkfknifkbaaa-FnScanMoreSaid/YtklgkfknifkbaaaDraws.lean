/- What the laws on logs draw from a code. No conditions. -/
import Derived.Test.YtklgkfknifkbaaaDrawDisk
namespace Go.Proofs.Ytklgkfknifkbaaa
open Go.ChangeShapes Go.WideShapes Go.ChangeAt Go.RowKit
set_option linter.unusedVariables false
set_option linter.unusedSimpArgs false

set_option maxRecDepth 100000 in
/-- spec.DrawLogFrame -/
theorem dLogFrame_ok (A : Option Addr) (cn : Nat) (cc : Nat) (w0 : World) (hC : CodeIn w0 A cn cc) :
    Calls Try.prog 34 #[.slice A cn cc] w0 fun e w => ∃ (l : List UInt8), e = .returned (.string (bs (l))) ∧ ((l.length : Int) ≤ 13) ∧ Own w0 [] [] w := by
  have O := Own.start w0
  have hcc : (cn : Int) ≤ cc := by have := hC.1; omega
  have hcm : (cc : Int) ≤ 9223372036854775807 := by have := hC.2.1; unfold maxLen at this; omega
  refine enterO (n := 6) Try.func34 rfl rfl rfl O fun a w F O => ?_
  refine c_seq fun K1 hK1 => c_region (sp F (p_assign rfl) rfl rfl fun a F => c_nil (hK1 _ _ (?_)))
  try clear hK1 K1
  refine c_seq fun K2 hK2 => c_region (sp F (p_move rfl) rfl rfl fun a F => so F rfl (o_call (vs := #[.slice A cn cc]) F Try.en_56 rfl rfl ((l6Open_ok A cn cc w (by omega) (by omega)).mono ?_)))
  rintro e w ⟨b4, m4, rfl, h4a, h4b, K⟩
  refine ⟨_, rfl, fun a F => ?_⟩
  have O : Own w0 [] [.cells b4 [.slice A m4 cc, .int .i64 (0)] 67] w := O.call0 K
  clear K
  have hCode : Code w0 b4 A m4 := Code.of hC (by omega) (by omega) (O.fresh 0 rfl rfl)
  have O : Own w0 [] [.cells b4 [.slice A m4 cc, .int .i64 (0)] 67] w := O
  refine so F rfl (o_call (vs := #[.pointer (some ⟨b4, 0, none⟩)]) F Try.en_55 rfl rfl ((l91Record_ok b4 A m4 cc 0 w (hCode.keep O (by simp)) (by omega) (by omega) (O.hand1 rfl)).mono ?_))
  rintro e w ⟨L5, q5, rfl, h5a, h5b, h5c, K⟩
  refine ⟨_, rfl, fun a F => ?_⟩
  have O : Own w0 [] [.cells b4 [.slice A m4 cc, .int .i64 (q5)] 67] w := O.call1 K rfl
  clear K
  have O : Own w0 [] [.cells b4 [.slice A m4 cc, .int .i64 (q5)] 67] w := O
  refine sp F (p_assign rfl) rfl rfl fun a F => c_nil (hK2 _ _ (?_))
  try clear hK2 K2
  refine wp_ret (ret1 F rfl rfl (?_))
  have O : Own w0 [] [] w := (O.take 0)
  exact ⟨L5, rfl, by first | assumption | omega, O⟩

set_option maxRecDepth 100000 in
/-- spec.DrawLogAppend -/
theorem dLogAppend_ok (A : Option Addr) (cn : Nat) (cc : Nat) (w0 : World) (hC : CodeIn w0 A cn cc) :
    Calls Try.prog 45 #[.slice A cn cc] w0 fun e w => ∃ (l : List UInt8), ∃ (n : Int), ∃ (r : List UInt8), e = .returned (.tuple #[.agg #[.string (bs (l)), .int .i64 (n)], .string (bs (r))]) ∧ ((l.length : Int) ≤ 121) ∧ (-1 ≤ n) ∧ (n ≤ 129) ∧ ((r.length : Int) ≤ 13) ∧ Own w0 [] [] w := by
  have O := Own.start w0
  have hcc : (cn : Int) ≤ cc := by have := hC.1; omega
  have hcm : (cc : Int) ≤ 9223372036854775807 := by have := hC.2.1; unfold maxLen at this; omega
  refine enterO (n := 13) Try.func45 rfl rfl rfl O fun a w F O => ?_
  refine c_seq fun K1 hK1 => c_region (so F rfl (o_alloc F O Try.zero_27 rfl fun b2 w O a F => ?_))
  have O : Own w0 [] [.cells b2 [.string (bs ([])), .int .i64 (0)] 27] w := O
  refine sp F (p_assign rfl) rfl rfl fun a F => c_nil (hK1 _ _ (?_))
  try clear hK1 K1
  refine c_seq fun K2 hK2 => c_region (sp F (p_move rfl) rfl rfl fun a F => so F rfl (o_call (vs := #[.slice A cn cc]) F Try.en_56 rfl rfl ((l6Open_ok A cn cc w (by omega) (by omega)).mono ?_)))
  rintro e w ⟨b7, m7, rfl, h7a, h7b, K⟩
  refine ⟨_, rfl, fun a F => ?_⟩
  have O : Own w0 [] [.cells b7 [.slice A m7 cc, .int .i64 (0)] 67, .cells b2 [.string (bs ([])), .int .i64 (0)] 27] w := O.call0 K
  clear K
  have hCode : Code w0 b7 A m7 := Code.of hC (by omega) (by omega) (O.fresh 0 rfl rfl)
  have O : Own w0 [] [.cells b7 [.slice A m7 cc, .int .i64 (0)] 67, .cells b2 [.string (bs ([])), .int .i64 (0)] 27] w := O
  refine sp F (p_assign rfl) rfl rfl fun a F => c_nil (hK2 _ _ (?_))
  try clear hK2 K2
  refine c_seq fun K3 hK3 => c_region (sp F (p_move rfl) rfl rfl fun a F => so F rfl (o_call (vs := #[.pointer (some ⟨b7, 0, none⟩)]) F Try.en_60 rfl rfl ((l91Disk_ok b7 A m7 cc 0 w (hCode.keep O (by simp)) (by omega) (by omega) (O.hand1 rfl)).mono ?_)))
  rintro e w ⟨L9, k9, q9, rfl, h9a, h9b, h9c, h9d, h9e, K⟩
  refine ⟨_, rfl, fun a F => ?_⟩
  have O : Own w0 [] [.cells b7 [.slice A m7 cc, .int .i64 (q9)] 67, .cells b2 [.string (bs ([])), .int .i64 (0)] 27] w := O.call1 K rfl
  clear K
  have O : Own w0 [] [.cells b7 [.slice A m7 cc, .int .i64 (q9)] 67, .cells b2 [.string (bs ([])), .int .i64 (0)] 27] w := O
  refine so F rfl (o_alloc F O Try.zero_27 rfl fun b5 w O a F => ?_)
  have O : Own w0 [] [.cells b5 [.string (bs ([])), .int .i64 (0)] 27, .cells b7 [.slice A m7 cc, .int .i64 (q9)] 67, .cells b2 [.string (bs ([])), .int .i64 (0)] 27] w := O
  refine so F rfl (o_storeA (vs := [.string (bs (L9)), .int .i64 (k9)]) F O rfl rfl Try.sz_27 (by simp [Value.oneCell']) 0 rfl rfl fun w O => ?_)
  have O : Own w0 [] [.cells b5 [.string (bs (L9)), .int .i64 (k9)] 27, .cells b7 [.slice A m7 cc, .int .i64 (q9)] 67, .cells b2 [.string (bs ([])), .int .i64 (0)] 27] w := O
  refine c_nil (hK3 _ _ (?_))
  try clear hK3 K3
  refine c_seq fun K4 hK4 => ?_
  refine c_draw Try.mixed (SC [(b5, 0, .string (bs (L9))), (b5, 0 + 1, .int .i64 (k9))]) [] _ (fun a w h => h) ?_
  have O := O.drawn (w.drawn + 1)
  generalize { w with drawn := w.drawn + 1 } = w at O ⊢
  have hS : SC [(b5, 0, .string (bs (L9))), (b5, 0 + 1, .int .i64 (k9))] w := (SC.cons (O.load 0 rfl rfl) (SC.cons (O.load 0 rfl rfl) SC.nil))
  refine d_take 0 rfl (by kernel_rfl) F (p_loadC (cs := [.string (bs (L9)), .int .i64 (k9)]) rfl Try.agg_27 Try.sz_27 (fun _ h => (CA.cons (SC.get h 0 rfl) (CA.cons (SC.get h 1 rfl) CA.nil)))) rfl rfl hS fun a F => d_take 1 rfl (by kernel_rfl) F (p_move rfl) rfl rfl hS fun a F => d_one 2 (by kernel_rfl) (?_)
  have O := O.pull 1 rfl
  have O : Own w0 [] [.cells b7 [.slice A m7 cc, .int .i64 (q9)] 67, .cells b5 [.string (bs (L9)), .int .i64 (k9)] 27, .cells b2 [.string (bs ([])), .int .i64 (0)] 27] w := O
  refine d_op rfl F rfl (o_call (vs := #[.pointer (some ⟨b7, 0, none⟩)]) F Try.en_55 rfl rfl ((l91Record_ok b7 A m7 cc q9 w (hCode.keep O (by simp)) (by omega) (by omega) (O.hand1 rfl)).mono ?_))
  rintro e w ⟨L12, q12, rfl, h12a, h12b, h12c, K⟩
  refine ⟨_, rfl, fun a F => ?_⟩
  have O : Own w0 [] [.cells b7 [.slice A m7 cc, .int .i64 (q12)] 67, .cells b5 [.string (bs (L9)), .int .i64 (k9)] 27, .cells b2 [.string (bs ([])), .int .i64 (0)] 27] w := O.call1 K rfl
  clear K
  have O : Own w0 [] [.cells b7 [.slice A m7 cc, .int .i64 (q12)] 67, .cells b5 [.string (bs (L9)), .int .i64 (k9)] 27, .cells b2 [.string (bs ([])), .int .i64 (0)] 27] w := O
  refine ⟨fun _ => (SC.cons (O.load 1 rfl rfl) (SC.cons (O.load 1 rfl rfl) SC.nil)), ?_⟩
  have hS : SC [(b5, 0, .string (bs (L9))), (b5, 0 + 1, .int .i64 (k9))] w := (SC.cons (O.load 1 rfl rfl) (SC.cons (O.load 1 rfl rfl) SC.nil))
  refine d_one 3 (by kernel_rfl) (d_op rfl F rfl (o_storeA (vs := [.string (bs (L9)), .int .i64 (k9)]) F O rfl rfl Try.sz_27 (by simp [Value.oneCell']) 2 rfl rfl fun w O => ?_))
  have O : Own w0 [] [.cells b7 [.slice A m7 cc, .int .i64 (q12)] 67, .cells b5 [.string (bs (L9)), .int .i64 (k9)] 27, .cells b2 [.string (bs (L9)), .int .i64 (k9)] 27] w := O
  refine ⟨fun _ => (SC.cons (O.load 1 rfl rfl) (SC.cons (O.load 1 rfl rfl) SC.nil)), ?_⟩
  have hS : SC [(b5, 0, .string (bs (L9))), (b5, 0 + 1, .int .i64 (k9))] w := (SC.cons (O.load 1 rfl rfl) (SC.cons (O.load 1 rfl rfl) SC.nil))
  refine d_take 4 rfl (by kernel_rfl) F (p_assign rfl) rfl rfl hS fun a F => d_done (by kernel_rfl) (hK4 _ _ (?_))
  try clear hK4 K4
  refine wp_ret (retCT F O rfl rfl rfl 2 rfl Try.agg_27 Try.sz_27 (?_))
  have O : Own w0 [] [] w := (O.take 0)
  exact ⟨L9, k9, L12, rfl, by first | assumption | omega, by first | assumption | omega, by first | assumption | omega, by first | assumption | omega, O⟩

set_option maxRecDepth 100000 in
/-- spec.DrawLogSync -/
theorem dLogSync_ok (A : Option Addr) (cn : Nat) (cc : Nat) (w0 : World) (hC : CodeIn w0 A cn cc) :
    Calls Try.prog 46 #[.slice A cn cc] w0 fun e w => ∃ (l : List UInt8), ∃ (n : Int), e = .returned (.agg #[.string (bs (l)), .int .i64 (n)]) ∧ ((l.length : Int) ≤ 121) ∧ (-1 ≤ n) ∧ (n ≤ 129) ∧ Own w0 [] [] w := by
  have O := Own.start w0
  have hcc : (cn : Int) ≤ cc := by have := hC.1; omega
  have hcm : (cc : Int) ≤ 9223372036854775807 := by have := hC.2.1; unfold maxLen at this; omega
  refine enterO (n := 6) Try.func46 rfl rfl rfl O fun a w F O => ?_
  refine c_seq fun K1 hK1 => c_region (so F rfl (o_alloc F O Try.zero_27 rfl fun b2 w O a F => ?_))
  have O : Own w0 [] [.cells b2 [.string (bs ([])), .int .i64 (0)] 27] w := O
  refine c_nil (hK1 _ _ (?_))
  try clear hK1 K1
  refine c_seq fun K2 hK2 => c_region (sp F (p_move rfl) rfl rfl fun a F => so F rfl (o_call (vs := #[.slice A cn cc]) F Try.en_56 rfl rfl ((l6Open_ok A cn cc w (by omega) (by omega)).mono ?_)))
  rintro e w ⟨b4, m4, rfl, h4a, h4b, K⟩
  refine ⟨_, rfl, fun a F => ?_⟩
  have O : Own w0 [] [.cells b4 [.slice A m4 cc, .int .i64 (0)] 67, .cells b2 [.string (bs ([])), .int .i64 (0)] 27] w := O.call0 K
  clear K
  have hCode : Code w0 b4 A m4 := Code.of hC (by omega) (by omega) (O.fresh 0 rfl rfl)
  have O : Own w0 [] [.cells b4 [.slice A m4 cc, .int .i64 (0)] 67, .cells b2 [.string (bs ([])), .int .i64 (0)] 27] w := O
  refine so F rfl (o_call (vs := #[.pointer (some ⟨b4, 0, none⟩)]) F Try.en_60 rfl rfl ((l91Disk_ok b4 A m4 cc 0 w (hCode.keep O (by simp)) (by omega) (by omega) (O.hand1 rfl)).mono ?_))
  rintro e w ⟨L5, k5, q5, rfl, h5a, h5b, h5c, h5d, h5e, K⟩
  refine ⟨_, rfl, fun a F => ?_⟩
  have O : Own w0 [] [.cells b4 [.slice A m4 cc, .int .i64 (q5)] 67, .cells b2 [.string (bs ([])), .int .i64 (0)] 27] w := O.call1 K rfl
  clear K
  have O : Own w0 [] [.cells b4 [.slice A m4 cc, .int .i64 (q5)] 67, .cells b2 [.string (bs ([])), .int .i64 (0)] 27] w := O
  refine so F rfl (o_storeA (vs := [.string (bs (L5)), .int .i64 (k5)]) F O rfl rfl Try.sz_27 (by simp [Value.oneCell']) 1 rfl rfl fun w O => ?_)
  have O : Own w0 [] [.cells b4 [.slice A m4 cc, .int .i64 (q5)] 67, .cells b2 [.string (bs (L5)), .int .i64 (k5)] 27] w := O
  refine c_nil (hK2 _ _ (?_))
  try clear hK2 K2
  refine wp_ret (retC F O rfl rfl 1 rfl Try.agg_27 Try.sz_27 (?_))
  have O : Own w0 [] [] w := (O.take 0)
  exact ⟨L5, k5, rfl, by first | assumption | omega, by first | assumption | omega, by first | assumption | omega, O⟩

set_option maxRecDepth 100000 in
/-- spec.DrawLogCrash -/
theorem dLogCrash_ok (A : Option Addr) (cn : Nat) (cc : Nat) (w0 : World) (hC : CodeIn w0 A cn cc) :
    Calls Try.prog 48 #[.slice A cn cc] w0 fun e w => ∃ (l : List UInt8), ∃ (n : Int), ∃ (k : Int), e = .returned (.tuple #[.agg #[.string (bs (l)), .int .i64 (n)], .int .i64 (k)]) ∧ ((l.length : Int) ≤ 121) ∧ (-1 ≤ n) ∧ (n ≤ 129) ∧ (-25 ≤ k) ∧ (k ≤ 24) ∧ Own w0 [] [] w := by
  have O := Own.start w0
  have hcc : (cn : Int) ≤ cc := by have := hC.1; omega
  have hcm : (cc : Int) ≤ 9223372036854775807 := by have := hC.2.1; unfold maxLen at this; omega
  refine enterO (n := 18) Try.func48 rfl rfl rfl O fun a w F O => ?_
  refine c_seq fun K1 hK1 => c_region (so F rfl (o_alloc F O Try.zero_27 rfl fun b2 w O a F => ?_))
  have O : Own w0 [] [.cells b2 [.string (bs ([])), .int .i64 (0)] 27] w := O
  refine sp F (p_assign rfl) rfl rfl fun a F => c_nil (hK1 _ _ (?_))
  try clear hK1 K1
  refine c_seq fun K2 hK2 => c_region (sp F (p_move rfl) rfl rfl fun a F => so F rfl (o_call (vs := #[.slice A cn cc]) F Try.en_56 rfl rfl ((l6Open_ok A cn cc w (by omega) (by omega)).mono ?_)))
  rintro e w ⟨b7, m7, rfl, h7a, h7b, K⟩
  refine ⟨_, rfl, fun a F => ?_⟩
  have O : Own w0 [] [.cells b7 [.slice A m7 cc, .int .i64 (0)] 67, .cells b2 [.string (bs ([])), .int .i64 (0)] 27] w := O.call0 K
  clear K
  have hCode : Code w0 b7 A m7 := Code.of hC (by omega) (by omega) (O.fresh 0 rfl rfl)
  have O : Own w0 [] [.cells b7 [.slice A m7 cc, .int .i64 (0)] 67, .cells b2 [.string (bs ([])), .int .i64 (0)] 27] w := O
  refine sp F (p_assign rfl) rfl rfl fun a F => c_nil (hK2 _ _ (?_))
  try clear hK2 K2
  refine c_seq fun K3 hK3 => c_region (sp F (p_move rfl) rfl rfl fun a F => so F rfl (o_call (vs := #[.pointer (some ⟨b7, 0, none⟩)]) F Try.en_60 rfl rfl ((l91Disk_ok b7 A m7 cc 0 w (hCode.keep O (by simp)) (by omega) (by omega) (O.hand1 rfl)).mono ?_)))
  rintro e w ⟨L9, k9, q9, rfl, h9a, h9b, h9c, h9d, h9e, K⟩
  refine ⟨_, rfl, fun a F => ?_⟩
  have O : Own w0 [] [.cells b7 [.slice A m7 cc, .int .i64 (q9)] 67, .cells b2 [.string (bs ([])), .int .i64 (0)] 27] w := O.call1 K rfl
  clear K
  have O : Own w0 [] [.cells b7 [.slice A m7 cc, .int .i64 (q9)] 67, .cells b2 [.string (bs ([])), .int .i64 (0)] 27] w := O
  refine so F rfl (o_alloc F O Try.zero_27 rfl fun b5 w O a F => ?_)
  have O : Own w0 [] [.cells b5 [.string (bs ([])), .int .i64 (0)] 27, .cells b7 [.slice A m7 cc, .int .i64 (q9)] 67, .cells b2 [.string (bs ([])), .int .i64 (0)] 27] w := O
  refine so F rfl (o_storeA (vs := [.string (bs (L9)), .int .i64 (k9)]) F O rfl rfl Try.sz_27 (by simp [Value.oneCell']) 0 rfl rfl fun w O => ?_)
  have O : Own w0 [] [.cells b5 [.string (bs (L9)), .int .i64 (k9)] 27, .cells b7 [.slice A m7 cc, .int .i64 (q9)] 67, .cells b2 [.string (bs ([])), .int .i64 (0)] 27] w := O
  refine c_nil (hK3 _ _ (?_))
  try clear hK3 K3
  refine c_seq fun K4 hK4 => ?_
  refine c_draw Try.mixed (SC [(b5, 0, .string (bs (L9))), (b5, 0 + 1, .int .i64 (k9))]) [] _ (fun a w h => h) ?_
  have O := O.drawn (w.drawn + 1)
  generalize { w with drawn := w.drawn + 1 } = w at O ⊢
  have hS : SC [(b5, 0, .string (bs (L9))), (b5, 0 + 1, .int .i64 (k9))] w := (SC.cons (O.load 0 rfl rfl) (SC.cons (O.load 0 rfl rfl) SC.nil))
  refine d_take 0 rfl (by kernel_rfl) F (p_loadC (cs := [.string (bs (L9)), .int .i64 (k9)]) rfl Try.agg_27 Try.sz_27 (fun _ h => (CA.cons (SC.get h 0 rfl) (CA.cons (SC.get h 1 rfl) CA.nil)))) rfl rfl hS fun a F => d_take 1 rfl (by kernel_rfl) F (p_move rfl) rfl rfl hS fun a F => d_take 3 rfl (by kernel_rfl) F (p_move rfl) rfl rfl hS fun a F => d_one 2 (by kernel_rfl) (?_)
  have O := O.pull 1 rfl
  have O : Own w0 [] [.cells b7 [.slice A m7 cc, .int .i64 (q9)] 67, .cells b5 [.string (bs (L9)), .int .i64 (k9)] 27, .cells b2 [.string (bs ([])), .int .i64 (0)] 27] w := O
  refine d_op rfl F rfl (o_call (vs := #[.pointer (some ⟨b7, 0, none⟩), .int .i64 (25)]) F Try.en_61 rfl rfl ((pick_ok b7 A m7 cc q9 25 67 w (hCode.keep O (by simp)) (by omega) (by omega) (by omega) (by omega) (O.hand1 rfl)).mono ?_))
  rintro e w ⟨r12, rfl, h12a, h12b, K⟩
  refine ⟨_, rfl, fun a F => ?_⟩
  have O : Own w0 [] [.cells b7 [.slice A m7 cc, .int .i64 (q9 + 1)] 67, .cells b5 [.string (bs (L9)), .int .i64 (k9)] 27, .cells b2 [.string (bs ([])), .int .i64 (0)] 27] w := O.call1 K rfl
  clear K
  have O : Own w0 [] [.cells b7 [.slice A m7 cc, .int .i64 (q9 + 1)] 67, .cells b5 [.string (bs (L9)), .int .i64 (k9)] 27, .cells b2 [.string (bs ([])), .int .i64 (0)] 27] w := O
  refine ⟨fun _ => (SC.cons (O.load 1 rfl rfl) (SC.cons (O.load 1 rfl rfl) SC.nil)), ?_⟩
  have hS : SC [(b5, 0, .string (bs (L9))), (b5, 0 + 1, .int .i64 (k9))] w := (SC.cons (O.load 1 rfl rfl) (SC.cons (O.load 1 rfl rfl) SC.nil))
  refine d_one 4 (by kernel_rfl) (d_op rfl F rfl (o_call (vs := #[.pointer (some ⟨b7, 0, none⟩), .int .i64 (20)]) F Try.en_61 rfl rfl ((pick_ok b7 A m7 cc (q9 + 1) 20 67 w (hCode.keep O (by simp)) (by omega) (by omega) (by omega) (by omega) (O.hand1 rfl)).mono ?_)))
  rintro e w ⟨r14, rfl, h14a, h14b, K⟩
  refine ⟨_, rfl, fun a F => ?_⟩
  have O : Own w0 [] [.cells b7 [.slice A m7 cc, .int .i64 ((q9 + 1) + 1)] 67, .cells b5 [.string (bs (L9)), .int .i64 (k9)] 27, .cells b2 [.string (bs ([])), .int .i64 (0)] 27] w := O.call1 K rfl
  clear K
  have O : Own w0 [] [.cells b7 [.slice A m7 cc, .int .i64 ((q9 + 1) + 1)] 67, .cells b5 [.string (bs (L9)), .int .i64 (k9)] 27, .cells b2 [.string (bs ([])), .int .i64 (0)] 27] w := O
  refine ⟨fun _ => (SC.cons (O.load 1 rfl rfl) (SC.cons (O.load 1 rfl rfl) SC.nil)), ?_⟩
  have hS : SC [(b5, 0, .string (bs (L9))), (b5, 0 + 1, .int .i64 (k9))] w := (SC.cons (O.load 1 rfl rfl) (SC.cons (O.load 1 rfl rfl) SC.nil))
  refine d_take 5 rfl (by kernel_rfl) F (p_quo rfl rfl (by omega) (by omega) (by omega)) rfl rfl hS fun a F => d_take 6 rfl (by kernel_rfl) F (p_mul rfl rfl (by omega) (by omega)) rfl rfl hS fun a F => d_take 7 rfl (by kernel_rfl) F (p_sub rfl rfl (by omega) (by omega)) rfl rfl hS fun a F => d_one 8 (by kernel_rfl) (d_op rfl F rfl (o_storeA (vs := [.string (bs (L9)), .int .i64 (k9)]) F O rfl rfl Try.sz_27 (by simp [Value.oneCell']) 2 rfl rfl fun w O => ?_))
  have O : Own w0 [] [.cells b7 [.slice A m7 cc, .int .i64 ((q9 + 1) + 1)] 67, .cells b5 [.string (bs (L9)), .int .i64 (k9)] 27, .cells b2 [.string (bs (L9)), .int .i64 (k9)] 27] w := O
  refine ⟨fun _ => (SC.cons (O.load 1 rfl rfl) (SC.cons (O.load 1 rfl rfl) SC.nil)), ?_⟩
  have hS : SC [(b5, 0, .string (bs (L9))), (b5, 0 + 1, .int .i64 (k9))] w := (SC.cons (O.load 1 rfl rfl) (SC.cons (O.load 1 rfl rfl) SC.nil))
  refine d_take 9 rfl (by kernel_rfl) F (p_assign rfl) rfl rfl hS fun a F => d_done (by kernel_rfl) (hK4 _ _ (?_))
  try clear hK4 K4
  refine wp_ret (retCT F O rfl rfl rfl 2 rfl Try.agg_27 Try.sz_27 (?_))
  have O : Own w0 [] [] w := (O.take 0)
  exact ⟨L9, k9, (r12 - ((r14 / 19) * 25)), congrArg Ending.returned (show Value.tuple #[.agg #[.string (bs (L9)), .int .i64 (k9)], .int .i64 (r12 - ((r14 / 19) * 25))] = .tuple #[.agg #[.string (bs (L9)), .int .i64 (k9)], .int .i64 ((r12 - ((r14 / 19) * 25)))] from by rw [show Value.int .i64 (r12 - ((r14 / 19) * 25)) = .int .i64 ((r12 - ((r14 / 19) * 25))) from by first | exact vint (by omega) | exact vint (by simp; done)]), by first | assumption | omega, by first | assumption | omega, by first | assumption | omega, by first | assumption | omega, by first | assumption | omega, O⟩

set_option maxRecDepth 100000 in
/-- spec.DrawLogScan -/
theorem dLogScan_ok (A : Option Addr) (cn : Nat) (cc : Nat) (w0 : World) (hC : CodeIn w0 A cn cc) :
    Calls Try.prog 49 #[.slice A cn cc] w0 fun e w => ∃ (l : List UInt8), e = .returned (.string (bs (l))) ∧ ((l.length : Int) ≤ 121) ∧ Own w0 [] [] w := by
  have O := Own.start w0
  have hcc : (cn : Int) ≤ cc := by have := hC.1; omega
  have hcm : (cc : Int) ≤ 9223372036854775807 := by have := hC.2.1; unfold maxLen at this; omega
  refine enterO (n := 50) Try.func49 rfl rfl rfl O fun a w F O => ?_
  refine c_seq fun K1 hK1 => c_region (sp F (p_assign rfl) rfl rfl fun a F => c_nil (hK1 _ _ (?_)))
  try clear hK1 K1
  refine c_seq fun K2 hK2 => c_region (sp F (p_move rfl) rfl rfl fun a F => so F rfl (o_call (vs := #[.slice A cn cc]) F Try.en_56 rfl rfl ((l6Open_ok A cn cc w (by omega) (by omega)).mono ?_)))
  rintro e w ⟨b7, m7, rfl, h7a, h7b, K⟩
  refine ⟨_, rfl, fun a F => ?_⟩
  have O : Own w0 [] [.cells b7 [.slice A m7 cc, .int .i64 (0)] 67] w := O.call0 K
  clear K
  have hCode : Code w0 b7 A m7 := Code.of hC (by omega) (by omega) (O.fresh 0 rfl rfl)
  have O : Own w0 [] [.cells b7 [.slice A m7 cc, .int .i64 (0)] 67] w := O
  refine sp F (p_assign rfl) rfl rfl fun a F => c_nil (hK2 _ _ (?_))
  try clear hK2 K2
  refine c_seq fun K3 hK3 => c_region (sp F (p_move rfl) rfl rfl fun a F => so F rfl (o_call (vs := #[.pointer (some ⟨b7, 0, none⟩)]) F Try.en_60 rfl rfl ((l91Disk_ok b7 A m7 cc 0 w (hCode.keep O (by simp)) (by omega) (by omega) (O.hand1 rfl)).mono ?_)))
  rintro e w ⟨L9, k9, q9, rfl, h9a, h9b, h9c, h9d, h9e, K⟩
  refine ⟨_, rfl, fun a F => ?_⟩
  have O : Own w0 [] [.cells b7 [.slice A m7 cc, .int .i64 (q9)] 67] w := O.call1 K rfl
  clear K
  have O : Own w0 [] [.cells b7 [.slice A m7 cc, .int .i64 (q9)] 67] w := O
  refine sp F (p_fieldv rfl Try.fty_27_0 rfl) rfl rfl fun a F => sp F (p_assign rfl) rfl rfl fun a F => c_nil (hK3 _ _ (?_))
  try clear hK3 K3
  refine c_mid (fun a w => ∃ (B4 : List UInt8), ∃ (q : Int), Has 50 [(0, .slice A cn cc), (2, .string (bs ([]))), (3, .pointer (some ⟨b7, 0, none⟩)), (4, .string (bs (B4)))] a ∧ Own w0 [] [.cells b7 [.slice A m7 cc, .int .i64 (q)] 67] w ∧ ((B4.length : Int) ≤ 121) ∧ (0 ≤ q) ∧ (q ≤ 800000)) ?_ ?_
  · refine c_seq fun K4 hK4 => c_region (sp F (p_move rfl) rfl rfl fun a F => sp F (p_len_b rfl Try.underlying9) rfl rfl fun a F => sp F (p_gtr rfl rfl) rfl rfl fun a F => sp F (p_move rfl) rfl rfl fun a F => ?_)
    by_cases c14 : 0 < (L9.length : Int)
    · have F := F.setB (d := 13) rfl (decide_eq_true c14)
      have F := F.setB (d := 14) rfl (decide_eq_true c14)
      refine sp F (p_move rfl) rfl rfl fun a F => so F rfl (o_call (vs := #[.pointer (some ⟨b7, 0, none⟩), .int .i64 (3)]) F Try.en_61 rfl rfl ((pick_ok b7 A m7 cc q9 3 67 w (hCode.keep O (by simp)) (by omega) (by omega) (by omega) (by omega) (O.hand1 rfl)).mono ?_))
      rintro e w ⟨r16, rfl, h16a, h16b, K⟩
      refine ⟨_, rfl, fun a F => ?_⟩
      have O : Own w0 [] [.cells b7 [.slice A m7 cc, .int .i64 (q9 + 1)] 67] w := O.call1 K rfl
      clear K
      have O : Own w0 [] [.cells b7 [.slice A m7 cc, .int .i64 (q9 + 1)] 67] w := O
      refine sp F (p_eql rfl rfl) rfl rfl fun a F => sp F (p_pick (t := true) rfl rfl) rfl rfl fun a F => c_nil (hK4 _ _ (?_))
      try clear hK4 K4
      by_cases c18 : r16 = 0
      · have F := F.setB (d := 17) rfl (decide_eq_true c18)
        have F := F.setB (d := 18) rfl (decide_eq_true c18)
        refine c_ift F rfl (c_seq fun K5 hK5 => c_region (sp F (p_move rfl) rfl rfl fun a F => so F rfl (o_csb F O rfl Try.underlying9 Try.underlying34 Try.underlying5 rfl fun b20 k20 w O hk20 a F => ?_)))
        have O : Own w0 [] [.part b20 (L9.flatMap encU8), .cells b7 [.slice A m7 cc, .int .i64 (q9 + 1)] 67] w := O
        refine sp F (p_assign rfl) rfl rfl fun a F => c_nil (hK5 _ _ (?_))
        try clear hK5 K5
        refine c_seq fun K6 hK6 => c_region (sp F (p_move rfl) rfl rfl fun a F => sp F (p_move rfl) rfl rfl fun a F => sp F (p_move rfl) rfl rfl fun a F => sp F (p_len_l rfl Try.underlying34) rfl rfl fun a F => ?_)
        have O := O.pull 1 rfl
        have O : Own w0 [] [.cells b7 [.slice A m7 cc, .int .i64 (q9 + 1)] 67, .part b20 (L9.flatMap encU8)] w := O
        refine so F rfl (o_call (vs := #[.pointer (some ⟨b7, 0, none⟩), .int .i64 ((L9.length : Int))]) F Try.en_61 rfl rfl ((pick_ok b7 A m7 cc (q9 + 1) (L9.length : Int) 67 w (hCode.keep O (by simp)) (by omega) (by omega) (by omega) (by omega) (O.hand1 rfl)).mono ?_))
        rintro e w ⟨r25, rfl, h25a, h25b, K⟩
        refine ⟨_, rfl, fun a F => ?_⟩
        have O : Own w0 [] [.cells b7 [.slice A m7 cc, .int .i64 ((q9 + 1) + 1)] 67, .part b20 (L9.flatMap encU8)] w := O.call1 K rfl
        clear K
        have O : Own w0 [] [.cells b7 [.slice A m7 cc, .int .i64 ((q9 + 1) + 1)] 67, .part b20 (L9.flatMap encU8)] w := O
        refine sp F (p_move rfl) rfl rfl fun a F => so F rfl (o_call (vs := #[.pointer (some ⟨b7, 0, none⟩), .int .i64 (16)]) F Try.en_61 rfl rfl ((pick_ok b7 A m7 cc ((q9 + 1) + 1) 16 67 w (hCode.keep O (by simp)) (by omega) (by omega) (by omega) (by omega) (O.hand1 rfl)).mono ?_))
        rintro e w ⟨r27, rfl, h27a, h27b, K⟩
        refine ⟨_, rfl, fun a F => ?_⟩
        have O : Own w0 [] [.cells b7 [.slice A m7 cc, .int .i64 (((q9 + 1) + 1) + 1)] 67, .part b20 (L9.flatMap encU8)] w := O.call1 K rfl
        clear K
        have O : Own w0 [] [.cells b7 [.slice A m7 cc, .int .i64 (((q9 + 1) + 1) + 1)] 67, .part b20 (L9.flatMap encU8)] w := O
        refine sp F (p_move rfl) rfl rfl fun a F => so F rfl (o_call (vs := #[.pointer (some ⟨b7, 0, none⟩), .int .i64 (16)]) F Try.en_61 rfl rfl ((pick_ok b7 A m7 cc (((q9 + 1) + 1) + 1) 16 67 w (hCode.keep O (by simp)) (by omega) (by omega) (by omega) (by omega) (O.hand1 rfl)).mono ?_))
        rintro e w ⟨r29, rfl, h29a, h29b, K⟩
        refine ⟨_, rfl, fun a F => ?_⟩
        have O : Own w0 [] [.cells b7 [.slice A m7 cc, .int .i64 ((((q9 + 1) + 1) + 1) + 1)] 67, .part b20 (L9.flatMap encU8)] w := O.call1 K rfl
        clear K
        have O : Own w0 [] [.cells b7 [.slice A m7 cc, .int .i64 ((((q9 + 1) + 1) + 1) + 1)] 67, .part b20 (L9.flatMap encU8)] w := O
        obtain ⟨hx1, hx2⟩ := mul_bd (a := r27) (b := r29) (A := 15) (B := 15) (by omega) (by omega) (by omega) (by omega)
        refine sp F (p_mul rfl rfl (by omega) (by omega)) rfl rfl fun a F => sp F (p_convu8 rfl (by rw [Try.underlying3]; rfl) Try.underlying5) rfl rfl fun a F => ?_
        obtain ⟨e32, he32⟩ := get_some (l := L9) (i := r25) (by omega) (by first | omega | (simp; omega))
        refine sp F (p_iaddr rfl rfl Try.underlying34 Try.sz_5 (by omega) (by omega)) rfl rfl fun a F => so F rfl (o_storePart F O rfl rfl Try.sz_5 rfl rfl 1 rfl (by rw [flat_len encU8_len]; omega) fun w O => ?_)
        have O : Own w0 [] [.cells b7 [.slice A m7 cc, .int .i64 ((((q9 + 1) + 1) + 1) + 1)] 67, .part b20 ((L9.flatMap encU8).set (0 + (r25 : Int).toNat * 1) (.int .u8 ((r27 * r29) % 256)))] w := O
        have O := O.setR 1 rfl (show Res.part b20 ((L9.flatMap encU8).set (0 + (r25 : Int).toNat * 1) (.int .u8 ((r27 * r29) % 256))) = .part b20 ((L9.set (r25 : Int).toNat (UInt8.ofNat ((r27 * r29) % 256 : Int).toNat)).flatMap encU8) from by rw [flat_setU8 (by omega) (by omega)])
        have O : Own w0 [] [.cells b7 [.slice A m7 cc, .int .i64 ((((q9 + 1) + 1) + 1) + 1)] 67, .part b20 ((L9.set (r25 : Int).toNat (UInt8.ofNat ((r27 * r29) % 256 : Int).toNat)).flatMap encU8)] w := O
        refine c_nil (hK6 _ _ (?_))
        try clear hK6 K6
        refine c_region (sp F (p_move rfl) rfl rfl fun a F => sp F (p_cbsPart (l := L9.set (r25 : Int).toNat (UInt8.ofNat ((r27 * r29) % 256 : Int).toNat)) rfl Try.underlying34 Try.underlying5 Try.underlying9 1 O rfl (by simp)) rfl rfl fun a F => sp F (p_assign rfl) rfl rfl fun a F => c_nil (?_))
        have F : Has 50 [(0, .slice A cn cc), (2, .string (bs ([]))), (3, .pointer (some ⟨b7, 0, none⟩)), (4, .string (bs (L9.set (r25 : Int).toNat (UInt8.ofNat ((r27 * r29) % 256 : Int).toNat))))] a := F.pick ⟨rfl, rfl, rfl, rfl, trivial⟩
        have O : Own w0 [] [.cells b7 [.slice A m7 cc, .int .i64 ((((q9 + 1) + 1) + 1) + 1)] 67] w := (O.take 1)
        exact ⟨(L9.set (r25 : Int).toNat (UInt8.ofNat ((r27 * r29) % 256 : Int).toNat)), ((((q9 + 1) + 1) + 1) + 1), F, O, by first | omega | (simp; omega), by first | assumption | omega, by first | assumption | omega⟩
      · have F := F.setB (d := 17) rfl (decide_eq_false c18)
        have F := F.setB (d := 18) rfl (decide_eq_false c18)
        refine c_iff F rfl (wp_skip (?_))
        have F : Has 50 [(0, .slice A cn cc), (2, .string (bs ([]))), (3, .pointer (some ⟨b7, 0, none⟩)), (4, .string (bs (L9)))] a := F.pick ⟨rfl, rfl, rfl, rfl, trivial⟩
        exact ⟨L9, (q9 + 1), F, O, by first | omega | (simp; omega), by first | assumption | omega, by first | assumption | omega⟩
    · have F := F.setB (d := 13) rfl (decide_eq_false c14)
      have F := F.setB (d := 14) rfl (decide_eq_false c14)
      refine ss F rfl rfl fun a F => ss F rfl rfl fun a F => ss F rfl rfl fun a F => sp F (p_pick (t := false) rfl rfl) rfl rfl fun a F => c_nil (hK4 _ _ (?_))
      try clear hK4 K4
      refine c_iff F rfl (wp_skip (?_))
      have F : Has 50 [(0, .slice A cn cc), (2, .string (bs ([]))), (3, .pointer (some ⟨b7, 0, none⟩)), (4, .string (bs (L9)))] a := F.pick ⟨rfl, rfl, rfl, rfl, trivial⟩
      exact ⟨L9, q9, F, O, by first | omega | (simp; omega), by first | assumption | omega, by first | assumption | omega⟩
  · rintro a w ⟨B4, q, F, O, hm18a, hm18b, hm18c⟩
    refine c_mid (fun a w => ∃ (B5 : List UInt8), Has 50 [(0, .slice A cn cc), (2, .string (bs ([]))), (3, .pointer (some ⟨b7, 0, none⟩)), (4, .string (bs (B5)))] a ∧ Own w0 [] [] w ∧ ((B5.length : Int) ≤ 121)) ?_ ?_
    · refine c_seq fun K4 hK4 => c_region (sp F (p_move rfl) rfl rfl fun a F => sp F (p_len_b rfl Try.underlying9) rfl rfl fun a F => sp F (p_gtr rfl rfl) rfl rfl fun a F => sp F (p_move rfl) rfl rfl fun a F => ?_)
      by_cases c38 : 0 < (B4.length : Int)
      · have F := F.setB (d := 37) rfl (decide_eq_true c38)
        have F := F.setB (d := 38) rfl (decide_eq_true c38)
        refine sp F (p_move rfl) rfl rfl fun a F => so F rfl (o_call (vs := #[.pointer (some ⟨b7, 0, none⟩), .int .i64 (3)]) F Try.en_61 rfl rfl ((pick_ok b7 A m7 cc q 3 67 w (hCode.keep O (by simp)) (by omega) (by omega) (by omega) (by omega) (O.hand1 rfl)).mono ?_))
        rintro e w ⟨r40, rfl, h40a, h40b, K⟩
        refine ⟨_, rfl, fun a F => ?_⟩
        have O : Own w0 [] [.cells b7 [.slice A m7 cc, .int .i64 (q + 1)] 67] w := O.call1 K rfl
        clear K
        have O : Own w0 [] [.cells b7 [.slice A m7 cc, .int .i64 (q + 1)] 67] w := O
        refine sp F (p_eql rfl rfl) rfl rfl fun a F => sp F (p_pick (t := true) rfl rfl) rfl rfl fun a F => c_nil (hK4 _ _ (?_))
        try clear hK4 K4
        by_cases c42 : r40 = 0
        · have F := F.setB (d := 41) rfl (decide_eq_true c42)
          have F := F.setB (d := 42) rfl (decide_eq_true c42)
          refine c_ift F rfl (c_region (sp F (p_move rfl) rfl rfl fun a F => sp F (p_move rfl) rfl rfl fun a F => sp F (p_move rfl) rfl rfl fun a F => sp F (p_len_b rfl Try.underlying9) rfl rfl fun a F => so F rfl (o_call (vs := #[.pointer (some ⟨b7, 0, none⟩), .int .i64 ((B4.length : Int))]) F Try.en_61 rfl rfl ((pick_ok b7 A m7 cc (q + 1) (B4.length : Int) 67 w (hCode.keep O (by simp)) (by omega) (by omega) (by omega) (by omega) (O.hand1 rfl)).mono ?_))))
          rintro e w ⟨r47, rfl, h47a, h47b, K⟩
          refine ⟨_, rfl, fun a F => ?_⟩
          have O : Own w0 [] [.cells b7 [.slice A m7 cc, .int .i64 ((q + 1) + 1)] 67] w := O.call1 K rfl
          clear K
          have O : Own w0 [] [.cells b7 [.slice A m7 cc, .int .i64 ((q + 1) + 1)] 67] w := O
          refine sp F (p_sto rfl rfl Try.underlying9 (by omega) (by omega)) rfl rfl fun a F => sp F (p_assign rfl) rfl rfl fun a F => c_nil (?_)
          have F : Has 50 [(0, .slice A cn cc), (2, .string (bs ([]))), (3, .pointer (some ⟨b7, 0, none⟩)), (4, .string (bs (B4.take (r47 : Int).toNat)))] a := F.pick ⟨rfl, rfl, rfl, rfl, trivial⟩
          have O : Own w0 [] [] w := (O.take 0)
          exact ⟨(B4.take (r47 : Int).toNat), F, O, by first | omega | (simp; omega)⟩
        · have F := F.setB (d := 41) rfl (decide_eq_false c42)
          have F := F.setB (d := 42) rfl (decide_eq_false c42)
          refine c_iff F rfl (wp_skip (?_))
          have F : Has 50 [(0, .slice A cn cc), (2, .string (bs ([]))), (3, .pointer (some ⟨b7, 0, none⟩)), (4, .string (bs (B4)))] a := F.pick ⟨rfl, rfl, rfl, rfl, trivial⟩
          have O : Own w0 [] [] w := (O.take 0)
          exact ⟨B4, F, O, by first | omega | (simp; omega)⟩
      · have F := F.setB (d := 37) rfl (decide_eq_false c38)
        have F := F.setB (d := 38) rfl (decide_eq_false c38)
        refine ss F rfl rfl fun a F => ss F rfl rfl fun a F => ss F rfl rfl fun a F => sp F (p_pick (t := false) rfl rfl) rfl rfl fun a F => c_nil (hK4 _ _ (?_))
        try clear hK4 K4
        refine c_iff F rfl (wp_skip (?_))
        have F : Has 50 [(0, .slice A cn cc), (2, .string (bs ([]))), (3, .pointer (some ⟨b7, 0, none⟩)), (4, .string (bs (B4)))] a := F.pick ⟨rfl, rfl, rfl, rfl, trivial⟩
        have O : Own w0 [] [] w := (O.take 0)
        exact ⟨B4, F, O, by first | omega | (simp; omega)⟩
    · rintro a w ⟨B5, F, O, hm42a⟩
      refine c_seq fun K4 hK4 => c_region (sp F (p_move rfl) rfl rfl fun a F => sp F (p_assign rfl) rfl rfl fun a F => c_nil (hK4 _ _ (?_)))
      try clear hK4 K4
      refine wp_ret (ret1 F rfl rfl (?_))
      exact ⟨B5, rfl, by first | assumption | omega, O⟩

end Go.Proofs.Ytklgkfknifkbaaa
