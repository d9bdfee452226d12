/- Contracts of the functions on frames of records. No conditions but the length of a checked text. -/
import Derived.Test.YtklgkfknifkbaaaSmall
import Derived.Test.YtklgkfknifkbaaaFrameOld
namespace Go.Proofs.Ytklgkfknifkbaaa
open Go.ChangeShapes Go.WideShapes Go.ChangeAt Go.RowKit
set_option linter.unusedVariables false
set_option linter.unusedSimpArgs false


theorem chk_step {l : List UInt8} {n : Nat} {k : Int} (h0 : 0 ≤ k) (h1 : k < l.length) : (chkFrom n (l.take (k + 1 : Int).toNat) : Int) = (29 * (chkFrom n (l.take (k : Int).toNat) : Int) + byteAt l k + 1) % 251 := by
  have e : (k + 1).toNat = k.toNat + 1 := by omega
  have hlt : k.toNat < l.length := by omega
  rw [e, List.take_succ_eq_append_getElem hlt, chkFrom_snoc]
  have : (l.getD k.toNat 0) = l[k.toNat] := by rw [List.getD_eq_getElem?_getD, List.getElem?_eq_getElem hlt]; rfl
  unfold byteAt
  rw [this]
  omega
def lFrame (l : List UInt8) : List UInt8 := if 1 ≤ (l.length : Int) ∧ (l.length : Int) ≤ 12 then frameL l else []
theorem lFrame_ok {l : List UInt8} (h : 1 ≤ (l.length : Int) ∧ (l.length : Int) ≤ 12) : lFrame l = frameL l := if_pos h
theorem lFrame_bad {l : List UInt8} (h : ¬ (1 ≤ (l.length : Int) ∧ (l.length : Int) ≤ 12)) : lFrame l = [] := if_neg h
theorem frameL_length (l : List UInt8) : ((frameL l).length : Int) = l.length + 2 := by simp [frameL]; omega
set_option maxRecDepth 100000 in
/-- spec.l4Check -/
theorem l4Check_ok (l : List UInt8) (w0 : World) (hl : (l.length : Int) ≤ 1048576) :
    Calls Try.prog 58 #[.string (bs (l))] w0 fun e w => e = .returned (.int .u8 ((chk l : Int))) ∧ Own w0 [] [] w := by
  have O := Own.start w0
  refine enterO (n := 26) Try.func58 rfl rfl rfl O fun a w F O => ?_
  refine c_seq fun K1 hK1 => c_region (sp F (p_assign rfl) rfl rfl fun a F => c_nil (hK1 _ _ (?_)))
  try clear hK1 K1
  refine c_seq fun K2 hK2 => c_region (sp F (p_move rfl) rfl rfl fun a F => sp F (p_len_b rfl Try.underlying9) rfl rfl fun a F => sp F (p_mul rfl rfl (by omega) (by omega)) rfl rfl fun a F => sp F (p_add rfl rfl (by omega) (by omega)) rfl rfl fun a F => sp F (p_assign rfl) rfl rfl fun a F => c_nil (hK2 _ _ (?_)))
  try clear hK2 K2
  refine c_seq fun K3 hK3 => c_seq fun K4 hK4 => c_region (sp F (p_assign rfl) rfl rfl fun a F => c_nil (hK4 _ _ (?_)))
  try clear hK4 K4
  refine wp_block (?_)
  refine c_loop (fun mm a w => ∃ (k : Int), mm = ((l.length : Int) - k).toNat ∧ Has 26 [(0, .string (bs (l))), (2, .int .u8 (0)), (4, .int .i64 (k)), (3, .int .i64 ((chkFrom (7 + 3 * l.length) (l.take (k : Int).toNat) : Int)))] a ∧ Own w0 [] [] w ∧ (0 ≤ k) ∧ (k ≤ l.length)) ?_ ?_
  · have F := F.setV (d := 3) rfl (show Value.int .i64 (7 + (3 * (l.length : Int))) = .int .i64 ((chkFrom (7 + 3 * l.length) (l.take (0 : Int).toNat) : Int)) from by exact vint (by simp [chkFrom]))
    have F : Has 26 [(0, .string (bs (l))), (2, .int .u8 (0)), (4, .int .i64 (0)), (3, .int .i64 ((chkFrom (7 + 3 * l.length) (l.take (0 : Int).toNat) : Int)))] a := F.pick ⟨rfl, rfl, rfl, rfl, trivial⟩
    exact ⟨((l.length : Int) - 0).toNat, 0, rfl, F, O, by first | assumption | omega, by first | assumption | omega⟩
  · rintro mm a w ⟨k, rfl, F, O, hi0a, hi0b⟩
    have hcb := chkFrom_le (7 + 3 * l.length) (l.take k.toNat)
    have hbl := byteAt_lo l k
    have hbh := byteAt_hi l k
    refine c_seq fun K5 hK5 => c_seq fun K6 hK6 => c_region (sp F (p_move rfl) rfl rfl fun a F => sp F (p_move rfl) rfl rfl fun a F => sp F (p_len_b rfl Try.underlying9) rfl rfl fun a F => sp F (p_lss rfl rfl) rfl rfl fun a F => c_nil (hK6 _ _ (?_)))
    try clear hK6 K6
    by_cases c12 : k < (l.length : Int)
    · have F := F.setB (d := 12) rfl (decide_eq_true c12)
      refine c_ift F rfl (wp_skip (hK5 _ _ (?_)))
      try clear hK5 K5
      refine c_seq fun K7 hK7 => wp_block (c_region (sp F (p_move rfl) rfl rfl fun a F => sp F (p_mul rfl rfl (by omega) (by omega)) rfl rfl fun a F => sp F (p_move rfl) rfl rfl fun a F => sp F (p_move rfl) rfl rfl fun a F => sp F (p_index rfl rfl Try.underlying9 (by omega) (by omega)) rfl rfl fun a F => sp F (p_conv64 rfl (by rw [Try.underlying5]; rfl) Try.underlying3 (by omega) (by omega)) rfl rfl fun a F => sp F (p_add rfl rfl (by omega) (by omega)) rfl rfl fun a F => sp F (p_add rfl rfl (by omega) (by omega)) rfl rfl fun a F => sp F (p_rem rfl rfl (by omega) (by omega) (by omega)) rfl rfl fun a F => sp F (p_assign rfl) rfl rfl fun a F => ?_))
      refine c_nil (hK7 _ _ (?_))
      try clear hK7 K7
      refine c_region (sp F (p_move rfl) rfl rfl fun a F => sp F (p_add rfl rfl (by omega) (by omega)) rfl rfl fun a F => sp F (p_assign rfl) rfl rfl fun a F => c_nil (?_))
      have F := F.setV (d := 3) rfl (show Value.int .i64 ((((29 * (chkFrom (7 + 3 * l.length) (l.take (k : Int).toNat) : Int)) + (byteAt l k)) + 1) % 251) = .int .i64 ((chkFrom (7 + 3 * l.length) (l.take (k + 1 : Int).toNat) : Int)) from by exact vint (chk_step (by omega) (by omega)).symm)
      have F : Has 26 [(0, .string (bs (l))), (2, .int .u8 (0)), (4, .int .i64 (k + 1)), (3, .int .i64 ((chkFrom (7 + 3 * l.length) (l.take (k + 1 : Int).toNat) : Int)))] a := F.pick ⟨rfl, rfl, rfl, rfl, trivial⟩
      exact ⟨((l.length : Int) - (k + 1)).toNat, by omega, (k + 1), rfl, F, O, by first | assumption | omega, by first | assumption | omega⟩
    · have F := F.setB (d := 12) rfl (decide_eq_false c12)
      refine c_iff F rfl (wp_exit (e_then (e_then (e_here (hK3 _ _ (?_))))))
      try clear hK3 K3
      refine c_seq fun K7 hK7 => ?_
      have hk : l.take k.toNat = l := List.take_of_length_le (by omega)
      have hc := chk_lt l
      have he : chkFrom (7 + 3 * l.length) (l.take k.toNat) = chk l := by rw [hk]; rfl
      refine c_region (sp F (p_move rfl) rfl rfl fun a F => sp F (p_convu8 rfl (by rw [Try.underlying3]; rfl) Try.underlying5) rfl rfl fun a F => sp F (p_assign rfl) rfl rfl fun a F => c_nil (hK7 _ _ (?_)))
      try clear hK7 K7
      refine wp_ret (ret1 F rfl rfl (?_))
      exact ⟨congrArg Ending.returned (show Value.int .u8 ((chkFrom (7 + 3 * l.length) (l.take (k : Int).toNat) : Int) % 256) = .int .u8 ((chk l : Int)) from by first | exact vint (by omega) | exact vint (by simp; done)), O⟩

set_option maxRecDepth 100000 in
/-- spec.l4Frame -/
theorem l4Frame_ok (l : List UInt8) (w0 : World) (hl : (l.length : Int) ≤ 12) :
    Calls Try.prog 52 #[.string (bs (l))] w0 fun e w => e = .returned (.string (bs (frameL l))) ∧ Own w0 [] [] w := by
  have O := Own.start w0
  have hcl := chk_lt l
  refine enterO (n := 15) Try.func52 rfl rfl rfl O fun a w F O => ?_
  refine c_seq fun K1 hK1 => c_region (sp F (p_assign rfl) rfl rfl fun a F => c_nil (hK1 _ _ (?_)))
  try clear hK1 K1
  refine c_seq fun K2 hK2 => ?_
  refine c_draw Try.mixed (SC []) [] (fun a w => ∃ (b6 : Nat), ∃ (b12 : Nat), Has 15 [(0, .string (bs (l))), (2, .string (bs ((([UInt8.ofNat ((l.length : Int) : Int).toNat]) ++ l) ++ ([UInt8.ofNat ((chk l : Int) : Int).toNat]))))] a ∧ Own w0 [] [] w) ?_ ?_
  · rintro a w ⟨b6, b12, F, O⟩
    refine hK2 _ _ (?_)
    try clear hK2 K2
    refine wp_ret (ret1 F rfl rfl (?_))
    exact ⟨congrArg Ending.returned (show Value.string (bs ((([UInt8.ofNat ((l.length : Int) : Int).toNat]) ++ l) ++ ([UInt8.ofNat ((chk l : Int) : Int).toNat]))) = .string (bs (frameL l)) from by exact vstr (by simp [frameL])), O⟩
  · have O := O.drawn (w.drawn + 1)
    generalize { w with drawn := w.drawn + 1 } = w at O ⊢
    have hS : SC [] w := SC.nil
    refine d_take 0 rfl (by kernel_rfl) F (p_move rfl) rfl rfl hS fun a F => d_take 1 rfl (by kernel_rfl) F (p_len_b rfl Try.underlying9) rfl rfl hS fun a F => d_take 2 rfl (by kernel_rfl) F (p_convu8s rfl (by rw [Try.underlying3]; rfl) Try.underlying5 (by omega) (by omega)) rfl rfl hS fun a F => d_take 5 rfl (by kernel_rfl) F (p_move rfl) rfl rfl hS fun a F => d_take 7 rfl (by kernel_rfl) F (p_move rfl) rfl rfl hS fun a F => ?_
    refine d_two 3 8 (by kernel_rfl) ?_ ?_
    · refine d_op rfl F rfl (o_bslice (cs := [.int .u8 ((l.length : Int))]) F O rfl Try.underlying34 Try.sz_5 Try.zero_5 rfl rfl rfl fun b6 w O a F => ?_)
      have O : Own w0 [] [.cells b6 [.int .u8 ((l.length : Int))] 5] w := O
      refine ⟨fun _ => SC.nil, ?_⟩
      have hS : SC [] w := SC.nil
      refine d_two 4 8 (by kernel_rfl) ?_ ?_
      · refine d_op rfl F rfl (o_pure F (p_cbs1 rfl Try.underlying34 Try.underlying5 Try.underlying9 (by omega) (by omega) (fun _ h => ld1 (O.load 0 rfl rfl) h)) rfl fun a F => ?_)
        have O : Own w0 [] [.cells b6 [.int .u8 ((l.length : Int))] 5] w := O
        refine ⟨fun _ => SC.nil, ?_⟩
        have hS : SC [] w := SC.nil
        refine d_take 6 rfl (by kernel_rfl) F (p_cat rfl rfl (by first | omega | (simp; done) | (simp; omega))) rfl rfl hS fun a F => d_one 8 (by kernel_rfl) (d_op rfl F rfl (o_call (vs := #[.string (bs (l))]) F Try.en_58 rfl rfl ((l4Check_ok l w (by first | omega | (simp; done) | (simp; omega))).mono ?_)))
        rintro e w ⟨rfl, K⟩
        refine ⟨_, rfl, fun a F => ?_⟩
        have O : Own w0 [] [.cells b6 [.int .u8 ((l.length : Int))] 5] w := O.call0 K
        clear K
        have O : Own w0 [] [.cells b6 [.int .u8 ((l.length : Int))] 5] w := O
        refine ⟨fun _ => SC.nil, ?_⟩
        have hS : SC [] w := SC.nil
        refine d_one 9 (by kernel_rfl) (d_op rfl F rfl (o_bslice (cs := [.int .u8 ((chk l : Int))]) F O rfl Try.underlying34 Try.sz_5 Try.zero_5 rfl rfl rfl fun b12 w O a F => ?_))
        have O : Own w0 [] [.cells b12 [.int .u8 ((chk l : Int))] 5, .cells b6 [.int .u8 ((l.length : Int))] 5] w := O
        refine ⟨fun _ => SC.nil, ?_⟩
        have hS : SC [] w := SC.nil
        refine d_one 10 (by kernel_rfl) (d_op rfl F rfl (o_pure F (p_cbs1 rfl Try.underlying34 Try.underlying5 Try.underlying9 (by omega) (by omega) (fun _ h => ld1 (O.load 0 rfl rfl) h)) rfl fun a F => ?_))
        have O : Own w0 [] [.cells b12 [.int .u8 ((chk l : Int))] 5, .cells b6 [.int .u8 ((l.length : Int))] 5] w := O
        refine ⟨fun _ => SC.nil, ?_⟩
        have hS : SC [] w := SC.nil
        refine d_take 11 rfl (by kernel_rfl) F (p_cat rfl rfl (by first | omega | (simp; done) | (simp; omega))) rfl rfl hS fun a F => d_take 12 rfl (by kernel_rfl) F (p_assign rfl) rfl rfl hS fun a F => d_done (by kernel_rfl) (?_)
        have F : Has 15 [(0, .string (bs (l))), (2, .string (bs ((([UInt8.ofNat ((l.length : Int) : Int).toNat]) ++ l) ++ ([UInt8.ofNat ((chk l : Int) : Int).toNat]))))] a := F.pick ⟨rfl, rfl, trivial⟩
        have O : Own w0 [] [] w := (O.take 0)
        exact ⟨b6, b12, F, O⟩
      · refine d_op rfl F rfl (o_call (vs := #[.string (bs (l))]) F Try.en_58 rfl rfl ((l4Check_ok l w (by first | omega | (simp; done) | (simp; omega))).mono ?_))
        rintro e w ⟨rfl, K⟩
        refine ⟨_, rfl, fun a F => ?_⟩
        have O : Own w0 [] [.cells b6 [.int .u8 ((l.length : Int))] 5] w := O.call0 K
        clear K
        have O : Own w0 [] [.cells b6 [.int .u8 ((l.length : Int))] 5] w := O
        refine ⟨fun _ => SC.nil, ?_⟩
        have hS : SC [] w := SC.nil
        refine d_two 4 9 (by kernel_rfl) ?_ ?_
        · refine d_op rfl F rfl (o_pure F (p_cbs1 rfl Try.underlying34 Try.underlying5 Try.underlying9 (by omega) (by omega) (fun _ h => ld1 (O.load 0 rfl rfl) h)) rfl fun a F => ?_)
          have O : Own w0 [] [.cells b6 [.int .u8 ((l.length : Int))] 5] w := O
          refine ⟨fun _ => SC.nil, ?_⟩
          have hS : SC [] w := SC.nil
          refine d_take 6 rfl (by kernel_rfl) F (p_cat rfl rfl (by first | omega | (simp; done) | (simp; omega))) rfl rfl hS fun a F => d_one 9 (by kernel_rfl) (d_op rfl F rfl (o_bslice (cs := [.int .u8 ((chk l : Int))]) F O rfl Try.underlying34 Try.sz_5 Try.zero_5 rfl rfl rfl fun b12 w O a F => ?_))
          have O : Own w0 [] [.cells b12 [.int .u8 ((chk l : Int))] 5, .cells b6 [.int .u8 ((l.length : Int))] 5] w := O
          refine ⟨fun _ => SC.nil, ?_⟩
          have hS : SC [] w := SC.nil
          refine d_one 10 (by kernel_rfl) (d_op rfl F rfl (o_pure F (p_cbs1 rfl Try.underlying34 Try.underlying5 Try.underlying9 (by omega) (by omega) (fun _ h => ld1 (O.load 0 rfl rfl) h)) rfl fun a F => ?_))
          have O : Own w0 [] [.cells b12 [.int .u8 ((chk l : Int))] 5, .cells b6 [.int .u8 ((l.length : Int))] 5] w := O
          refine ⟨fun _ => SC.nil, ?_⟩
          have hS : SC [] w := SC.nil
          refine d_take 11 rfl (by kernel_rfl) F (p_cat rfl rfl (by first | omega | (simp; done) | (simp; omega))) rfl rfl hS fun a F => d_take 12 rfl (by kernel_rfl) F (p_assign rfl) rfl rfl hS fun a F => d_done (by kernel_rfl) (?_)
          have F : Has 15 [(0, .string (bs (l))), (2, .string (bs ((([UInt8.ofNat ((l.length : Int) : Int).toNat]) ++ l) ++ ([UInt8.ofNat ((chk l : Int) : Int).toNat]))))] a := F.pick ⟨rfl, rfl, trivial⟩
          have O : Own w0 [] [] w := (O.take 0)
          exact ⟨b6, b12, F, O⟩
        · refine d_op rfl F rfl (o_bslice (cs := [.int .u8 ((chk l : Int))]) F O rfl Try.underlying34 Try.sz_5 Try.zero_5 rfl rfl rfl fun b12 w O a F => ?_)
          have O : Own w0 [] [.cells b12 [.int .u8 ((chk l : Int))] 5, .cells b6 [.int .u8 ((l.length : Int))] 5] w := O
          refine ⟨fun _ => SC.nil, ?_⟩
          have hS : SC [] w := SC.nil
          refine d_two 4 10 (by kernel_rfl) ?_ ?_
          · refine d_op rfl F rfl (o_pure F (p_cbs1 rfl Try.underlying34 Try.underlying5 Try.underlying9 (by omega) (by omega) (fun _ h => ld1 (O.load 1 rfl rfl) h)) rfl fun a F => ?_)
            have O : Own w0 [] [.cells b12 [.int .u8 ((chk l : Int))] 5, .cells b6 [.int .u8 ((l.length : Int))] 5] w := O
            refine ⟨fun _ => SC.nil, ?_⟩
            have hS : SC [] w := SC.nil
            refine d_take 6 rfl (by kernel_rfl) F (p_cat rfl rfl (by first | omega | (simp; done) | (simp; omega))) rfl rfl hS fun a F => d_one 10 (by kernel_rfl) (d_op rfl F rfl (o_pure F (p_cbs1 rfl Try.underlying34 Try.underlying5 Try.underlying9 (by omega) (by omega) (fun _ h => ld1 (O.load 0 rfl rfl) h)) rfl fun a F => ?_))
            have O : Own w0 [] [.cells b12 [.int .u8 ((chk l : Int))] 5, .cells b6 [.int .u8 ((l.length : Int))] 5] w := O
            refine ⟨fun _ => SC.nil, ?_⟩
            have hS : SC [] w := SC.nil
            refine d_take 11 rfl (by kernel_rfl) F (p_cat rfl rfl (by first | omega | (simp; done) | (simp; omega))) rfl rfl hS fun a F => d_take 12 rfl (by kernel_rfl) F (p_assign rfl) rfl rfl hS fun a F => d_done (by kernel_rfl) (?_)
            have F : Has 15 [(0, .string (bs (l))), (2, .string (bs ((([UInt8.ofNat ((l.length : Int) : Int).toNat]) ++ l) ++ ([UInt8.ofNat ((chk l : Int) : Int).toNat]))))] a := F.pick ⟨rfl, rfl, trivial⟩
            have O : Own w0 [] [] w := (O.take 0)
            exact ⟨b6, b12, F, O⟩
          · refine d_op rfl F rfl (o_pure F (p_cbs1 rfl Try.underlying34 Try.underlying5 Try.underlying9 (by omega) (by omega) (fun _ h => ld1 (O.load 0 rfl rfl) h)) rfl fun a F => ?_)
            have O : Own w0 [] [.cells b12 [.int .u8 ((chk l : Int))] 5, .cells b6 [.int .u8 ((l.length : Int))] 5] w := O
            refine ⟨fun _ => SC.nil, ?_⟩
            have hS : SC [] w := SC.nil
            refine d_one 4 (by kernel_rfl) (d_op rfl F rfl (o_pure F (p_cbs1 rfl Try.underlying34 Try.underlying5 Try.underlying9 (by omega) (by omega) (fun _ h => ld1 (O.load 1 rfl rfl) h)) rfl fun a F => ?_))
            have O : Own w0 [] [.cells b12 [.int .u8 ((chk l : Int))] 5, .cells b6 [.int .u8 ((l.length : Int))] 5] w := O
            refine ⟨fun _ => SC.nil, ?_⟩
            have hS : SC [] w := SC.nil
            refine d_take 6 rfl (by kernel_rfl) F (p_cat rfl rfl (by first | omega | (simp; done) | (simp; omega))) rfl rfl hS fun a F => d_take 11 rfl (by kernel_rfl) F (p_cat rfl rfl (by first | omega | (simp; done) | (simp; omega))) rfl rfl hS fun a F => d_take 12 rfl (by kernel_rfl) F (p_assign rfl) rfl rfl hS fun a F => d_done (by kernel_rfl) (?_)
            have F : Has 15 [(0, .string (bs (l))), (2, .string (bs ((([UInt8.ofNat ((l.length : Int) : Int).toNat]) ++ l) ++ ([UInt8.ofNat ((chk l : Int) : Int).toNat]))))] a := F.pick ⟨rfl, rfl, trivial⟩
            have O : Own w0 [] [] w := (O.take 0)
            exact ⟨b6, b12, F, O⟩
    · refine d_op rfl F rfl (o_call (vs := #[.string (bs (l))]) F Try.en_58 rfl rfl ((l4Check_ok l w (by first | omega | (simp; done) | (simp; omega))).mono ?_))
      rintro e w ⟨rfl, K⟩
      refine ⟨_, rfl, fun a F => ?_⟩
      have O : Own w0 [] [] w := O.call0 K
      clear K
      have O : Own w0 [] [] w := O
      refine ⟨fun _ => SC.nil, ?_⟩
      have hS : SC [] w := SC.nil
      refine d_two 3 9 (by kernel_rfl) ?_ ?_
      · refine d_op rfl F rfl (o_bslice (cs := [.int .u8 ((l.length : Int))]) F O rfl Try.underlying34 Try.sz_5 Try.zero_5 rfl rfl rfl fun b6 w O a F => ?_)
        have O : Own w0 [] [.cells b6 [.int .u8 ((l.length : Int))] 5] w := O
        refine ⟨fun _ => SC.nil, ?_⟩
        have hS : SC [] w := SC.nil
        refine d_two 4 9 (by kernel_rfl) ?_ ?_
        · refine d_op rfl F rfl (o_pure F (p_cbs1 rfl Try.underlying34 Try.underlying5 Try.underlying9 (by omega) (by omega) (fun _ h => ld1 (O.load 0 rfl rfl) h)) rfl fun a F => ?_)
          have O : Own w0 [] [.cells b6 [.int .u8 ((l.length : Int))] 5] w := O
          refine ⟨fun _ => SC.nil, ?_⟩
          have hS : SC [] w := SC.nil
          refine d_take 6 rfl (by kernel_rfl) F (p_cat rfl rfl (by first | omega | (simp; done) | (simp; omega))) rfl rfl hS fun a F => d_one 9 (by kernel_rfl) (d_op rfl F rfl (o_bslice (cs := [.int .u8 ((chk l : Int))]) F O rfl Try.underlying34 Try.sz_5 Try.zero_5 rfl rfl rfl fun b12 w O a F => ?_))
          have O : Own w0 [] [.cells b12 [.int .u8 ((chk l : Int))] 5, .cells b6 [.int .u8 ((l.length : Int))] 5] w := O
          refine ⟨fun _ => SC.nil, ?_⟩
          have hS : SC [] w := SC.nil
          refine d_one 10 (by kernel_rfl) (d_op rfl F rfl (o_pure F (p_cbs1 rfl Try.underlying34 Try.underlying5 Try.underlying9 (by omega) (by omega) (fun _ h => ld1 (O.load 0 rfl rfl) h)) rfl fun a F => ?_))
          have O : Own w0 [] [.cells b12 [.int .u8 ((chk l : Int))] 5, .cells b6 [.int .u8 ((l.length : Int))] 5] w := O
          refine ⟨fun _ => SC.nil, ?_⟩
          have hS : SC [] w := SC.nil
          refine d_take 11 rfl (by kernel_rfl) F (p_cat rfl rfl (by first | omega | (simp; done) | (simp; omega))) rfl rfl hS fun a F => d_take 12 rfl (by kernel_rfl) F (p_assign rfl) rfl rfl hS fun a F => d_done (by kernel_rfl) (?_)
          have F : Has 15 [(0, .string (bs (l))), (2, .string (bs ((([UInt8.ofNat ((l.length : Int) : Int).toNat]) ++ l) ++ ([UInt8.ofNat ((chk l : Int) : Int).toNat]))))] a := F.pick ⟨rfl, rfl, trivial⟩
          have O : Own w0 [] [] w := (O.take 0)
          exact ⟨b6, b12, F, O⟩
        · refine d_op rfl F rfl (o_bslice (cs := [.int .u8 ((chk l : Int))]) F O rfl Try.underlying34 Try.sz_5 Try.zero_5 rfl rfl rfl fun b12 w O a F => ?_)
          have O : Own w0 [] [.cells b12 [.int .u8 ((chk l : Int))] 5, .cells b6 [.int .u8 ((l.length : Int))] 5] w := O
          refine ⟨fun _ => SC.nil, ?_⟩
          have hS : SC [] w := SC.nil
          refine d_two 4 10 (by kernel_rfl) ?_ ?_
          · refine d_op rfl F rfl (o_pure F (p_cbs1 rfl Try.underlying34 Try.underlying5 Try.underlying9 (by omega) (by omega) (fun _ h => ld1 (O.load 1 rfl rfl) h)) rfl fun a F => ?_)
            have O : Own w0 [] [.cells b12 [.int .u8 ((chk l : Int))] 5, .cells b6 [.int .u8 ((l.length : Int))] 5] w := O
            refine ⟨fun _ => SC.nil, ?_⟩
            have hS : SC [] w := SC.nil
            refine d_take 6 rfl (by kernel_rfl) F (p_cat rfl rfl (by first | omega | (simp; done) | (simp; omega))) rfl rfl hS fun a F => d_one 10 (by kernel_rfl) (d_op rfl F rfl (o_pure F (p_cbs1 rfl Try.underlying34 Try.underlying5 Try.underlying9 (by omega) (by omega) (fun _ h => ld1 (O.load 0 rfl rfl) h)) rfl fun a F => ?_))
            have O : Own w0 [] [.cells b12 [.int .u8 ((chk l : Int))] 5, .cells b6 [.int .u8 ((l.length : Int))] 5] w := O
            refine ⟨fun _ => SC.nil, ?_⟩
            have hS : SC [] w := SC.nil
            refine d_take 11 rfl (by kernel_rfl) F (p_cat rfl rfl (by first | omega | (simp; done) | (simp; omega))) rfl rfl hS fun a F => d_take 12 rfl (by kernel_rfl) F (p_assign rfl) rfl rfl hS fun a F => d_done (by kernel_rfl) (?_)
            have F : Has 15 [(0, .string (bs (l))), (2, .string (bs ((([UInt8.ofNat ((l.length : Int) : Int).toNat]) ++ l) ++ ([UInt8.ofNat ((chk l : Int) : Int).toNat]))))] a := F.pick ⟨rfl, rfl, trivial⟩
            have O : Own w0 [] [] w := (O.take 0)
            exact ⟨b6, b12, F, O⟩
          · refine d_op rfl F rfl (o_pure F (p_cbs1 rfl Try.underlying34 Try.underlying5 Try.underlying9 (by omega) (by omega) (fun _ h => ld1 (O.load 0 rfl rfl) h)) rfl fun a F => ?_)
            have O : Own w0 [] [.cells b12 [.int .u8 ((chk l : Int))] 5, .cells b6 [.int .u8 ((l.length : Int))] 5] w := O
            refine ⟨fun _ => SC.nil, ?_⟩
            have hS : SC [] w := SC.nil
            refine d_one 4 (by kernel_rfl) (d_op rfl F rfl (o_pure F (p_cbs1 rfl Try.underlying34 Try.underlying5 Try.underlying9 (by omega) (by omega) (fun _ h => ld1 (O.load 1 rfl rfl) h)) rfl fun a F => ?_))
            have O : Own w0 [] [.cells b12 [.int .u8 ((chk l : Int))] 5, .cells b6 [.int .u8 ((l.length : Int))] 5] w := O
            refine ⟨fun _ => SC.nil, ?_⟩
            have hS : SC [] w := SC.nil
            refine d_take 6 rfl (by kernel_rfl) F (p_cat rfl rfl (by first | omega | (simp; done) | (simp; omega))) rfl rfl hS fun a F => d_take 11 rfl (by kernel_rfl) F (p_cat rfl rfl (by first | omega | (simp; done) | (simp; omega))) rfl rfl hS fun a F => d_take 12 rfl (by kernel_rfl) F (p_assign rfl) rfl rfl hS fun a F => d_done (by kernel_rfl) (?_)
            have F : Has 15 [(0, .string (bs (l))), (2, .string (bs ((([UInt8.ofNat ((l.length : Int) : Int).toNat]) ++ l) ++ ([UInt8.ofNat ((chk l : Int) : Int).toNat]))))] a := F.pick ⟨rfl, rfl, trivial⟩
            have O : Own w0 [] [] w := (O.take 0)
            exact ⟨b6, b12, F, O⟩
      · refine d_op rfl F rfl (o_bslice (cs := [.int .u8 ((chk l : Int))]) F O rfl Try.underlying34 Try.sz_5 Try.zero_5 rfl rfl rfl fun b12 w O a F => ?_)
        have O : Own w0 [] [.cells b12 [.int .u8 ((chk l : Int))] 5] w := O
        refine ⟨fun _ => SC.nil, ?_⟩
        have hS : SC [] w := SC.nil
        refine d_two 3 10 (by kernel_rfl) ?_ ?_
        · refine d_op rfl F rfl (o_bslice (cs := [.int .u8 ((l.length : Int))]) F O rfl Try.underlying34 Try.sz_5 Try.zero_5 rfl rfl rfl fun b6 w O a F => ?_)
          have O : Own w0 [] [.cells b6 [.int .u8 ((l.length : Int))] 5, .cells b12 [.int .u8 ((chk l : Int))] 5] w := O
          refine ⟨fun _ => SC.nil, ?_⟩
          have hS : SC [] w := SC.nil
          refine d_two 4 10 (by kernel_rfl) ?_ ?_
          · refine d_op rfl F rfl (o_pure F (p_cbs1 rfl Try.underlying34 Try.underlying5 Try.underlying9 (by omega) (by omega) (fun _ h => ld1 (O.load 0 rfl rfl) h)) rfl fun a F => ?_)
            have O : Own w0 [] [.cells b6 [.int .u8 ((l.length : Int))] 5, .cells b12 [.int .u8 ((chk l : Int))] 5] w := O
            refine ⟨fun _ => SC.nil, ?_⟩
            have hS : SC [] w := SC.nil
            refine d_take 6 rfl (by kernel_rfl) F (p_cat rfl rfl (by first | omega | (simp; done) | (simp; omega))) rfl rfl hS fun a F => d_one 10 (by kernel_rfl) (d_op rfl F rfl (o_pure F (p_cbs1 rfl Try.underlying34 Try.underlying5 Try.underlying9 (by omega) (by omega) (fun _ h => ld1 (O.load 1 rfl rfl) h)) rfl fun a F => ?_))
            have O : Own w0 [] [.cells b6 [.int .u8 ((l.length : Int))] 5, .cells b12 [.int .u8 ((chk l : Int))] 5] w := O
            refine ⟨fun _ => SC.nil, ?_⟩
            have hS : SC [] w := SC.nil
            refine d_take 11 rfl (by kernel_rfl) F (p_cat rfl rfl (by first | omega | (simp; done) | (simp; omega))) rfl rfl hS fun a F => d_take 12 rfl (by kernel_rfl) F (p_assign rfl) rfl rfl hS fun a F => d_done (by kernel_rfl) (?_)
            have F : Has 15 [(0, .string (bs (l))), (2, .string (bs ((([UInt8.ofNat ((l.length : Int) : Int).toNat]) ++ l) ++ ([UInt8.ofNat ((chk l : Int) : Int).toNat]))))] a := F.pick ⟨rfl, rfl, trivial⟩
            have O : Own w0 [] [] w := (O.take 0)
            exact ⟨b6, b12, F, O⟩
          · refine d_op rfl F rfl (o_pure F (p_cbs1 rfl Try.underlying34 Try.underlying5 Try.underlying9 (by omega) (by omega) (fun _ h => ld1 (O.load 1 rfl rfl) h)) rfl fun a F => ?_)
            have O : Own w0 [] [.cells b6 [.int .u8 ((l.length : Int))] 5, .cells b12 [.int .u8 ((chk l : Int))] 5] w := O
            refine ⟨fun _ => SC.nil, ?_⟩
            have hS : SC [] w := SC.nil
            refine d_one 4 (by kernel_rfl) (d_op rfl F rfl (o_pure F (p_cbs1 rfl Try.underlying34 Try.underlying5 Try.underlying9 (by omega) (by omega) (fun _ h => ld1 (O.load 0 rfl rfl) h)) rfl fun a F => ?_))
            have O : Own w0 [] [.cells b6 [.int .u8 ((l.length : Int))] 5, .cells b12 [.int .u8 ((chk l : Int))] 5] w := O
            refine ⟨fun _ => SC.nil, ?_⟩
            have hS : SC [] w := SC.nil
            refine d_take 6 rfl (by kernel_rfl) F (p_cat rfl rfl (by first | omega | (simp; done) | (simp; omega))) rfl rfl hS fun a F => d_take 11 rfl (by kernel_rfl) F (p_cat rfl rfl (by first | omega | (simp; done) | (simp; omega))) rfl rfl hS fun a F => d_take 12 rfl (by kernel_rfl) F (p_assign rfl) rfl rfl hS fun a F => d_done (by kernel_rfl) (?_)
            have F : Has 15 [(0, .string (bs (l))), (2, .string (bs ((([UInt8.ofNat ((l.length : Int) : Int).toNat]) ++ l) ++ ([UInt8.ofNat ((chk l : Int) : Int).toNat]))))] a := F.pick ⟨rfl, rfl, trivial⟩
            have O : Own w0 [] [] w := (O.take 0)
            exact ⟨b6, b12, F, O⟩
        · refine d_op rfl F rfl (o_pure F (p_cbs1 rfl Try.underlying34 Try.underlying5 Try.underlying9 (by omega) (by omega) (fun _ h => ld1 (O.load 0 rfl rfl) h)) rfl fun a F => ?_)
          have O : Own w0 [] [.cells b12 [.int .u8 ((chk l : Int))] 5] w := O
          refine ⟨fun _ => SC.nil, ?_⟩
          have hS : SC [] w := SC.nil
          refine d_one 3 (by kernel_rfl) (d_op rfl F rfl (o_bslice (cs := [.int .u8 ((l.length : Int))]) F O rfl Try.underlying34 Try.sz_5 Try.zero_5 rfl rfl rfl fun b6 w O a F => ?_))
          have O : Own w0 [] [.cells b6 [.int .u8 ((l.length : Int))] 5, .cells b12 [.int .u8 ((chk l : Int))] 5] w := O
          refine ⟨fun _ => SC.nil, ?_⟩
          have hS : SC [] w := SC.nil
          refine d_one 4 (by kernel_rfl) (d_op rfl F rfl (o_pure F (p_cbs1 rfl Try.underlying34 Try.underlying5 Try.underlying9 (by omega) (by omega) (fun _ h => ld1 (O.load 0 rfl rfl) h)) rfl fun a F => ?_))
          have O : Own w0 [] [.cells b6 [.int .u8 ((l.length : Int))] 5, .cells b12 [.int .u8 ((chk l : Int))] 5] w := O
          refine ⟨fun _ => SC.nil, ?_⟩
          have hS : SC [] w := SC.nil
          refine d_take 6 rfl (by kernel_rfl) F (p_cat rfl rfl (by first | omega | (simp; done) | (simp; omega))) rfl rfl hS fun a F => d_take 11 rfl (by kernel_rfl) F (p_cat rfl rfl (by first | omega | (simp; done) | (simp; omega))) rfl rfl hS fun a F => d_take 12 rfl (by kernel_rfl) F (p_assign rfl) rfl rfl hS fun a F => d_done (by kernel_rfl) (?_)
          have F : Has 15 [(0, .string (bs (l))), (2, .string (bs ((([UInt8.ofNat ((l.length : Int) : Int).toNat]) ++ l) ++ ([UInt8.ofNat ((chk l : Int) : Int).toNat]))))] a := F.pick ⟨rfl, rfl, trivial⟩
          have O : Own w0 [] [] w := (O.take 0)
          exact ⟨b6, b12, F, O⟩

set_option maxRecDepth 100000 in
/-- spec.LogFrame -/
theorem sLogFrame_ok (l : List UInt8) (w0 : World) :
    Calls Try.prog 29 #[.string (bs (l))] w0 fun e w => e = .returned (.string (bs (lFrame l))) ∧ Own w0 [] [] w := by
  have O := Own.start w0
  refine enterO (n := 9) Try.func29 rfl rfl rfl O fun a w F O => ?_
  refine c_seq fun K1 hK1 => c_region (sp F (p_assign rfl) rfl rfl fun a F => c_nil (hK1 _ _ (?_)))
  try clear hK1 K1
  refine c_seq fun K2 hK2 => c_seq fun K3 hK3 => c_region (sp F (p_move rfl) rfl rfl fun a F => sp F (p_len_b rfl Try.underlying9) rfl rfl fun a F => so F rfl (o_call (vs := #[.int .i64 ((l.length : Int)), .int .i64 (1), .int .i64 (12)]) F Try.en_50 rfl rfl ((l6In_ok (l.length : Int) 1 12 w).mono ?_)))
  rintro e w ⟨rfl, K⟩
  refine ⟨_, rfl, fun a F => ?_⟩
  have O : Own w0 [] [] w := O.call0 K
  clear K
  have O : Own w0 [] [] w := O
  by_cases c5 : 1 ≤ (l.length : Int) ∧ (l.length : Int) ≤ 12
  · have F := F.setB (d := 5) rfl (decide_eq_true c5)
    refine sp F (p_not rfl) rfl rfl fun a F => c_nil (hK3 _ _ (?_))
    try clear hK3 K3
    refine c_iff F rfl (wp_skip (hK2 _ _ (?_)))
    try clear hK2 K2
    refine c_seq fun K4 hK4 => c_region (sp F (p_move rfl) rfl rfl fun a F => so F rfl (o_call (vs := #[.string (bs (l))]) F Try.en_52 rfl rfl ((l4Frame_ok l w (by omega)).mono ?_)))
    rintro e w ⟨rfl, K⟩
    refine ⟨_, rfl, fun a F => ?_⟩
    have O : Own w0 [] [] w := O.call0 K
    clear K
    have O : Own w0 [] [] w := O
    refine sp F (p_assign rfl) rfl rfl fun a F => c_nil (hK4 _ _ (?_))
    try clear hK4 K4
    refine wp_ret (ret1 F rfl rfl (?_))
    exact ⟨congrArg Ending.returned (show Value.string (bs (frameL l)) = .string (bs (lFrame l)) from by exact vstr ((by simp [frameL] : _ = frameL l).trans (lFrame_ok (by omega)).symm)), O⟩
  · have F := F.setB (d := 5) rfl (decide_eq_false c5)
    refine sp F (p_not rfl) rfl rfl fun a F => c_nil (hK3 _ _ (?_))
    try clear hK3 K3
    refine c_ift F rfl (c_seq fun K4 hK4 => c_region (sp F (p_assign rfl) rfl rfl fun a F => c_nil (hK4 _ _ (?_))))
    try clear hK4 K4
    refine wp_ret (r_then (ret1 F rfl rfl (?_)))
    exact ⟨congrArg Ending.returned (show Value.string (bs ([])) = .string (bs (lFrame l)) from by exact vstr (lFrame_bad (by omega)).symm), O⟩

set_option maxRecDepth 100000 in
/-- impl.LogFrame -/
theorem iLogFrame_ok (l : List UInt8) (w0 : World) :
    Calls Try.prog 30 #[.string (bs (l))] w0 fun e w => e = .returned (.string (bs (lFrame l))) ∧ Own w0 [] [] w := by
  have O := Own.start w0
  have hcl := chk_lt l
  refine enterO (n := 18) Try.func30 rfl rfl rfl O fun a w F O => ?_
  refine c_seq fun K1 hK1 => c_region (sp F (p_assign rfl) rfl rfl fun a F => c_nil (hK1 _ _ (?_)))
  try clear hK1 K1
  refine c_seq fun K2 hK2 => c_seq fun K3 hK3 => c_region (sp F (p_move rfl) rfl rfl fun a F => so F rfl (o_call (vs := #[.string (bs (l))]) F Try.en_53 rfl rfl ((isRecord_ok l w).mono ?_)))
  rintro e w ⟨rfl, K⟩
  refine ⟨_, rfl, fun a F => ?_⟩
  have O : Own w0 [] [] w := O.call0 K
  clear K
  have O : Own w0 [] [] w := O
  by_cases c4 : 1 ≤ (l.length : Int) ∧ (l.length : Int) ≤ 12
  · have F := F.setB (d := 4) rfl (decide_eq_true c4)
    refine sp F (p_not rfl) rfl rfl fun a F => c_nil (hK3 _ _ (?_))
    try clear hK3 K3
    refine c_iff F rfl (wp_skip (hK2 _ _ (?_)))
    try clear hK2 K2
    refine c_seq fun K4 hK4 => ?_
    refine c_draw Try.mixed (SC []) [] (fun a w => ∃ (b9 : Nat), ∃ (b15 : Nat), Has 18 [(0, .string (bs (l))), (2, .string (bs ((([UInt8.ofNat ((l.length : Int) : Int).toNat]) ++ l) ++ ([UInt8.ofNat ((chk l : Int) : Int).toNat])))), (5, .bool false)] a ∧ Own w0 [] [] w) ?_ ?_
    · rintro a w ⟨b9, b15, F, O⟩
      refine hK4 _ _ (?_)
      try clear hK4 K4
      refine wp_ret (ret1 F rfl rfl (?_))
      exact ⟨congrArg Ending.returned (show Value.string (bs ((([UInt8.ofNat ((l.length : Int) : Int).toNat]) ++ l) ++ ([UInt8.ofNat ((chk l : Int) : Int).toNat]))) = .string (bs (lFrame l)) from by exact vstr ((by simp [frameL] : _ = frameL l).trans (lFrame_ok (by omega)).symm)), O⟩
    · have O := O.drawn (w.drawn + 1)
      generalize { w with drawn := w.drawn + 1 } = w at O ⊢
      have hS : SC [] w := SC.nil
      refine d_take 0 rfl (by kernel_rfl) F (p_move rfl) rfl rfl hS fun a F => d_take 1 rfl (by kernel_rfl) F (p_len_b rfl Try.underlying9) rfl rfl hS fun a F => d_take 2 rfl (by kernel_rfl) F (p_convu8s rfl (by rw [Try.underlying3]; rfl) Try.underlying5 (by omega) (by omega)) rfl rfl hS fun a F => d_take 5 rfl (by kernel_rfl) F (p_move rfl) rfl rfl hS fun a F => d_take 7 rfl (by kernel_rfl) F (p_move rfl) rfl rfl hS fun a F => ?_
      refine d_two 3 8 (by kernel_rfl) ?_ ?_
      · refine d_op rfl F rfl (o_bslice (cs := [.int .u8 ((l.length : Int))]) F O rfl Try.underlying34 Try.sz_5 Try.zero_5 rfl rfl rfl fun b9 w O a F => ?_)
        have O : Own w0 [] [.cells b9 [.int .u8 ((l.length : Int))] 5] w := O
        refine ⟨fun _ => SC.nil, ?_⟩
        have hS : SC [] w := SC.nil
        refine d_two 4 8 (by kernel_rfl) ?_ ?_
        · refine d_op rfl F rfl (o_pure F (p_cbs1 rfl Try.underlying34 Try.underlying5 Try.underlying9 (by omega) (by omega) (fun _ h => ld1 (O.load 0 rfl rfl) h)) rfl fun a F => ?_)
          have O : Own w0 [] [.cells b9 [.int .u8 ((l.length : Int))] 5] w := O
          refine ⟨fun _ => SC.nil, ?_⟩
          have hS : SC [] w := SC.nil
          refine d_take 6 rfl (by kernel_rfl) F (p_cat rfl rfl (by first | omega | (simp; done) | (simp; omega))) rfl rfl hS fun a F => d_one 8 (by kernel_rfl) (d_op rfl F rfl (o_call (vs := #[.string (bs (l))]) F Try.en_54 rfl rfl ((checkOf_ok l w (by first | omega | (simp; done) | (simp; omega))).mono ?_)))
          rintro e w ⟨rfl, K⟩
          refine ⟨_, rfl, fun a F => ?_⟩
          have O : Own w0 [] [.cells b9 [.int .u8 ((l.length : Int))] 5] w := O.call0 K
          clear K
          have O : Own w0 [] [.cells b9 [.int .u8 ((l.length : Int))] 5] w := O
          refine ⟨fun _ => SC.nil, ?_⟩
          have hS : SC [] w := SC.nil
          refine d_one 9 (by kernel_rfl) (d_op rfl F rfl (o_bslice (cs := [.int .u8 ((chk l : Int))]) F O rfl Try.underlying34 Try.sz_5 Try.zero_5 rfl rfl rfl fun b15 w O a F => ?_))
          have O : Own w0 [] [.cells b15 [.int .u8 ((chk l : Int))] 5, .cells b9 [.int .u8 ((l.length : Int))] 5] w := O
          refine ⟨fun _ => SC.nil, ?_⟩
          have hS : SC [] w := SC.nil
          refine d_one 10 (by kernel_rfl) (d_op rfl F rfl (o_pure F (p_cbs1 rfl Try.underlying34 Try.underlying5 Try.underlying9 (by omega) (by omega) (fun _ h => ld1 (O.load 0 rfl rfl) h)) rfl fun a F => ?_))
          have O : Own w0 [] [.cells b15 [.int .u8 ((chk l : Int))] 5, .cells b9 [.int .u8 ((l.length : Int))] 5] w := O
          refine ⟨fun _ => SC.nil, ?_⟩
          have hS : SC [] w := SC.nil
          refine d_take 11 rfl (by kernel_rfl) F (p_cat rfl rfl (by first | omega | (simp; done) | (simp; omega))) rfl rfl hS fun a F => d_take 12 rfl (by kernel_rfl) F (p_assign rfl) rfl rfl hS fun a F => d_done (by kernel_rfl) (?_)
          have F : Has 18 [(0, .string (bs (l))), (2, .string (bs ((([UInt8.ofNat ((l.length : Int) : Int).toNat]) ++ l) ++ ([UInt8.ofNat ((chk l : Int) : Int).toNat])))), (5, .bool false)] a := F.pick ⟨rfl, rfl, rfl, trivial⟩
          have O : Own w0 [] [] w := (O.take 0)
          exact ⟨b9, b15, F, O⟩
        · refine d_op rfl F rfl (o_call (vs := #[.string (bs (l))]) F Try.en_54 rfl rfl ((checkOf_ok l w (by first | omega | (simp; done) | (simp; omega))).mono ?_))
          rintro e w ⟨rfl, K⟩
          refine ⟨_, rfl, fun a F => ?_⟩
          have O : Own w0 [] [.cells b9 [.int .u8 ((l.length : Int))] 5] w := O.call0 K
          clear K
          have O : Own w0 [] [.cells b9 [.int .u8 ((l.length : Int))] 5] w := O
          refine ⟨fun _ => SC.nil, ?_⟩
          have hS : SC [] w := SC.nil
          refine d_two 4 9 (by kernel_rfl) ?_ ?_
          · refine d_op rfl F rfl (o_pure F (p_cbs1 rfl Try.underlying34 Try.underlying5 Try.underlying9 (by omega) (by omega) (fun _ h => ld1 (O.load 0 rfl rfl) h)) rfl fun a F => ?_)
            have O : Own w0 [] [.cells b9 [.int .u8 ((l.length : Int))] 5] w := O
            refine ⟨fun _ => SC.nil, ?_⟩
            have hS : SC [] w := SC.nil
            refine d_take 6 rfl (by kernel_rfl) F (p_cat rfl rfl (by first | omega | (simp; done) | (simp; omega))) rfl rfl hS fun a F => d_one 9 (by kernel_rfl) (d_op rfl F rfl (o_bslice (cs := [.int .u8 ((chk l : Int))]) F O rfl Try.underlying34 Try.sz_5 Try.zero_5 rfl rfl rfl fun b15 w O a F => ?_))
            have O : Own w0 [] [.cells b15 [.int .u8 ((chk l : Int))] 5, .cells b9 [.int .u8 ((l.length : Int))] 5] w := O
            refine ⟨fun _ => SC.nil, ?_⟩
            have hS : SC [] w := SC.nil
            refine d_one 10 (by kernel_rfl) (d_op rfl F rfl (o_pure F (p_cbs1 rfl Try.underlying34 Try.underlying5 Try.underlying9 (by omega) (by omega) (fun _ h => ld1 (O.load 0 rfl rfl) h)) rfl fun a F => ?_))
            have O : Own w0 [] [.cells b15 [.int .u8 ((chk l : Int))] 5, .cells b9 [.int .u8 ((l.length : Int))] 5] w := O
            refine ⟨fun _ => SC.nil, ?_⟩
            have hS : SC [] w := SC.nil
            refine d_take 11 rfl (by kernel_rfl) F (p_cat rfl rfl (by first | omega | (simp; done) | (simp; omega))) rfl rfl hS fun a F => d_take 12 rfl (by kernel_rfl) F (p_assign rfl) rfl rfl hS fun a F => d_done (by kernel_rfl) (?_)
            have F : Has 18 [(0, .string (bs (l))), (2, .string (bs ((([UInt8.ofNat ((l.length : Int) : Int).toNat]) ++ l) ++ ([UInt8.ofNat ((chk l : Int) : Int).toNat])))), (5, .bool false)] a := F.pick ⟨rfl, rfl, rfl, trivial⟩
            have O : Own w0 [] [] w := (O.take 0)
            exact ⟨b9, b15, F, O⟩
          · refine d_op rfl F rfl (o_bslice (cs := [.int .u8 ((chk l : Int))]) F O rfl Try.underlying34 Try.sz_5 Try.zero_5 rfl rfl rfl fun b15 w O a F => ?_)
            have O : Own w0 [] [.cells b15 [.int .u8 ((chk l : Int))] 5, .cells b9 [.int .u8 ((l.length : Int))] 5] w := O
            refine ⟨fun _ => SC.nil, ?_⟩
            have hS : SC [] w := SC.nil
            refine d_two 4 10 (by kernel_rfl) ?_ ?_
            · refine d_op rfl F rfl (o_pure F (p_cbs1 rfl Try.underlying34 Try.underlying5 Try.underlying9 (by omega) (by omega) (fun _ h => ld1 (O.load 1 rfl rfl) h)) rfl fun a F => ?_)
              have O : Own w0 [] [.cells b15 [.int .u8 ((chk l : Int))] 5, .cells b9 [.int .u8 ((l.length : Int))] 5] w := O
              refine ⟨fun _ => SC.nil, ?_⟩
              have hS : SC [] w := SC.nil
              refine d_take 6 rfl (by kernel_rfl) F (p_cat rfl rfl (by first | omega | (simp; done) | (simp; omega))) rfl rfl hS fun a F => d_one 10 (by kernel_rfl) (d_op rfl F rfl (o_pure F (p_cbs1 rfl Try.underlying34 Try.underlying5 Try.underlying9 (by omega) (by omega) (fun _ h => ld1 (O.load 0 rfl rfl) h)) rfl fun a F => ?_))
              have O : Own w0 [] [.cells b15 [.int .u8 ((chk l : Int))] 5, .cells b9 [.int .u8 ((l.length : Int))] 5] w := O
              refine ⟨fun _ => SC.nil, ?_⟩
              have hS : SC [] w := SC.nil
              refine d_take 11 rfl (by kernel_rfl) F (p_cat rfl rfl (by first | omega | (simp; done) | (simp; omega))) rfl rfl hS fun a F => d_take 12 rfl (by kernel_rfl) F (p_assign rfl) rfl rfl hS fun a F => d_done (by kernel_rfl) (?_)
              have F : Has 18 [(0, .string (bs (l))), (2, .string (bs ((([UInt8.ofNat ((l.length : Int) : Int).toNat]) ++ l) ++ ([UInt8.ofNat ((chk l : Int) : Int).toNat])))), (5, .bool false)] a := F.pick ⟨rfl, rfl, rfl, trivial⟩
              have O : Own w0 [] [] w := (O.take 0)
              exact ⟨b9, b15, F, O⟩
            · refine d_op rfl F rfl (o_pure F (p_cbs1 rfl Try.underlying34 Try.underlying5 Try.underlying9 (by omega) (by omega) (fun _ h => ld1 (O.load 0 rfl rfl) h)) rfl fun a F => ?_)
              have O : Own w0 [] [.cells b15 [.int .u8 ((chk l : Int))] 5, .cells b9 [.int .u8 ((l.length : Int))] 5] w := O
              refine ⟨fun _ => SC.nil, ?_⟩
              have hS : SC [] w := SC.nil
              refine d_one 4 (by kernel_rfl) (d_op rfl F rfl (o_pure F (p_cbs1 rfl Try.underlying34 Try.underlying5 Try.underlying9 (by omega) (by omega) (fun _ h => ld1 (O.load 1 rfl rfl) h)) rfl fun a F => ?_))
              have O : Own w0 [] [.cells b15 [.int .u8 ((chk l : Int))] 5, .cells b9 [.int .u8 ((l.length : Int))] 5] w := O
              refine ⟨fun _ => SC.nil, ?_⟩
              have hS : SC [] w := SC.nil
              refine d_take 6 rfl (by kernel_rfl) F (p_cat rfl rfl (by first | omega | (simp; done) | (simp; omega))) rfl rfl hS fun a F => d_take 11 rfl (by kernel_rfl) F (p_cat rfl rfl (by first | omega | (simp; done) | (simp; omega))) rfl rfl hS fun a F => d_take 12 rfl (by kernel_rfl) F (p_assign rfl) rfl rfl hS fun a F => d_done (by kernel_rfl) (?_)
              have F : Has 18 [(0, .string (bs (l))), (2, .string (bs ((([UInt8.ofNat ((l.length : Int) : Int).toNat]) ++ l) ++ ([UInt8.ofNat ((chk l : Int) : Int).toNat])))), (5, .bool false)] a := F.pick ⟨rfl, rfl, rfl, trivial⟩
              have O : Own w0 [] [] w := (O.take 0)
              exact ⟨b9, b15, F, O⟩
      · refine d_op rfl F rfl (o_call (vs := #[.string (bs (l))]) F Try.en_54 rfl rfl ((checkOf_ok l w (by first | omega | (simp; done) | (simp; omega))).mono ?_))
        rintro e w ⟨rfl, K⟩
        refine ⟨_, rfl, fun a F => ?_⟩
        have O : Own w0 [] [] w := O.call0 K
        clear K
        have O : Own w0 [] [] w := O
        refine ⟨fun _ => SC.nil, ?_⟩
        have hS : SC [] w := SC.nil
        refine d_two 3 9 (by kernel_rfl) ?_ ?_
        · refine d_op rfl F rfl (o_bslice (cs := [.int .u8 ((l.length : Int))]) F O rfl Try.underlying34 Try.sz_5 Try.zero_5 rfl rfl rfl fun b9 w O a F => ?_)
          have O : Own w0 [] [.cells b9 [.int .u8 ((l.length : Int))] 5] w := O
          refine ⟨fun _ => SC.nil, ?_⟩
          have hS : SC [] w := SC.nil
          refine d_two 4 9 (by kernel_rfl) ?_ ?_
          · refine d_op rfl F rfl (o_pure F (p_cbs1 rfl Try.underlying34 Try.underlying5 Try.underlying9 (by omega) (by omega) (fun _ h => ld1 (O.load 0 rfl rfl) h)) rfl fun a F => ?_)
            have O : Own w0 [] [.cells b9 [.int .u8 ((l.length : Int))] 5] w := O
            refine ⟨fun _ => SC.nil, ?_⟩
            have hS : SC [] w := SC.nil
            refine d_take 6 rfl (by kernel_rfl) F (p_cat rfl rfl (by first | omega | (simp; done) | (simp; omega))) rfl rfl hS fun a F => d_one 9 (by kernel_rfl) (d_op rfl F rfl (o_bslice (cs := [.int .u8 ((chk l : Int))]) F O rfl Try.underlying34 Try.sz_5 Try.zero_5 rfl rfl rfl fun b15 w O a F => ?_))
            have O : Own w0 [] [.cells b15 [.int .u8 ((chk l : Int))] 5, .cells b9 [.int .u8 ((l.length : Int))] 5] w := O
            refine ⟨fun _ => SC.nil, ?_⟩
            have hS : SC [] w := SC.nil
            refine d_one 10 (by kernel_rfl) (d_op rfl F rfl (o_pure F (p_cbs1 rfl Try.underlying34 Try.underlying5 Try.underlying9 (by omega) (by omega) (fun _ h => ld1 (O.load 0 rfl rfl) h)) rfl fun a F => ?_))
            have O : Own w0 [] [.cells b15 [.int .u8 ((chk l : Int))] 5, .cells b9 [.int .u8 ((l.length : Int))] 5] w := O
            refine ⟨fun _ => SC.nil, ?_⟩
            have hS : SC [] w := SC.nil
            refine d_take 11 rfl (by kernel_rfl) F (p_cat rfl rfl (by first | omega | (simp; done) | (simp; omega))) rfl rfl hS fun a F => d_take 12 rfl (by kernel_rfl) F (p_assign rfl) rfl rfl hS fun a F => d_done (by kernel_rfl) (?_)
            have F : Has 18 [(0, .string (bs (l))), (2, .string (bs ((([UInt8.ofNat ((l.length : Int) : Int).toNat]) ++ l) ++ ([UInt8.ofNat ((chk l : Int) : Int).toNat])))), (5, .bool false)] a := F.pick ⟨rfl, rfl, rfl, trivial⟩
            have O : Own w0 [] [] w := (O.take 0)
            exact ⟨b9, b15, F, O⟩
          · refine d_op rfl F rfl (o_bslice (cs := [.int .u8 ((chk l : Int))]) F O rfl Try.underlying34 Try.sz_5 Try.zero_5 rfl rfl rfl fun b15 w O a F => ?_)
            have O : Own w0 [] [.cells b15 [.int .u8 ((chk l : Int))] 5, .cells b9 [.int .u8 ((l.length : Int))] 5] w := O
            refine ⟨fun _ => SC.nil, ?_⟩
            have hS : SC [] w := SC.nil
            refine d_two 4 10 (by kernel_rfl) ?_ ?_
            · refine d_op rfl F rfl (o_pure F (p_cbs1 rfl Try.underlying34 Try.underlying5 Try.underlying9 (by omega) (by omega) (fun _ h => ld1 (O.load 1 rfl rfl) h)) rfl fun a F => ?_)
              have O : Own w0 [] [.cells b15 [.int .u8 ((chk l : Int))] 5, .cells b9 [.int .u8 ((l.length : Int))] 5] w := O
              refine ⟨fun _ => SC.nil, ?_⟩
              have hS : SC [] w := SC.nil
              refine d_take 6 rfl (by kernel_rfl) F (p_cat rfl rfl (by first | omega | (simp; done) | (simp; omega))) rfl rfl hS fun a F => d_one 10 (by kernel_rfl) (d_op rfl F rfl (o_pure F (p_cbs1 rfl Try.underlying34 Try.underlying5 Try.underlying9 (by omega) (by omega) (fun _ h => ld1 (O.load 0 rfl rfl) h)) rfl fun a F => ?_))
              have O : Own w0 [] [.cells b15 [.int .u8 ((chk l : Int))] 5, .cells b9 [.int .u8 ((l.length : Int))] 5] w := O
              refine ⟨fun _ => SC.nil, ?_⟩
              have hS : SC [] w := SC.nil
              refine d_take 11 rfl (by kernel_rfl) F (p_cat rfl rfl (by first | omega | (simp; done) | (simp; omega))) rfl rfl hS fun a F => d_take 12 rfl (by kernel_rfl) F (p_assign rfl) rfl rfl hS fun a F => d_done (by kernel_rfl) (?_)
              have F : Has 18 [(0, .string (bs (l))), (2, .string (bs ((([UInt8.ofNat ((l.length : Int) : Int).toNat]) ++ l) ++ ([UInt8.ofNat ((chk l : Int) : Int).toNat])))), (5, .bool false)] a := F.pick ⟨rfl, rfl, rfl, trivial⟩
              have O : Own w0 [] [] w := (O.take 0)
              exact ⟨b9, b15, F, O⟩
            · refine d_op rfl F rfl (o_pure F (p_cbs1 rfl Try.underlying34 Try.underlying5 Try.underlying9 (by omega) (by omega) (fun _ h => ld1 (O.load 0 rfl rfl) h)) rfl fun a F => ?_)
              have O : Own w0 [] [.cells b15 [.int .u8 ((chk l : Int))] 5, .cells b9 [.int .u8 ((l.length : Int))] 5] w := O
              refine ⟨fun _ => SC.nil, ?_⟩
              have hS : SC [] w := SC.nil
              refine d_one 4 (by kernel_rfl) (d_op rfl F rfl (o_pure F (p_cbs1 rfl Try.underlying34 Try.underlying5 Try.underlying9 (by omega) (by omega) (fun _ h => ld1 (O.load 1 rfl rfl) h)) rfl fun a F => ?_))
              have O : Own w0 [] [.cells b15 [.int .u8 ((chk l : Int))] 5, .cells b9 [.int .u8 ((l.length : Int))] 5] w := O
              refine ⟨fun _ => SC.nil, ?_⟩
              have hS : SC [] w := SC.nil
              refine d_take 6 rfl (by kernel_rfl) F (p_cat rfl rfl (by first | omega | (simp; done) | (simp; omega))) rfl rfl hS fun a F => d_take 11 rfl (by kernel_rfl) F (p_cat rfl rfl (by first | omega | (simp; done) | (simp; omega))) rfl rfl hS fun a F => d_take 12 rfl (by kernel_rfl) F (p_assign rfl) rfl rfl hS fun a F => d_done (by kernel_rfl) (?_)
              have F : Has 18 [(0, .string (bs (l))), (2, .string (bs ((([UInt8.ofNat ((l.length : Int) : Int).toNat]) ++ l) ++ ([UInt8.ofNat ((chk l : Int) : Int).toNat])))), (5, .bool false)] a := F.pick ⟨rfl, rfl, rfl, trivial⟩
              have O : Own w0 [] [] w := (O.take 0)
              exact ⟨b9, b15, F, O⟩
        · refine d_op rfl F rfl (o_bslice (cs := [.int .u8 ((chk l : Int))]) F O rfl Try.underlying34 Try.sz_5 Try.zero_5 rfl rfl rfl fun b15 w O a F => ?_)
          have O : Own w0 [] [.cells b15 [.int .u8 ((chk l : Int))] 5] w := O
          refine ⟨fun _ => SC.nil, ?_⟩
          have hS : SC [] w := SC.nil
          refine d_two 3 10 (by kernel_rfl) ?_ ?_
          · refine d_op rfl F rfl (o_bslice (cs := [.int .u8 ((l.length : Int))]) F O rfl Try.underlying34 Try.sz_5 Try.zero_5 rfl rfl rfl fun b9 w O a F => ?_)
            have O : Own w0 [] [.cells b9 [.int .u8 ((l.length : Int))] 5, .cells b15 [.int .u8 ((chk l : Int))] 5] w := O
            refine ⟨fun _ => SC.nil, ?_⟩
            have hS : SC [] w := SC.nil
            refine d_two 4 10 (by kernel_rfl) ?_ ?_
            · refine d_op rfl F rfl (o_pure F (p_cbs1 rfl Try.underlying34 Try.underlying5 Try.underlying9 (by omega) (by omega) (fun _ h => ld1 (O.load 0 rfl rfl) h)) rfl fun a F => ?_)
              have O : Own w0 [] [.cells b9 [.int .u8 ((l.length : Int))] 5, .cells b15 [.int .u8 ((chk l : Int))] 5] w := O
              refine ⟨fun _ => SC.nil, ?_⟩
              have hS : SC [] w := SC.nil
              refine d_take 6 rfl (by kernel_rfl) F (p_cat rfl rfl (by first | omega | (simp; done) | (simp; omega))) rfl rfl hS fun a F => d_one 10 (by kernel_rfl) (d_op rfl F rfl (o_pure F (p_cbs1 rfl Try.underlying34 Try.underlying5 Try.underlying9 (by omega) (by omega) (fun _ h => ld1 (O.load 1 rfl rfl) h)) rfl fun a F => ?_))
              have O : Own w0 [] [.cells b9 [.int .u8 ((l.length : Int))] 5, .cells b15 [.int .u8 ((chk l : Int))] 5] w := O
              refine ⟨fun _ => SC.nil, ?_⟩
              have hS : SC [] w := SC.nil
              refine d_take 11 rfl (by kernel_rfl) F (p_cat rfl rfl (by first | omega | (simp; done) | (simp; omega))) rfl rfl hS fun a F => d_take 12 rfl (by kernel_rfl) F (p_assign rfl) rfl rfl hS fun a F => d_done (by kernel_rfl) (?_)
              have F : Has 18 [(0, .string (bs (l))), (2, .string (bs ((([UInt8.ofNat ((l.length : Int) : Int).toNat]) ++ l) ++ ([UInt8.ofNat ((chk l : Int) : Int).toNat])))), (5, .bool false)] a := F.pick ⟨rfl, rfl, rfl, trivial⟩
              have O : Own w0 [] [] w := (O.take 0)
              exact ⟨b9, b15, F, O⟩
            · refine d_op rfl F rfl (o_pure F (p_cbs1 rfl Try.underlying34 Try.underlying5 Try.underlying9 (by omega) (by omega) (fun _ h => ld1 (O.load 1 rfl rfl) h)) rfl fun a F => ?_)
              have O : Own w0 [] [.cells b9 [.int .u8 ((l.length : Int))] 5, .cells b15 [.int .u8 ((chk l : Int))] 5] w := O
              refine ⟨fun _ => SC.nil, ?_⟩
              have hS : SC [] w := SC.nil
              refine d_one 4 (by kernel_rfl) (d_op rfl F rfl (o_pure F (p_cbs1 rfl Try.underlying34 Try.underlying5 Try.underlying9 (by omega) (by omega) (fun _ h => ld1 (O.load 0 rfl rfl) h)) rfl fun a F => ?_))
              have O : Own w0 [] [.cells b9 [.int .u8 ((l.length : Int))] 5, .cells b15 [.int .u8 ((chk l : Int))] 5] w := O
              refine ⟨fun _ => SC.nil, ?_⟩
              have hS : SC [] w := SC.nil
              refine d_take 6 rfl (by kernel_rfl) F (p_cat rfl rfl (by first | omega | (simp; done) | (simp; omega))) rfl rfl hS fun a F => d_take 11 rfl (by kernel_rfl) F (p_cat rfl rfl (by first | omega | (simp; done) | (simp; omega))) rfl rfl hS fun a F => d_take 12 rfl (by kernel_rfl) F (p_assign rfl) rfl rfl hS fun a F => d_done (by kernel_rfl) (?_)
              have F : Has 18 [(0, .string (bs (l))), (2, .string (bs ((([UInt8.ofNat ((l.length : Int) : Int).toNat]) ++ l) ++ ([UInt8.ofNat ((chk l : Int) : Int).toNat])))), (5, .bool false)] a := F.pick ⟨rfl, rfl, rfl, trivial⟩
              have O : Own w0 [] [] w := (O.take 0)
              exact ⟨b9, b15, F, O⟩
          · refine d_op rfl F rfl (o_pure F (p_cbs1 rfl Try.underlying34 Try.underlying5 Try.underlying9 (by omega) (by omega) (fun _ h => ld1 (O.load 0 rfl rfl) h)) rfl fun a F => ?_)
            have O : Own w0 [] [.cells b15 [.int .u8 ((chk l : Int))] 5] w := O
            refine ⟨fun _ => SC.nil, ?_⟩
            have hS : SC [] w := SC.nil
            refine d_one 3 (by kernel_rfl) (d_op rfl F rfl (o_bslice (cs := [.int .u8 ((l.length : Int))]) F O rfl Try.underlying34 Try.sz_5 Try.zero_5 rfl rfl rfl fun b9 w O a F => ?_))
            have O : Own w0 [] [.cells b9 [.int .u8 ((l.length : Int))] 5, .cells b15 [.int .u8 ((chk l : Int))] 5] w := O
            refine ⟨fun _ => SC.nil, ?_⟩
            have hS : SC [] w := SC.nil
            refine d_one 4 (by kernel_rfl) (d_op rfl F rfl (o_pure F (p_cbs1 rfl Try.underlying34 Try.underlying5 Try.underlying9 (by omega) (by omega) (fun _ h => ld1 (O.load 0 rfl rfl) h)) rfl fun a F => ?_))
            have O : Own w0 [] [.cells b9 [.int .u8 ((l.length : Int))] 5, .cells b15 [.int .u8 ((chk l : Int))] 5] w := O
            refine ⟨fun _ => SC.nil, ?_⟩
            have hS : SC [] w := SC.nil
            refine d_take 6 rfl (by kernel_rfl) F (p_cat rfl rfl (by first | omega | (simp; done) | (simp; omega))) rfl rfl hS fun a F => d_take 11 rfl (by kernel_rfl) F (p_cat rfl rfl (by first | omega | (simp; done) | (simp; omega))) rfl rfl hS fun a F => d_take 12 rfl (by kernel_rfl) F (p_assign rfl) rfl rfl hS fun a F => d_done (by kernel_rfl) (?_)
            have F : Has 18 [(0, .string (bs (l))), (2, .string (bs ((([UInt8.ofNat ((l.length : Int) : Int).toNat]) ++ l) ++ ([UInt8.ofNat ((chk l : Int) : Int).toNat])))), (5, .bool false)] a := F.pick ⟨rfl, rfl, rfl, trivial⟩
            have O : Own w0 [] [] w := (O.take 0)
            exact ⟨b9, b15, F, O⟩
  · have F := F.setB (d := 4) rfl (decide_eq_false c4)
    refine sp F (p_not rfl) rfl rfl fun a F => c_nil (hK3 _ _ (?_))
    try clear hK3 K3
    refine c_ift F rfl (c_seq fun K4 hK4 => c_region (sp F (p_assign rfl) rfl rfl fun a F => c_nil (hK4 _ _ (?_))))
    try clear hK4 K4
    refine wp_ret (r_then (ret1 F rfl rfl (?_)))
    exact ⟨congrArg Ending.returned (show Value.string (bs ([])) = .string (bs (lFrame l)) from by exact vstr (lFrame_bad (by omega)).symm), O⟩

end Go.Proofs.Ytklgkfknifkbaaa
