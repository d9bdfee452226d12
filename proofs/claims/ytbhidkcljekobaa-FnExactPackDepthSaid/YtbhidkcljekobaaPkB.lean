/- Contracts of copying entries of packs, and of linking them. No conditions but those on lengths. -/
import Derived.Test.YtbhidkcljekobaaPkA
namespace Go.Proofs.Ytbhidkcljekobaa
open Go.ChangeShapes Go.WideShapes Go.ChangeAt Go.RowKit
set_option linter.unusedVariables false
set_option linter.unusedSimpArgs false

set_option maxRecDepth 100000 in
/-- laws.toPackEntry -/
theorem toPackEntry_ok (u0 : Int) (AL : Option Addr) (nL : Nat) (cL : Nat) (esL : List (Int)) (u2 : Int) (AO : Option Addr) (nO : Nat) (cO : Nat) (esO : List (Int × Int × List UInt8)) (w0 : World) (hAL : Arr w0 encInt 1 AL esL) (hnL : (nL : Int) = esL.length) (hbL : (nL : Int) ≤ 1048600) (hAO : Arr w0 encOp 3 AO esO) (hnO : (nO : Int) = esO.length) (hbO : (nO : Int) ≤ 1048600) :
    Calls Try.prog 38 #[.agg #[.int .i64 (u0), .slice AL nL cL, .int .i64 (u2), .slice AO nO cO]] w0 fun e w => ∃ (bx : Nat), ∃ (Nx : Nat), ∃ (by_ : Nat), ∃ (Ny : Nat), e = .returned (.agg #[.int .i64 (u0), .slice (some ⟨bx, 0, none⟩) Nx Nx, .int .i64 (u2), .slice (some ⟨by_, 0, none⟩) Ny Ny]) ∧ ((Nx : Int) = esL.length) ∧ ((Ny : Int) = esO.length) ∧ Own w0 [] [.row 3 1 (.slice (some ⟨bx, 0, none⟩) Nx Nx) Nx (esL.flatMap encInt), .row 43 3 (.slice (some ⟨by_, 0, none⟩) Ny Ny) Ny (esO.flatMap encOp)] w := by
  have O := Own.start w0
  refine enterO (n := 19) Try.func38 rfl rfl rfl O fun a w F O => ?_
  refine c_seq fun K1 hK1 => c_region (so F rfl (o_box F O rfl rfl fun b1 w O a F => ?_))
  have O : Own w0 [] [.cells b1 [.int .i64 (u0), .slice AL nL cL, .int .i64 (u2), .slice AO nO cO] 58] w := O
  refine so F rfl (o_alloc F O Try.zero_61 rfl fun b2 w O a F => ?_)
  have O : Own w0 [] [.cells b2 [.int .i64 (0), .slice none 0 0, .int .i64 (0), .slice none 0 0] 61, .cells b1 [.int .i64 (u0), .slice AL nL cL, .int .i64 (u2), .slice AO nO cO] 58] w := O
  refine c_nil (hK1 _ _ (?_))
  try clear hK1 K1
  refine c_seq fun K2 hK2 => c_region (so F rfl (o_alloc F O Try.zero_61 rfl fun b3 w O a F => ?_))
  have O : Own w0 [] [.cells b3 [.int .i64 (0), .slice none 0 0, .int .i64 (0), .slice none 0 0] 61, .cells b2 [.int .i64 (0), .slice none 0 0, .int .i64 (0), .slice none 0 0] 61, .cells b1 [.int .i64 (u0), .slice AL nL cL, .int .i64 (u2), .slice AO nO cO] 58] w := O
  refine c_nil (hK2 _ _ (?_))
  try clear hK2 K2
  refine c_seq fun K3 hK3 => c_region (sp F (p_faddr rfl Try.foff_58_0) rfl rfl fun a F => sp F (p_load rfl Try.agg_3 (fun _ h => (ld1 (O.load 2 rfl rfl) h))) rfl rfl fun a F => sp F (p_faddr rfl Try.foff_61_0) rfl rfl fun a F => so F rfl (o_store F O rfl rfl Try.sz_3 rfl rfl 0 rfl rfl fun w O => ?_))
  have O : Own w0 [] [.cells b3 [.int .i64 (u0), .slice none 0 0, .int .i64 (0), .slice none 0 0] 61, .cells b2 [.int .i64 (0), .slice none 0 0, .int .i64 (0), .slice none 0 0] 61, .cells b1 [.int .i64 (u0), .slice AL nL cL, .int .i64 (u2), .slice AO nO cO] 58] w := O
  refine c_nil (hK3 _ _ (?_))
  try clear hK3 K3
  refine c_seq fun K4 hK4 => c_region (sp F (p_faddr rfl Try.foff_58_1) rfl rfl fun a F => sp F (p_load rfl Try.agg_56 (fun _ h => (ld1 (O.load 2 rfl rfl) h))) rfl rfl fun a F => so F rfl (o_call (vs := #[.slice AL nL cL]) F Try.en_49 rfl rfl ((toIntS_ok AL nL cL esL w (hAL.keep O) (by first | omega | (simp; done) | (simp; omega) | (simp at *; omega)) (by omega)).mono ?_)))
  rintro e w ⟨b9, N9, rfl, h9a, K⟩
  refine ⟨_, rfl, fun a F => ?_⟩
  have O : Own w0 [] [.row 3 1 (.slice (some ⟨b9, 0, none⟩) N9 N9) N9 (esL.flatMap encInt), .cells b3 [.int .i64 (u0), .slice none 0 0, .int .i64 (0), .slice none 0 0] 61, .cells b2 [.int .i64 (0), .slice none 0 0, .int .i64 (0), .slice none 0 0] 61, .cells b1 [.int .i64 (u0), .slice AL nL cL, .int .i64 (u2), .slice AO nO cO] 58] w := O.call0 K
  clear K
  have O : Own w0 [] [.row 3 1 (.slice (some ⟨b9, 0, none⟩) N9 N9) N9 (esL.flatMap encInt), .cells b3 [.int .i64 (u0), .slice none 0 0, .int .i64 (0), .slice none 0 0] 61, .cells b2 [.int .i64 (0), .slice none 0 0, .int .i64 (0), .slice none 0 0] 61, .cells b1 [.int .i64 (u0), .slice AL nL cL, .int .i64 (u2), .slice AO nO cO] 58] w := O
  refine sp F (p_faddr rfl Try.foff_61_1) rfl rfl fun a F => so F rfl (o_store F O rfl rfl Try.sz_56 rfl rfl 1 rfl rfl fun w O => ?_)
  have O : Own w0 [] [.row 3 1 (.slice (some ⟨b9, 0, none⟩) N9 N9) N9 (esL.flatMap encInt), .cells b3 [.int .i64 (u0), .slice (some ⟨b9, 0, none⟩) N9 N9, .int .i64 (0), .slice none 0 0] 61, .cells b2 [.int .i64 (0), .slice none 0 0, .int .i64 (0), .slice none 0 0] 61, .cells b1 [.int .i64 (u0), .slice AL nL cL, .int .i64 (u2), .slice AO nO cO] 58] w := O
  refine c_nil (hK4 _ _ (?_))
  try clear hK4 K4
  refine c_seq fun K5 hK5 => c_region (sp F (p_faddr rfl Try.foff_58_2) rfl rfl fun a F => sp F (p_load rfl Try.agg_3 (fun _ h => (ld1 (O.load 3 rfl rfl) h))) rfl rfl fun a F => sp F (p_faddr rfl Try.foff_61_2) rfl rfl fun a F => so F rfl (o_store F O rfl rfl Try.sz_3 rfl rfl 1 rfl rfl fun w O => ?_))
  have O : Own w0 [] [.row 3 1 (.slice (some ⟨b9, 0, none⟩) N9 N9) N9 (esL.flatMap encInt), .cells b3 [.int .i64 (u0), .slice (some ⟨b9, 0, none⟩) N9 N9, .int .i64 (u2), .slice none 0 0] 61, .cells b2 [.int .i64 (0), .slice none 0 0, .int .i64 (0), .slice none 0 0] 61, .cells b1 [.int .i64 (u0), .slice AL nL cL, .int .i64 (u2), .slice AO nO cO] 58] w := O
  refine c_nil (hK5 _ _ (?_))
  try clear hK5 K5
  refine c_seq fun K6 hK6 => c_region (sp F (p_faddr rfl Try.foff_58_3) rfl rfl fun a F => sp F (p_load rfl Try.agg_27 (fun _ h => (ld1 (O.load 3 rfl rfl) h))) rfl rfl fun a F => so F rfl (o_call (vs := #[.slice AO nO cO]) F Try.en_16 rfl rfl ((toOpS_ok AO nO cO esO w (hAO.keep O) (by first | omega | (simp; done) | (simp; omega) | (simp at *; omega)) (by omega)).mono ?_)))
  rintro e w ⟨b16, N16, rfl, h16a, K⟩
  refine ⟨_, rfl, fun a F => ?_⟩
  have O : Own w0 [] [.row 43 3 (.slice (some ⟨b16, 0, none⟩) N16 N16) N16 (esO.flatMap encOp), .row 3 1 (.slice (some ⟨b9, 0, none⟩) N9 N9) N9 (esL.flatMap encInt), .cells b3 [.int .i64 (u0), .slice (some ⟨b9, 0, none⟩) N9 N9, .int .i64 (u2), .slice none 0 0] 61, .cells b2 [.int .i64 (0), .slice none 0 0, .int .i64 (0), .slice none 0 0] 61, .cells b1 [.int .i64 (u0), .slice AL nL cL, .int .i64 (u2), .slice AO nO cO] 58] w := O.call0 K
  clear K
  have O : Own w0 [] [.row 43 3 (.slice (some ⟨b16, 0, none⟩) N16 N16) N16 (esO.flatMap encOp), .row 3 1 (.slice (some ⟨b9, 0, none⟩) N9 N9) N9 (esL.flatMap encInt), .cells b3 [.int .i64 (u0), .slice (some ⟨b9, 0, none⟩) N9 N9, .int .i64 (u2), .slice none 0 0] 61, .cells b2 [.int .i64 (0), .slice none 0 0, .int .i64 (0), .slice none 0 0] 61, .cells b1 [.int .i64 (u0), .slice AL nL cL, .int .i64 (u2), .slice AO nO cO] 58] w := O
  refine sp F (p_faddr rfl Try.foff_61_3) rfl rfl fun a F => so F rfl (o_store F O rfl rfl Try.sz_23 rfl rfl 2 rfl rfl fun w O => ?_)
  have O : Own w0 [] [.row 43 3 (.slice (some ⟨b16, 0, none⟩) N16 N16) N16 (esO.flatMap encOp), .row 3 1 (.slice (some ⟨b9, 0, none⟩) N9 N9) N9 (esL.flatMap encInt), .cells b3 [.int .i64 (u0), .slice (some ⟨b9, 0, none⟩) N9 N9, .int .i64 (u2), .slice (some ⟨b16, 0, none⟩) N16 N16] 61, .cells b2 [.int .i64 (0), .slice none 0 0, .int .i64 (0), .slice none 0 0] 61, .cells b1 [.int .i64 (u0), .slice AL nL cL, .int .i64 (u2), .slice AO nO cO] 58] w := O
  refine c_nil (hK6 _ _ (?_))
  try clear hK6 K6
  refine c_seq fun K7 hK7 => c_region (sp F (p_loadC (cs := [.int .i64 (u0), .slice (some ⟨b9, 0, none⟩) N9 N9, .int .i64 (u2), .slice (some ⟨b16, 0, none⟩) N16 N16]) rfl Try.agg_61 Try.sz_61 (fun _ h => (CA.cons (ld1 (O.load 2 rfl rfl) h) (CA.cons (ld1 (O.load 2 rfl rfl) h) (CA.cons (ld1 (O.load 2 rfl rfl) h) (CA.cons (ld1 (O.load 2 rfl rfl) h) CA.nil)))))) rfl rfl fun a F => so F rfl (o_storeA (vs := [.int .i64 (u0), .slice (some ⟨b9, 0, none⟩) N9 N9, .int .i64 (u2), .slice (some ⟨b16, 0, none⟩) N16 N16]) F O rfl rfl Try.sz_61 (by simp [Value.oneCell']) 3 rfl rfl fun w O => ?_))
  have O : Own w0 [] [.row 43 3 (.slice (some ⟨b16, 0, none⟩) N16 N16) N16 (esO.flatMap encOp), .row 3 1 (.slice (some ⟨b9, 0, none⟩) N9 N9) N9 (esL.flatMap encInt), .cells b3 [.int .i64 (u0), .slice (some ⟨b9, 0, none⟩) N9 N9, .int .i64 (u2), .slice (some ⟨b16, 0, none⟩) N16 N16] 61, .cells b2 [.int .i64 (u0), .slice (some ⟨b9, 0, none⟩) N9 N9, .int .i64 (u2), .slice (some ⟨b16, 0, none⟩) N16 N16] 61, .cells b1 [.int .i64 (u0), .slice AL nL cL, .int .i64 (u2), .slice AO nO cO] 58] w := O
  refine c_nil (hK7 _ _ (?_))
  try clear hK7 K7
  refine wp_ret (retC F O rfl rfl 3 rfl Try.agg_61 Try.sz_61 (?_))
  have O : Own w0 [] [.row 3 1 (.slice (some ⟨b9, 0, none⟩) N9 N9) N9 (esL.flatMap encInt), .row 43 3 (.slice (some ⟨b16, 0, none⟩) N16 N16) N16 (esO.flatMap encOp)] w := (((O.pull 0 rfl).pull 1 rfl).take 2)
  exact ⟨b9, N9, b16, N16, rfl, by first | assumption | omega, by first | assumption | omega, O⟩

set_option maxRecDepth 100000 in
/-- laws.toPackEntryS -/
theorem toPackEntryS_ok (A : Option Addr) (n : Nat) (c : Nat) (es : List (Ent)) (L : List PE) (w0 : World) (hA : Arr w0 encEnt 4 A es) (hn : (n : Int) = es.length) (hb : (n : Int) ≤ 1048600) (hE : Ents w0 es L) (hS : SmallL L) :
    Calls Try.prog 20 #[.slice A n c] w0 fun e w => ∃ (b : Nat), ∃ (N : Nat), ∃ (es1 : List Ent), ∃ (Z : List (Ent × PE)), e = .returned (.slice (some ⟨b, 0, none⟩) N N) ∧ ((N : Int) = n) ∧ ((N : Int) = es1.length) ∧ (Filled es1 L Z) ∧ Own w0 [] ([.row 61 4 (.slice (some ⟨b, 0, none⟩) N N) N (es1.flatMap encEnt)] ++ entR Z) w := by
  have O := Own.start w0
  have hEl := hE.1
  refine enterO (n := 23) Try.func20 rfl rfl rfl O fun a w F O => ?_
  refine c_seq fun K1 hK1 => c_region (sp F (p_assign rfl) rfl rfl fun a F => c_nil (hK1 _ _ (?_)))
  try clear hK1 K1
  refine c_seq fun K2 hK2 => c_region (sp F (p_move rfl) rfl rfl fun a F => sp F (p_len_l rfl Try.underlying32) rfl rfl fun a F => so F rfl (o_make (enc := encEnt) (e0 := ((0, (none, 0, 0), 0, (none, 0, 0)) : Ent)) F O rfl rfl Try.underlying35 Try.elem_61 Try.zero_61 encEnt_len (by decide) (by omega) (by omega) rfl rfl fun b7 w O a F => ?_))
  have O : Own w0 [] [.row 61 4 (.slice (some ⟨b7, 0, none⟩) (((n : Int) : Int).toNat) (((n : Int) : Int).toNat)) (((n : Int) : Int).toNat) ((List.replicate (((n : Int) : Int).toNat) ((0, (none, 0, 0), 0, (none, 0, 0)) : Ent)).flatMap encEnt)] w := O
  refine sp F (p_assign rfl) rfl rfl fun a F => c_nil (hK2 _ _ (?_))
  try clear hK2 K2
  refine c_seq fun K3 hK3 => c_seq fun K4 hK4 => c_region (sp F (p_assign rfl) rfl rfl fun a F => c_nil (hK4 _ _ (?_)))
  try clear hK4 K4
  refine wp_block (?_)
  refine c_loop (fun mm a w => ∃ (k : Int), ∃ (es1 : List Ent), ∃ (Z : List (Ent × PE)), mm = ((n : Int) - k).toNat ∧ Has 23 [(0, .slice A n c), (2, .slice none 0 0), (3, .slice (some ⟨b7, 0, none⟩) (((n : Int) : Int).toNat) (((n : Int) : Int).toNat)), (4, .int .i64 (k))] a ∧ Own w0 [] ([.row 61 4 (.slice (some ⟨b7, 0, none⟩) (((n : Int) : Int).toNat) (((n : Int) : Int).toNat)) (((n : Int) : Int).toNat) (es1.flatMap encEnt)] ++ entR Z) w ∧ (0 ≤ k) ∧ (k ≤ n) ∧ ((es1.length : Int) = n) ∧ (FillTo es1 L Z k)) ?_ ?_
  · have O : Own w0 [] ([.row 61 4 (.slice (some ⟨b7, 0, none⟩) (((n : Int) : Int).toNat) (((n : Int) : Int).toNat)) (((n : Int) : Int).toNat) ((List.replicate (((n : Int) : Int).toNat) ((0, (none, 0, 0), 0, (none, 0, 0)) : Ent)).flatMap encEnt)] ++ entR ([])) w := O
    have F : Has 23 [(0, .slice A n c), (2, .slice none 0 0), (3, .slice (some ⟨b7, 0, none⟩) (((n : Int) : Int).toNat) (((n : Int) : Int).toNat)), (4, .int .i64 (0))] a := F.pick ⟨rfl, rfl, rfl, rfl, trivial⟩
    exact ⟨((n : Int) - 0).toNat, 0, (List.replicate (((n : Int) : Int).toNat) ((0, (none, 0, 0), 0, (none, 0, 0)) : Ent)), ([]), rfl, F, O, by first | assumption | omega, by first | assumption | omega, by simp, by exact fill_zero⟩
  · rintro mm a w ⟨k, es1, Z, rfl, F, O, hi0a, hi0b, hi0c, hi0d⟩
    refine c_seq fun K5 hK5 => c_seq fun K6 hK6 => c_region (sp F (p_move rfl) rfl rfl fun a F => sp F (p_move rfl) rfl rfl fun a F => sp F (p_len_l rfl Try.underlying32) rfl rfl fun a F => sp F (p_lss rfl rfl) rfl rfl fun a F => c_nil (hK6 _ _ (?_)))
    try clear hK6 K6
    by_cases c11 : k < (n : Int)
    · have F := F.setB (d := 11) rfl (decide_eq_true c11)
      refine c_ift F rfl (wp_skip (hK5 _ _ (?_)))
      try clear hK5 K5
      refine c_seq fun K7 hK7 => wp_block (c_region (sp F (p_move rfl) rfl rfl fun a F => sp F (p_move rfl) rfl rfl fun a F => sp F (p_move rfl) rfl rfl fun a F => sp F (p_move rfl) rfl rfl fun a F => ?_))
      obtain ⟨b18, o18, hp18, hb18, hc18⟩ := Arr.out hA (by omega)
      have hA18 := hA; rw [hp18] at hA18 F
      obtain ⟨e18, he18⟩ := get_some (l := es) (i := k) (by omega) (by first | omega | (simp; omega))
      obtain ⟨pe18, hq18, ⟨⟨hr18a, hr18b⟩, hr18c, hr18d⟩, hl18, ho18⟩ := hE.at he18
      have hs18 := hS _ _ hq18
      refine sp F (p_iaddr rfl rfl Try.underlying32 Try.sz_58 (by omega) (by omega)) rfl rfl fun a F => sp F (p_loadC (cs := [.int .i64 (e18.1), .slice e18.2.1.1 e18.2.1.2.1 e18.2.1.2.2, .int .i64 (e18.2.2.1), .slice e18.2.2.2.1 e18.2.2.2.2.1 e18.2.2.2.2.2]) rfl Try.agg_58 Try.sz_58 (fun _ h => (CA.cons (ld1 (((O.old hb18 (by simp)).trans (hc18 _ _ he18 0 _ rfl))) h) (CA.cons (ld1 (((O.old hb18 (by simp)).trans (hc18 _ _ he18 1 _ rfl))) h) (CA.cons (ld1 (((O.old hb18 (by simp)).trans (hc18 _ _ he18 2 _ rfl))) h) (CA.cons (ld1 (((O.old hb18 (by simp)).trans (hc18 _ _ he18 3 _ rfl))) h) CA.nil)))))) rfl rfl fun a F => so F rfl (o_call (vs := #[.agg #[.int .i64 (e18.1), .slice e18.2.1.1 e18.2.1.2.1 e18.2.1.2.2, .int .i64 (e18.2.2.1), .slice e18.2.2.2.1 e18.2.2.2.2.1 e18.2.2.2.2.2]]) F Try.en_38 rfl rfl ((toPackEntry_ok e18.1 e18.2.1.1 e18.2.1.2.1 e18.2.1.2.2 pe18.2.1 e18.2.2.1 e18.2.2.2.1 e18.2.2.2.2.1 e18.2.2.2.2.2 pe18.2.2.2 w (hl18.keep O) (by first | omega | (simp; done) | (simp; omega) | (simp at *; omega)) (by omega) (ho18.keep O) (by first | omega | (simp; done) | (simp; omega) | (simp at *; omega)) (by omega)).mono ?_))
      rintro e w ⟨bx20, Nx20, by_20, Ny20, rfl, h20a, h20b, K⟩
      refine ⟨_, rfl, fun a F => ?_⟩
      have O : Own w0 [] ([.row 3 1 (.slice (some ⟨bx20, 0, none⟩) Nx20 Nx20) Nx20 (pe18.2.1.flatMap encInt), .row 43 3 (.slice (some ⟨by_20, 0, none⟩) Ny20 Ny20) Ny20 (pe18.2.2.2.flatMap encOp), .row 61 4 (.slice (some ⟨b7, 0, none⟩) (((n : Int) : Int).toNat) (((n : Int) : Int).toNat)) (((n : Int) : Int).toNat) (es1.flatMap encEnt)] ++ entR Z) w := O.call0 K
      clear K
      have O : Own w0 [] ([.row 3 1 (.slice (some ⟨bx20, 0, none⟩) Nx20 Nx20) Nx20 (pe18.2.1.flatMap encInt), .row 43 3 (.slice (some ⟨by_20, 0, none⟩) Ny20 Ny20) Ny20 (pe18.2.2.2.flatMap encOp), .row 61 4 (.slice (some ⟨b7, 0, none⟩) (((n : Int) : Int).toNat) (((n : Int) : Int).toNat)) (((n : Int) : Int).toNat) (es1.flatMap encEnt)] ++ entR Z) w := O
      obtain ⟨e21, he21⟩ := get_some (l := es1) (i := k) (by omega) (by first | omega | (simp; omega))
      refine sp F (p_iaddr rfl rfl Try.underlying35 Try.sz_61 (by omega) (by omega)) rfl rfl fun a F => so F rfl (o_storeRowA (vs := [.int .i64 (e18.1), .slice (some ⟨bx20, 0, none⟩) Nx20 Nx20, .int .i64 (e18.2.2.1), .slice (some ⟨by_20, 0, none⟩) Ny20 Ny20]) F O rfl rfl Try.sz_61 (by simp [Value.oneCell']) 2 rfl (by rw [flat_len encEnt_len]; simp only [List.length_cons, List.length_nil]; first | omega | (simp; omega)) fun w O => ?_)
      have hst : (es1.flatMap encEnt).take (0 + (k : Int).toNat * 4) ++ [.int .i64 (e18.1), .slice (some ⟨bx20, 0, none⟩) Nx20 Nx20, .int .i64 (e18.2.2.1), .slice (some ⟨by_20, 0, none⟩) Ny20 Ny20] ++ (es1.flatMap encEnt).drop (0 + (k : Int).toNat * 4 + [(.int .i64 (e18.1) : Value), (.slice (some ⟨bx20, 0, none⟩) Nx20 Nx20 : Value), (.int .i64 (e18.2.2.1) : Value), (.slice (some ⟨by_20, 0, none⟩) Ny20 Ny20 : Value)].length) = (es1.set (k : Int).toNat (e18.1, ((some ⟨bx20, 0, none⟩), Nx20, Nx20), e18.2.2.1, ((some ⟨by_20, 0, none⟩), Ny20, Ny20))).flatMap encEnt := flat_setA encEnt_len (by first | omega | (simp; omega)) rfl
      have O := O.setR 2 rfl (congrArg (Res.row 61 4 (.slice (some ⟨b7, 0, none⟩) (((n : Int) : Int).toNat) (((n : Int) : Int).toNat)) (((n : Int) : Int).toNat)) hst)
      have O : Own w0 [] ([.row 3 1 (.slice (some ⟨bx20, 0, none⟩) Nx20 Nx20) Nx20 (pe18.2.1.flatMap encInt), .row 43 3 (.slice (some ⟨by_20, 0, none⟩) Ny20 Ny20) Ny20 (pe18.2.2.2.flatMap encOp), .row 61 4 (.slice (some ⟨b7, 0, none⟩) (((n : Int) : Int).toNat) (((n : Int) : Int).toNat)) (((n : Int) : Int).toNat) ((es1.set (k : Int).toNat (e18.1, ((some ⟨bx20, 0, none⟩), Nx20, Nx20), e18.2.2.1, ((some ⟨by_20, 0, none⟩), Ny20, Ny20))).flatMap encEnt)] ++ entR Z) w := O
      refine c_nil (hK7 _ _ (?_))
      try clear hK7 K7
      refine c_region (sp F (p_move rfl) rfl rfl fun a F => sp F (p_add rfl rfl (by omega) (by omega)) rfl rfl fun a F => sp F (p_assign rfl) rfl rfl fun a F => c_nil (?_))
      have O := O.rot3
      have O : Own w0 [] ([.row 61 4 (.slice (some ⟨b7, 0, none⟩) (((n : Int) : Int).toNat) (((n : Int) : Int).toNat)) (((n : Int) : Int).toNat) ((es1.set (k : Int).toNat (e18.1, ((some ⟨bx20, 0, none⟩), Nx20, Nx20), e18.2.2.1, ((some ⟨by_20, 0, none⟩), Ny20, Ny20))).flatMap encEnt)] ++ entR (((e18.1, ((some ⟨bx20, 0, none⟩), Nx20, Nx20), e18.2.2.1, ((some ⟨by_20, 0, none⟩), Ny20, Ny20)), pe18) :: Z)) w := O
      try rw [← hp18] at F
      try rw [← hp18] at O
      have F : Has 23 [(0, .slice A n c), (2, .slice none 0 0), (3, .slice (some ⟨b7, 0, none⟩) (((n : Int) : Int).toNat) (((n : Int) : Int).toNat)), (4, .int .i64 (k + 1))] a := F.pick ⟨rfl, rfl, rfl, rfl, trivial⟩
      exact ⟨((n : Int) - (k + 1)).toNat, by omega, (k + 1), (es1.set (k : Int).toNat (e18.1, ((some ⟨bx20, 0, none⟩), Nx20, Nx20), e18.2.2.1, ((some ⟨by_20, 0, none⟩), Ny20, Ny20))), (((e18.1, ((some ⟨bx20, 0, none⟩), Nx20, Nx20), e18.2.2.1, ((some ⟨by_20, 0, none⟩), Ny20, Ny20)), pe18) :: Z), rfl, F, O, by first | assumption | omega, by first | assumption | omega, by simp; omega, by exact fill_step hi0d hi0a (by omega) hq18 ⟨⟨by first | exact hr18a | simp [hr18a], by first | exact hr18b | simp [hr18b]⟩, by simp only []; omega, by simp only []; omega⟩⟩
    · have F := F.setB (d := 11) rfl (decide_eq_false c11)
      refine c_iff F rfl (wp_exit (e_then (e_then (e_here (hK3 _ _ (?_))))))
      try clear hK3 K3
      refine c_seq fun K7 hK7 => c_region (sp F (p_move rfl) rfl rfl fun a F => sp F (p_assign rfl) rfl rfl fun a F => c_nil (hK7 _ _ (?_)))
      try clear hK7 K7
      refine wp_ret (ret1 F rfl rfl (?_))
      exact ⟨b7, (((n : Int) : Int).toNat), es1, Z, rfl, by omega, by omega, by exact fill_end hi0d (by omega) (by omega), O⟩

set_option maxRecDepth 100000 in
/-- impl.linkPack -/
theorem linkPack_ok (A : Option Addr) (n : Nat) (c : Nat) (es : List (Ent)) (w0 : World) (hA : Arr w0 encEnt 4 A es) (hn : (n : Int) = es.length) (hb : (n : Int) ≤ 1048600) :
    Calls Try.prog 39 #[.slice A n c] w0 fun e w => ∃ (P : Option Addr), ∃ (N : Nat), ∃ (C : Nat), ∃ (qs : List Nat), ∃ (M : List Nd), ∃ (bv : Bool), e = .returned (.tuple #[.slice P N C, .bool (bv)]) ∧ ((N : Int) = qs.length) ∧ ((N : Int) ≤ 1048600) ∧ (LinkRes es qs M bv) ∧ Own w0 [] ([.row 66 1 (.slice P N C) N (qs.flatMap encPtr)] ++ pkR M) w := by
  have O := Own.start w0
  have hbl := bases_len (es := es)
  refine enterO (n := 41) Try.func39 rfl rfl rfl O fun a w F O => ?_
  refine c_seq fun K1 hK1 => c_region (sp F (p_assign rfl) rfl rfl fun a F => sp F (p_assign rfl) rfl rfl fun a F => c_nil (hK1 _ _ (?_)))
  try clear hK1 K1
  refine c_seq fun K2 hK2 => c_region (sp F (p_assign rfl) rfl rfl fun a F => c_nil (hK2 _ _ (?_)))
  try clear hK2 K2
  refine c_seq fun K3 hK3 => c_seq fun K4 hK4 => c_region (sp F (p_move rfl) rfl rfl fun a F => sp F (p_len_l rfl Try.underlying35) rfl rfl fun a F => sp F (p_move rfl) rfl rfl fun a F => c_nil (hK4 _ _ (?_)))
  try clear hK4 K4
  refine wp_block (?_)
  refine c_loop (fun mm a w => ∃ (k : Int), ∃ (P : Option Addr), ∃ (N : Nat), ∃ (C : Nat), ∃ (qs : List Nat), ∃ (M : List Nd), mm = ((n : Int) - k).toNat ∧ Has 41 [(0, .slice A n c), (8, .slice A n c), (9, .int .i64 ((n : Int))), (10, .int .i64 (k)), (4, .slice P N C)] a ∧ Own w0 [] ([.row 66 1 (.slice P N C) N (qs.flatMap encPtr)] ++ pkR M) w ∧ (0 ≤ k) ∧ (k ≤ n) ∧ (LinkTo es qs M k) ∧ ((N : Int) = qs.length) ∧ ((N : Int) = k)) ?_ ?_
  · have O : Own w0 [] ([] ++ pkR ([])) w := O
    have F : Has 41 [(0, .slice A n c), (8, .slice A n c), (9, .int .i64 ((n : Int))), (10, .int .i64 (0)), (4, .slice none 0 0)] a := F.pick ⟨rfl, rfl, rfl, rfl, rfl, trivial⟩
    have O := O.addNil 66 1
    have O : Own w0 [] ([.row 66 1 (.slice none 0 0) 0 ([])] ++ pkR ([])) w := O
    have O := O.setR 0 rfl (show Res.row 66 1 (.slice none 0 0) 0 ([]) = .row 66 1 (.slice none 0 0) 0 (([]).flatMap encPtr) from by rfl)
    have O : Own w0 [] ([.row 66 1 (.slice none 0 0) 0 (([]).flatMap encPtr)] ++ pkR ([])) w := O
    exact ⟨((n : Int) - 0).toNat, 0, none, 0, 0, ([]), ([]), rfl, F, O, by first | assumption | omega, by first | assumption | omega, by exact link_zero, by rfl, by rfl⟩
  · rintro mm a w ⟨k, P, N, C, qs, M, rfl, F, O, hi0a, hi0b, hi0c, hi0d, hi0e⟩
    refine c_seq fun K5 hK5 => c_region (sp F (p_lss rfl rfl) rfl rfl fun a F => c_nil (hK5 _ _ (?_)))
    try clear hK5 K5
    refine c_seq fun K6 hK6 => ?_
    by_cases c11 : k < (n : Int)
    · have F := F.setB (d := 11) rfl (decide_eq_true c11)
      refine c_ift F rfl (wp_skip (hK6 _ _ (?_)))
      try clear hK6 K6
      refine c_seq fun K7 hK7 => wp_block (c_seq fun K8 hK8 => c_region (sp F (p_move rfl) rfl rfl fun a F => ?_))
      obtain ⟨b13, o13, hp13, hb13, hc13⟩ := Arr.out hA (by omega)
      have hA13 := hA; rw [hp13] at hA13 F
      obtain ⟨e13, he13⟩ := get_some (l := es) (i := k) (by omega) (by first | omega | (simp; omega))
      have hw13 := bases_get hi0a he13
      refine sp F (p_iaddr rfl rfl Try.underlying35 Try.sz_61 (by omega) (by omega)) rfl rfl fun a F => sp F (p_loadC (cs := [.int .i64 (e13.1), .slice e13.2.1.1 e13.2.1.2.1 e13.2.1.2.2, .int .i64 (e13.2.2.1), .slice e13.2.2.2.1 e13.2.2.2.2.1 e13.2.2.2.2.2]) rfl Try.agg_61 Try.sz_61 (fun _ h => (CA.cons (ld1 (((O.old hb13 (by simp)).trans (hc13 _ _ he13 0 _ rfl))) h) (CA.cons (ld1 (((O.old hb13 (by simp)).trans (hc13 _ _ he13 1 _ rfl))) h) (CA.cons (ld1 (((O.old hb13 (by simp)).trans (hc13 _ _ he13 2 _ rfl))) h) (CA.cons (ld1 (((O.old hb13 (by simp)).trans (hc13 _ _ he13 3 _ rfl))) h) CA.nil)))))) rfl rfl fun a F => so F rfl (o_alloc F O Try.zero_61 rfl fun b6 w O a F => ?_)
      have O : Own w0 [] ([.cells b6 [.int .i64 (0), .slice none 0 0, .int .i64 (0), .slice none 0 0] 61, .row 66 1 (.slice P N C) N (qs.flatMap encPtr)] ++ pkR M) w := O
      refine sp F (p_assign rfl) rfl rfl fun a F => so F rfl (o_storeA (vs := [.int .i64 (e13.1), .slice e13.2.1.1 e13.2.1.2.1 e13.2.1.2.2, .int .i64 (e13.2.2.1), .slice e13.2.2.2.1 e13.2.2.2.2.1 e13.2.2.2.2.2]) F O rfl rfl Try.sz_61 (by simp [Value.oneCell']) 0 rfl rfl fun w O => ?_)
      have O : Own w0 [] ([.cells b6 [.int .i64 (e13.1), .slice e13.2.1.1 e13.2.1.2.1 e13.2.1.2.2, .int .i64 (e13.2.2.1), .slice e13.2.2.2.1 e13.2.2.2.2.1 e13.2.2.2.2.2] 61, .row 66 1 (.slice P N C) N (qs.flatMap encPtr)] ++ pkR M) w := O
      refine c_nil (hK8 _ _ (?_))
      try clear hK8 K8
      refine c_seq fun K9 hK9 => c_seq fun K10 hK10 => c_region (sp F (p_faddr rfl Try.foff_61_2) rfl rfl fun a F => sp F (p_load rfl Try.agg_3 (fun _ h => (ld1 (O.load 0 rfl rfl) h))) rfl rfl fun a F => sp F (p_move rfl) rfl rfl fun a F => sp F (p_sub rfl rfl (by omega) (by omega)) rfl rfl fun a F => so F rfl (o_call (vs := #[.int .i64 (e13.2.2.1), .int .i64 (-1), .int .i64 (k - 1)]) F Try.en_40 rfl rfl ((inRange_ok e13.2.2.1 (-1) (k - 1) w).mono ?_)))
      rintro e w ⟨rfl, K⟩
      refine ⟨_, rfl, fun a F => ?_⟩
      have O : Own w0 [] ([.cells b6 [.int .i64 (e13.1), .slice e13.2.1.1 e13.2.1.2.1 e13.2.1.2.2, .int .i64 (e13.2.2.1), .slice e13.2.2.2.1 e13.2.2.2.2.1 e13.2.2.2.2.2] 61, .row 66 1 (.slice P N C) N (qs.flatMap encPtr)] ++ pkR M) w := O.call0 K
      clear K
      have O : Own w0 [] ([.cells b6 [.int .i64 (e13.1), .slice e13.2.1.1 e13.2.1.2.1 e13.2.1.2.2, .int .i64 (e13.2.2.1), .slice e13.2.2.2.1 e13.2.2.2.2.1 e13.2.2.2.2.2] 61, .row 66 1 (.slice P N C) N (qs.flatMap encPtr)] ++ pkR M) w := O
      by_cases c19 : (-1) ≤ e13.2.2.1 ∧ e13.2.2.1 ≤ (k - 1)
      · have F := F.setB (d := 19) rfl (decide_eq_true c19)
        refine sp F (p_not rfl) rfl rfl fun a F => c_nil (hK10 _ _ (?_))
        try clear hK10 K10
        refine c_iff F rfl (wp_skip (hK9 _ _ (?_)))
        try clear hK9 K9
        refine c_seq fun K11 hK11 => c_region (sp F (p_loadC (cs := [.int .i64 (e13.1), .slice e13.2.1.1 e13.2.1.2.1 e13.2.1.2.2, .int .i64 (e13.2.2.1), .slice e13.2.2.2.1 e13.2.2.2.2.1 e13.2.2.2.2.2]) rfl Try.agg_61 Try.sz_61 (fun _ h => (CA.cons (ld1 (O.load 0 rfl rfl) h) (CA.cons (ld1 (O.load 0 rfl rfl) h) (CA.cons (ld1 (O.load 0 rfl rfl) h) (CA.cons (ld1 (O.load 0 rfl rfl) h) CA.nil)))))) rfl rfl fun a F => sp F (p_build (cs := [.int .i64 (e13.1), .slice e13.2.1.1 e13.2.1.2.1 e13.2.1.2.2, .int .i64 (e13.2.2.1), .slice e13.2.2.2.1 e13.2.2.2.2.1 e13.2.2.2.2.2, .pointer none, .string (bs ([]))]) rfl Try.places_82 rfl) rfl rfl fun a F => so F rfl (o_box F O rfl rfl fun b23 w O a F => ?_))
        have O : Own w0 [] ([.cells b23 [.int .i64 (e13.1), .slice e13.2.1.1 e13.2.1.2.1 e13.2.1.2.2, .int .i64 (e13.2.2.1), .slice e13.2.2.2.1 e13.2.2.2.2.1 e13.2.2.2.2.2, .pointer none, .string (bs ([]))] 82, .cells b6 [.int .i64 (e13.1), .slice e13.2.1.1 e13.2.1.2.1 e13.2.1.2.2, .int .i64 (e13.2.2.1), .slice e13.2.2.2.1 e13.2.2.2.2.1 e13.2.2.2.2.2] 61, .row 66 1 (.slice P N C) N (qs.flatMap encPtr)] ++ pkR M) w := O
        refine sp F (p_assign rfl) rfl rfl fun a F => c_nil (hK11 _ _ (?_))
        try clear hK11 K11
        refine c_seq fun K12 hK12 => c_seq fun K13 hK13 => c_region (sp F (p_faddr rfl Try.foff_61_2) rfl rfl fun a F => sp F (p_load rfl Try.agg_3 (fun _ h => (ld1 (O.load 1 rfl rfl) h))) rfl rfl fun a F => sp F (p_geq rfl rfl) rfl rfl fun a F => c_nil (hK13 _ _ (?_)))
        try clear hK13 K13
        by_cases c26 : 0 ≤ e13.2.2.1
        · have F := F.setB (d := 26) rfl (decide_eq_true c26)
          refine c_ift F rfl (c_region (sp F (p_move rfl) rfl rfl fun a F => sp F (p_move rfl) rfl rfl fun a F => sp F (p_faddr rfl Try.foff_61_2) rfl rfl fun a F => sp F (p_load rfl Try.agg_3 (fun _ h => (ld1 (O.load 1 rfl rfl) h))) rfl rfl fun a F => ?_))
          obtain ⟨b31, hp31⟩ := O.rowSome 2 rfl (by omega)
          rw [hp31] at O
          try rw [hp31] at F
          obtain ⟨e31, he31⟩ := get_some (l := qs) (i := e13.2.2.1) (by omega) (by first | omega | (simp; omega))
          refine sp F (p_iaddr rfl rfl Try.underlying63 Try.sz_66 (by omega) (by omega)) rfl rfl fun a F => sp F (p_load rfl Try.agg_66 (fun _ h => (ld1 ((O.loadRow 2 rfl (flat_get0 encPtr_len he31 rfl))) h))) rfl rfl fun a F => sp F (p_nil rfl) rfl rfl fun a F => sp F (p_faddr rfl Try.foff_82_1) rfl rfl fun a F => so F rfl (o_store F O rfl rfl Try.sz_66 rfl rfl 0 rfl rfl fun w O => ?_)
          have O : Own w0 [] ([.cells b23 [.int .i64 (e13.1), .slice e13.2.1.1 e13.2.1.2.1 e13.2.1.2.2, .int .i64 (e13.2.2.1), .slice e13.2.2.2.1 e13.2.2.2.2.1 e13.2.2.2.2.2, .pointer (some ⟨e31, 0, none⟩), .string (bs ([]))] 82, .cells b6 [.int .i64 (e13.1), .slice e13.2.1.1 e13.2.1.2.1 e13.2.1.2.2, .int .i64 (e13.2.2.1), .slice e13.2.2.2.1 e13.2.2.2.2.1 e13.2.2.2.2.2] 61, .row 66 1 (.slice (some ⟨b31, 0, none⟩) N C) N (qs.flatMap encPtr)] ++ pkR M) w := O
          refine c_nil (hK12 _ _ (?_))
          try clear hK12 K12
          refine c_region (sp F (p_move rfl) rfl rfl fun a F => sp F (p_move rfl) rfl rfl fun a F => so F rfl (o_bslice (cs := [.pointer (some ⟨b23, 0, none⟩)]) F O rfl Try.underlying63 Try.sz_66 Try.zero_66 rfl rfl rfl fun b37 w O a F => ?_))
          have O : Own w0 [] ([.cells b37 [.pointer (some ⟨b23, 0, none⟩)] 66, .cells b23 [.int .i64 (e13.1), .slice e13.2.1.1 e13.2.1.2.1 e13.2.1.2.2, .int .i64 (e13.2.2.1), .slice e13.2.2.2.1 e13.2.2.2.2.1 e13.2.2.2.2.2, .pointer (some ⟨e31, 0, none⟩), .string (bs ([]))] 82, .cells b6 [.int .i64 (e13.1), .slice e13.2.1.1 e13.2.1.2.1 e13.2.1.2.2, .int .i64 (e13.2.2.1), .slice e13.2.2.2.1 e13.2.2.2.2.1 e13.2.2.2.2.2] 61, .row 66 1 (.slice (some ⟨b31, 0, none⟩) N C) N (qs.flatMap encPtr)] ++ pkR M) w := O
          refine so F rfl (o_append F O rfl rfl Try.underlying63 Try.elem_66 (by decide) 3 0 rfl rfl rfl rfl (by unfold maxLen; omega) (by omega) rfl fun p38 k38 w O a F => ?_)
          have O : Own w0 [] ([.cells b37 [.pointer (some ⟨b23, 0, none⟩)] 66, .cells b23 [.int .i64 (e13.1), .slice e13.2.1.1 e13.2.1.2.1 e13.2.1.2.2, .int .i64 (e13.2.2.1), .slice e13.2.2.2.1 e13.2.2.2.2.1 e13.2.2.2.2.2, .pointer (some ⟨e31, 0, none⟩), .string (bs ([]))] 82, .cells b6 [.int .i64 (e13.1), .slice e13.2.1.1 e13.2.1.2.1 e13.2.1.2.2, .int .i64 (e13.2.2.1), .slice e13.2.2.2.1 e13.2.2.2.2.1 e13.2.2.2.2.2] 61, .row 66 1 (.slice p38 (N + 1) k38) (N + 1) ((qs.flatMap encPtr) ++ [.pointer (some ⟨b23, 0, none⟩)])] ++ pkR M) w := O
          have O := O.setR 3 rfl (show Res.row 66 1 (.slice p38 (N + 1) k38) (N + 1) ((qs.flatMap encPtr) ++ [.pointer (some ⟨b23, 0, none⟩)]) = .row 66 1 (.slice p38 (N + 1) k38) (N + 1) ((qs ++ [b23]).flatMap encPtr) from by simp [encPtr])
          have O : Own w0 [] ([.cells b37 [.pointer (some ⟨b23, 0, none⟩)] 66, .cells b23 [.int .i64 (e13.1), .slice e13.2.1.1 e13.2.1.2.1 e13.2.1.2.2, .int .i64 (e13.2.2.1), .slice e13.2.2.2.1 e13.2.2.2.2.1 e13.2.2.2.2.2, .pointer (some ⟨e31, 0, none⟩), .string (bs ([]))] 82, .cells b6 [.int .i64 (e13.1), .slice e13.2.1.1 e13.2.1.2.1 e13.2.1.2.2, .int .i64 (e13.2.2.1), .slice e13.2.2.2.1 e13.2.2.2.2.1 e13.2.2.2.2.2] 61, .row 66 1 (.slice p38 (N + 1) k38) (N + 1) ((qs ++ [b23]).flatMap encPtr)] ++ pkR M) w := O
          refine sp F (p_assign rfl) rfl rfl fun a F => c_nil (hK7 _ _ (?_))
          try clear hK7 K7
          refine c_region (sp F (p_add rfl rfl (by omega) (by omega)) rfl rfl fun a F => sp F (p_move rfl) rfl rfl fun a F => c_nil (?_))
          have O := O.pull 1 rfl
          have O := O.pull 3 rfl
          have O : Own w0 [] ([.row 66 1 (.slice p38 (N + 1) k38) (N + 1) ((qs ++ [b23]).flatMap encPtr), .cells b23 [.int .i64 (e13.1), .slice e13.2.1.1 e13.2.1.2.1 e13.2.1.2.2, .int .i64 (e13.2.2.1), .slice e13.2.2.2.1 e13.2.2.2.2.1 e13.2.2.2.2.2, .pointer (some ⟨e31, 0, none⟩), .string (bs ([]))] 82, .cells b37 [.pointer (some ⟨b23, 0, none⟩)] 66, .cells b6 [.int .i64 (e13.1), .slice e13.2.1.1 e13.2.1.2.1 e13.2.1.2.2, .int .i64 (e13.2.2.1), .slice e13.2.2.2.1 e13.2.2.2.2.1 e13.2.2.2.2.2] 61] ++ pkR M) w := O
          have O := O.erase 2
          have O := O.erase 2
          have O : Own w0 [] ([.row 66 1 (.slice p38 (N + 1) k38) (N + 1) ((qs ++ [b23]).flatMap encPtr)] ++ pkR ((b23, (e13.1, (e13.2.1.1, e13.2.1.2.1, e13.2.1.2.2), e13.2.2.1, (e13.2.2.2.1, e13.2.2.2.2.1, e13.2.2.2.2.2)), (some e31)) :: M)) w := O
          try rw [← hp31] at F
          try rw [← hp31] at O
          try rw [← hp13] at F
          try rw [← hp13] at O
          have F : Has 41 [(0, .slice A n c), (8, .slice A n c), (9, .int .i64 ((n : Int))), (10, .int .i64 (k + 1)), (4, .slice p38 (N + 1) k38)] a := F.pick ⟨rfl, rfl, rfl, rfl, rfl, trivial⟩
          exact ⟨((n : Int) - (k + 1)).toNat, by omega, (k + 1), p38, (N + 1), k38, (qs ++ [b23]), ((b23, (e13.1, (e13.2.1.1, e13.2.1.2.1, e13.2.1.2.2), e13.2.2.1, (e13.2.2.2.1, e13.2.2.2.2.1, e13.2.2.2.2.2)), (some e31)) :: M), rfl, F, O, by first | assumption | omega, by first | assumption | omega, by first | exact link_step (m := (b23, e13, none)) hi0c hi0a hw13 c19 (.inl ⟨by omega, rfl⟩) | exact link_step (m := (b23, e13, some e31)) hi0c hi0a hw13 c19 (.inr ⟨c26, _, he31, rfl⟩), by simp; omega, by omega⟩
        · have F := F.setB (d := 26) rfl (decide_eq_false c26)
          refine c_iff F rfl (wp_skip (hK12 _ _ (?_)))
          try clear hK12 K12
          refine c_region (sp F (p_move rfl) rfl rfl fun a F => sp F (p_move rfl) rfl rfl fun a F => so F rfl (o_bslice (cs := [.pointer (some ⟨b23, 0, none⟩)]) F O rfl Try.underlying63 Try.sz_66 Try.zero_66 rfl rfl rfl fun b37 w O a F => ?_))
          have O : Own w0 [] ([.cells b37 [.pointer (some ⟨b23, 0, none⟩)] 66, .cells b23 [.int .i64 (e13.1), .slice e13.2.1.1 e13.2.1.2.1 e13.2.1.2.2, .int .i64 (e13.2.2.1), .slice e13.2.2.2.1 e13.2.2.2.2.1 e13.2.2.2.2.2, .pointer none, .string (bs ([]))] 82, .cells b6 [.int .i64 (e13.1), .slice e13.2.1.1 e13.2.1.2.1 e13.2.1.2.2, .int .i64 (e13.2.2.1), .slice e13.2.2.2.1 e13.2.2.2.2.1 e13.2.2.2.2.2] 61, .row 66 1 (.slice P N C) N (qs.flatMap encPtr)] ++ pkR M) w := O
          refine so F rfl (o_append F O rfl rfl Try.underlying63 Try.elem_66 (by decide) 3 0 rfl rfl rfl rfl (by unfold maxLen; omega) (by omega) rfl fun p38 k38 w O a F => ?_)
          have O : Own w0 [] ([.cells b37 [.pointer (some ⟨b23, 0, none⟩)] 66, .cells b23 [.int .i64 (e13.1), .slice e13.2.1.1 e13.2.1.2.1 e13.2.1.2.2, .int .i64 (e13.2.2.1), .slice e13.2.2.2.1 e13.2.2.2.2.1 e13.2.2.2.2.2, .pointer none, .string (bs ([]))] 82, .cells b6 [.int .i64 (e13.1), .slice e13.2.1.1 e13.2.1.2.1 e13.2.1.2.2, .int .i64 (e13.2.2.1), .slice e13.2.2.2.1 e13.2.2.2.2.1 e13.2.2.2.2.2] 61, .row 66 1 (.slice p38 (N + 1) k38) (N + 1) ((qs.flatMap encPtr) ++ [.pointer (some ⟨b23, 0, none⟩)])] ++ pkR M) w := O
          have O := O.setR 3 rfl (show Res.row 66 1 (.slice p38 (N + 1) k38) (N + 1) ((qs.flatMap encPtr) ++ [.pointer (some ⟨b23, 0, none⟩)]) = .row 66 1 (.slice p38 (N + 1) k38) (N + 1) ((qs ++ [b23]).flatMap encPtr) from by simp [encPtr])
          have O : Own w0 [] ([.cells b37 [.pointer (some ⟨b23, 0, none⟩)] 66, .cells b23 [.int .i64 (e13.1), .slice e13.2.1.1 e13.2.1.2.1 e13.2.1.2.2, .int .i64 (e13.2.2.1), .slice e13.2.2.2.1 e13.2.2.2.2.1 e13.2.2.2.2.2, .pointer none, .string (bs ([]))] 82, .cells b6 [.int .i64 (e13.1), .slice e13.2.1.1 e13.2.1.2.1 e13.2.1.2.2, .int .i64 (e13.2.2.1), .slice e13.2.2.2.1 e13.2.2.2.2.1 e13.2.2.2.2.2] 61, .row 66 1 (.slice p38 (N + 1) k38) (N + 1) ((qs ++ [b23]).flatMap encPtr)] ++ pkR M) w := O
          refine sp F (p_assign rfl) rfl rfl fun a F => c_nil (hK7 _ _ (?_))
          try clear hK7 K7
          refine c_region (sp F (p_add rfl rfl (by omega) (by omega)) rfl rfl fun a F => sp F (p_move rfl) rfl rfl fun a F => c_nil (?_))
          have O := O.pull 1 rfl
          have O := O.pull 3 rfl
          have O : Own w0 [] ([.row 66 1 (.slice p38 (N + 1) k38) (N + 1) ((qs ++ [b23]).flatMap encPtr), .cells b23 [.int .i64 (e13.1), .slice e13.2.1.1 e13.2.1.2.1 e13.2.1.2.2, .int .i64 (e13.2.2.1), .slice e13.2.2.2.1 e13.2.2.2.2.1 e13.2.2.2.2.2, .pointer none, .string (bs ([]))] 82, .cells b37 [.pointer (some ⟨b23, 0, none⟩)] 66, .cells b6 [.int .i64 (e13.1), .slice e13.2.1.1 e13.2.1.2.1 e13.2.1.2.2, .int .i64 (e13.2.2.1), .slice e13.2.2.2.1 e13.2.2.2.2.1 e13.2.2.2.2.2] 61] ++ pkR M) w := O
          have O := O.erase 2
          have O := O.erase 2
          have O : Own w0 [] ([.row 66 1 (.slice p38 (N + 1) k38) (N + 1) ((qs ++ [b23]).flatMap encPtr)] ++ pkR ((b23, (e13.1, (e13.2.1.1, e13.2.1.2.1, e13.2.1.2.2), e13.2.2.1, (e13.2.2.2.1, e13.2.2.2.2.1, e13.2.2.2.2.2)), none) :: M)) w := O
          try rw [← hp13] at F
          try rw [← hp13] at O
          have F : Has 41 [(0, .slice A n c), (8, .slice A n c), (9, .int .i64 ((n : Int))), (10, .int .i64 (k + 1)), (4, .slice p38 (N + 1) k38)] a := F.pick ⟨rfl, rfl, rfl, rfl, rfl, trivial⟩
          exact ⟨((n : Int) - (k + 1)).toNat, by omega, (k + 1), p38, (N + 1), k38, (qs ++ [b23]), ((b23, (e13.1, (e13.2.1.1, e13.2.1.2.1, e13.2.1.2.2), e13.2.2.1, (e13.2.2.2.1, e13.2.2.2.2.1, e13.2.2.2.2.2)), none) :: M), rfl, F, O, by first | assumption | omega, by first | assumption | omega, by first | exact link_step (m := (b23, e13, none)) hi0c hi0a hw13 c19 (.inl ⟨by omega, rfl⟩) | exact link_step (m := (b23, e13, some e31)) hi0c hi0a hw13 c19 (.inr ⟨c26, _, he31, rfl⟩), by simp; omega, by omega⟩
      · have F := F.setB (d := 19) rfl (decide_eq_false c19)
        refine sp F (p_not rfl) rfl rfl fun a F => c_nil (hK10 _ _ (?_))
        try clear hK10 K10
        refine c_ift F rfl (c_seq fun K11 hK11 => c_region (sp F (p_assign rfl) rfl rfl fun a F => sp F (p_assign rfl) rfl rfl fun a F => c_nil (hK11 _ _ (?_))))
        try clear hK11 K11
        refine wp_ret (r_then (r_block (r_then (r_then (r_block (r_then (?_)))))))
        have O : Own w0 [] [] w := O.take 0
        have O := O.addNil 66 1
        have O : Own w0 [] ([.row 66 1 (.slice none 0 0) 0 ([])] ++ pkR ([])) w := O
        refine ret2 F rfl rfl rfl (?_)
        have O := O.setR 0 rfl (show Res.row 66 1 (.slice none 0 0) 0 ([]) = .row 66 1 (.slice none 0 0) 0 (([]).flatMap encPtr) from by rfl)
        have O : Own w0 [] ([.row 66 1 (.slice none 0 0) 0 (([]).flatMap encPtr)] ++ pkR ([])) w := O
        exact ⟨none, 0, 0, ([]), ([]), false, congrArg Ending.returned (show Value.tuple #[.slice none 0 0, .bool false] = .tuple #[.slice none 0 0, .bool (false)] from by rfl), by first | omega | rfl, by omega, by first | exact link_res hi0c (by omega) | exact .inr ⟨rfl, pv_not hi0a hw13 c19⟩, O⟩
    · have F := F.setB (d := 11) rfl (decide_eq_false c11)
      refine c_iff F rfl (wp_exit (e_then (e_then (e_here (hK3 _ _ (?_))))))
      try clear hK3 K3
      refine c_seq fun K7 hK7 => c_region (sp F (p_move rfl) rfl rfl fun a F => sp F (p_assign rfl) rfl rfl fun a F => sp F (p_assign rfl) rfl rfl fun a F => c_nil (hK7 _ _ (?_)))
      try clear hK7 K7
      refine wp_ret (ret2 F rfl rfl rfl (?_))
      exact ⟨P, N, C, qs, M, true, congrArg Ending.returned (show Value.tuple #[.slice P N C, .bool true] = .tuple #[.slice P N C, .bool (true)] from by rfl), by first | omega | rfl, by omega, by first | exact link_res hi0c (by omega) | exact .inr ⟨rfl, pv_not hi0a hw13 c19⟩, O⟩

set_option maxRecDepth 100000 in
/-- impl.PackDepth -/
theorem iPackDepth_ok (A : Option Addr) (n : Nat) (c : Nat) (es : List (Ent)) (i : Int) (w0 : World) (hA : Arr w0 encEnt 4 A es) (hn : (n : Int) = es.length) (hb : (n : Int) ≤ 1048600) :
    Calls Try.prog 21 #[.slice A n c, .int .i64 (i)] w0 fun e w => ∃ (r : Int), e = .returned (.int .i64 (r)) ∧ (PD (bases es) i r) ∧ Own w0 [] [] w := by
  have O := Own.start w0
  have hbl := bases_len (es := es)
  refine enterO (n := 27) Try.func21 rfl rfl rfl O fun a w F O => ?_
  refine c_seq fun K1 hK1 => c_region (sp F (p_assign rfl) rfl rfl fun a F => c_nil (hK1 _ _ (?_)))
  try clear hK1 K1
  refine c_seq fun K2 hK2 => c_region (sp F (p_move rfl) rfl rfl fun a F => so F rfl (o_call (vs := #[.slice A n c]) F Try.en_39 rfl rfl ((linkPack_ok A n c es w (hA.keep O) (by first | omega | (simp; done) | (simp; omega) | (simp at *; omega)) (by omega)).mono ?_)))
  rintro e w ⟨P9, N9, C9, qs9, M9, bv9, rfl, h9a, h9b, h9c, K⟩
  refine ⟨_, rfl, fun a F => ?_⟩
  have O : Own w0 [] ([.row 66 1 (.slice P9 N9 C9) N9 (qs9.flatMap encPtr)] ++ pkR M9) w := (O.call0 K).tl1
  clear K
  have O : Own w0 [] ([.row 66 1 (.slice P9 N9 C9) N9 (qs9.flatMap encPtr)] ++ pkR M9) w := O
  refine sp F (p_move rfl) rfl rfl fun a F => sp F (p_extract rfl rfl) rfl rfl fun a F => sp F (p_extract rfl rfl) rfl rfl fun a F => sp F (p_assign rfl) rfl rfl fun a F => sp F (p_assign rfl) rfl rfl fun a F => c_nil (hK2 _ _ (?_))
  try clear hK2 K2
  refine c_seq fun K3 hK3 => c_seq fun K4 hK4 => c_region (sp F (p_move rfl) rfl rfl fun a F => ?_)
  by_cases c12 : bv9 = true
  · have F := F.setB (d := 11) rfl c12
    have F := F.setB (d := 6) rfl c12
    have F := F.setB (d := 12) rfl c12
    refine sp F (p_not rfl) rfl rfl fun a F => sp F (p_move rfl) rfl rfl fun a F => sp F (p_move rfl) rfl rfl fun a F => sp F (p_move rfl) rfl rfl fun a F => sp F (p_len_l rfl Try.underlying63) rfl rfl fun a F => sp F (p_sub rfl rfl (by omega) (by omega)) rfl rfl fun a F => so F rfl (o_call (vs := #[.int .i64 (i), .int .i64 (0), .int .i64 ((N9 : Int) - 1)]) F Try.en_40 rfl rfl ((inRange_ok i 0 ((N9 : Int) - 1) w).mono ?_))
    rintro e w ⟨rfl, K⟩
    refine ⟨_, rfl, fun a F => ?_⟩
    have O : Own w0 [] ([.row 66 1 (.slice P9 N9 C9) N9 (qs9.flatMap encPtr)] ++ pkR M9) w := O.call0 K
    clear K
    have O : Own w0 [] ([.row 66 1 (.slice P9 N9 C9) N9 (qs9.flatMap encPtr)] ++ pkR M9) w := O
    by_cases c19 : 0 ≤ i ∧ i ≤ ((N9 : Int) - 1)
    · have F := F.setB (d := 19) rfl (decide_eq_true c19)
      refine sp F (p_not rfl) rfl rfl fun a F => sp F (p_pick (t := false) rfl rfl) rfl rfl fun a F => c_nil (hK4 _ _ (?_))
      try clear hK4 K4
      refine c_iff F rfl (wp_skip (hK3 _ _ (?_)))
      try clear hK3 K3
      refine c_seq fun K5 hK5 => ?_
      have hLk : PV (bases es) ∧ LinkTo es qs9 M9 es.length := by rcases h9c with ⟨_, h1, h2⟩ | ⟨h1, _⟩; exact ⟨h1, h2⟩; simp_all
      have hql := hLk.2.1.2
      obtain ⟨nd, hdn, hdl⟩ := dp_get (i := i) hLk.1 (by omega) (by omega)
      refine c_region (sp F (p_move rfl) rfl rfl fun a F => sp F (p_move rfl) rfl rfl fun a F => ?_)
      obtain ⟨b24, hp24⟩ := O.rowSome 0 rfl (by omega)
      rw [hp24] at O
      try rw [hp24] at F
      obtain ⟨e24, he24⟩ := get_some (l := qs9) (i := i) (by omega) (by first | omega | (simp; omega))
      have hdp := dp_of O hLk.2 (fun r h => List.mem_append_right _ h) hdn he24
      refine sp F (p_iaddr rfl rfl Try.underlying63 Try.sz_66 (by omega) (by omega)) rfl rfl fun a F => sp F (p_load rfl Try.agg_66 (fun _ h => (ld1 ((O.loadRow 0 rfl (flat_get0 encPtr_len he24 rfl))) h))) rfl rfl fun a F => so F rfl (o_call (vs := #[.pointer (some ⟨e24, 0, none⟩)]) F Try.en_41 rfl rfl ((depth_ok e24 nd w (by assumption) (by omega)).mono ?_))
      rintro e w ⟨rfl, K⟩
      refine ⟨_, rfl, fun a F => ?_⟩
      have O : Own w0 [] ([.row 66 1 (.slice (some ⟨b24, 0, none⟩) N9 C9) N9 (qs9.flatMap encPtr)] ++ pkR M9) w := O.call0 K
      clear K
      have O : Own w0 [] ([.row 66 1 (.slice (some ⟨b24, 0, none⟩) N9 C9) N9 (qs9.flatMap encPtr)] ++ pkR M9) w := O
      refine sp F (p_assign rfl) rfl rfl fun a F => c_nil (hK5 _ _ (?_))
      try clear hK5 K5
      refine wp_ret (ret1 F rfl rfl (?_))
      have O : Own w0 [] [] w := (O.take 0)
      exact ⟨(nd : Int), rfl, by first | exact pd_ok hLk.1 (by omega) (by omega) hdn | (rcases h9c with ⟨h1, h2, h3⟩ | ⟨_, h2⟩ <;> first | exact pd_bad h2 | (have h4 := h3.1.2; exact pd_out (fun h => c19 (by omega))) | simp_all), O⟩
    · have F := F.setB (d := 19) rfl (decide_eq_false c19)
      refine sp F (p_not rfl) rfl rfl fun a F => sp F (p_pick (t := false) rfl rfl) rfl rfl fun a F => c_nil (hK4 _ _ (?_))
      try clear hK4 K4
      refine c_ift F rfl (c_seq fun K5 hK5 => c_region (sp F (p_assign rfl) rfl rfl fun a F => c_nil (hK5 _ _ (?_))))
      try clear hK5 K5
      refine wp_ret (r_then (ret1 F rfl rfl (?_)))
      have O : Own w0 [] [] w := (O.take 0)
      exact ⟨(-1), congrArg Ending.returned (show Value.int .i64 (-1) = .int .i64 ((-1)) from by first | exact vint (by omega) | exact vint (by simp; done)), by first | exact pd_ok hLk.1 (by omega) (by omega) hdn | (rcases h9c with ⟨h1, h2, h3⟩ | ⟨_, h2⟩ <;> first | exact pd_bad h2 | (have h4 := h3.1.2; exact pd_out (fun h => c19 (by omega))) | simp_all), O⟩
  · have F := F.setB (d := 11) rfl (Bool.eq_false_iff.2 c12)
    have F := F.setB (d := 6) rfl (Bool.eq_false_iff.2 c12)
    have F := F.setB (d := 12) rfl (Bool.eq_false_iff.2 c12)
    refine sp F (p_not rfl) rfl rfl fun a F => sp F (p_move rfl) rfl rfl fun a F => ss F rfl rfl fun a F => ss F rfl rfl fun a F => ss F rfl rfl fun a F => ss F rfl rfl fun a F => ss F rfl rfl fun a F => ss F rfl rfl fun a F => sp F (p_pick (t := true) rfl rfl) rfl rfl fun a F => c_nil (hK4 _ _ (?_))
    try clear hK4 K4
    refine c_ift F rfl (c_seq fun K5 hK5 => c_region (sp F (p_assign rfl) rfl rfl fun a F => c_nil (hK5 _ _ (?_))))
    try clear hK5 K5
    refine wp_ret (r_then (ret1 F rfl rfl (?_)))
    have O : Own w0 [] [] w := (O.take 0)
    exact ⟨(-1), congrArg Ending.returned (show Value.int .i64 (-1) = .int .i64 ((-1)) from by first | exact vint (by omega) | exact vint (by simp; done)), by first | exact pd_ok hLk.1 (by omega) (by omega) hdn | (rcases h9c with ⟨h1, h2, h3⟩ | ⟨_, h2⟩ <;> first | exact pd_bad h2 | (have h4 := h3.1.2; exact pd_out (fun h => c19 (by omega))) | simp_all), O⟩

end Go.Proofs.Ytbhidkcljekobaa
