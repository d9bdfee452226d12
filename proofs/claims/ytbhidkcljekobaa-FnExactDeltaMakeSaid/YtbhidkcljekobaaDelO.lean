/- The contract of a chain of operations read from its end. No conditions but those on lengths. -/
import Derived.Test.YtbhidkcljekobaaRev
namespace Go.Proofs.Ytbhidkcljekobaa
open Go.ChangeShapes Go.WideShapes Go.ChangeAt Go.RowKit
set_option linter.unusedVariables false
set_option linter.unusedSimpArgs false


def chP : List (Nat × Int × Int × List UInt8) → Value
  | [] => .pointer none
  | x :: _ => .pointer (some ⟨x.1, 0, none⟩)
def ChAt (w : World) : List (Nat × Int × Int × List UInt8) → Prop
  | [] => True
  | x :: r => x.1 < w.heap.size ∧ w.cell? ⟨x.1, 0, none⟩ = some (.int .i64 x.2.1) ∧ w.cell? ⟨x.1, 1, none⟩ = some (.int .i64 x.2.2.1) ∧ w.cell? ⟨x.1, 2, none⟩ = some (.string (bs x.2.2.2)) ∧ w.cell? ⟨x.1, 3, none⟩ = some (chP r) ∧ ChAt w r
set_option maxRecDepth 100000 in
/-- impl.opNode).ops -/
theorem ops_ok (L : List (Nat × Int × Int × List UInt8)) (w0 : World) (hch : ChAt w0 L) (hlen : (L.length : Int) ≤ 8) :
    Calls Try.prog 45 #[chP L] w0 fun e w => ∃ (P : Option Addr), ∃ (N : Nat), ∃ (C : Nat), e = .returned (.slice P N C) ∧ ((N : Int) = ((L.map (·.2)).reverse).length) ∧ ((N : Int) ≤ 1048600) ∧ Own w0 [] [.row 43 3 (.slice P N C) N (((L.map (·.2)).reverse).flatMap encOp)] w := by
  have O := Own.start w0
  refine enterO (n := 20) Try.func45 rfl rfl rfl O fun a w F O => ?_
  refine c_seq fun K1 hK1 => c_region (sp F (p_assign rfl) rfl rfl fun a F => c_nil (hK1 _ _ (?_)))
  try clear hK1 K1
  refine c_seq fun K2 hK2 => c_region (sp F (p_assign rfl) rfl rfl fun a F => c_nil (hK2 _ _ (?_)))
  try clear hK2 K2
  refine c_seq fun K3 hK3 => wp_block (?_)
  refine c_loop (fun mm a w => ∃ (M : List (Nat × Int × Int × List UInt8)), ∃ (P : Option Addr), ∃ (N : Nat), ∃ (C : Nat), ∃ (L1 : List (Int × Int × List UInt8)), mm = M.length ∧ Has 20 [(2, .slice none 0 0), (0, chP M), (3, .slice P N C)] a ∧ Own w0 [] [.row 43 3 (.slice P N C) N (L1.flatMap encOp)] w ∧ (ChAt w0 M) ∧ ((N : Int) = L1.length) ∧ ((N : Int) + M.length ≤ 8) ∧ (L.map (·.2) = L1 ++ M.map (·.2))) ?_ ?_
  · have F : Has 20 [(2, .slice none 0 0), (0, chP L), (3, .slice none 0 0)] a := F.pick ⟨rfl, rfl, rfl, trivial⟩
    have O := O.addNil 43 3
    have O : Own w0 [] [.row 43 3 (.slice none 0 0) 0 ([])] w := O
    have O := O.setR 0 rfl (show Res.row 43 3 (.slice none 0 0) 0 ([]) = .row 43 3 (.slice none 0 0) 0 (([]).flatMap encOp) from by rfl)
    have O : Own w0 [] [.row 43 3 (.slice none 0 0) 0 (([]).flatMap encOp)] w := O
    exact ⟨L.length, L, none, 0, 0, ([]), rfl, F, O, by exact hch, by rfl, by simpa using hlen, by rfl⟩
  · rintro mm a w ⟨M, P, N, C, L1, rfl, F, O, hi0a, hi0b, hi0c, hi0d⟩
    refine c_seq fun K4 hK4 => c_seq fun K5 hK5 => ?_
    by_cases cs2 : M = []
    · subst cs2
      refine c_region (sp F (p_move rfl) rfl rfl fun a F => sp F (p_pneN rfl (by kernel_rfl)) rfl rfl fun a F => c_nil (hK5 _ _ (?_)))
      try clear hK5 K5
      refine c_iff F rfl (wp_exit (e_then (e_then (e_here (hK3 _ _ (?_))))))
      try clear hK3 K3
      refine c_seq fun K6 hK6 => c_region (sp F (p_move rfl) rfl rfl fun a F => so F rfl (o_call (vs := #[.slice P N C]) F Try.en_52 rfl rfl ((reverse_ok P N C L1 w (by first | omega | (simp; done) | (simp; omega) | (simp at *; omega)) (by omega) O.handR).mono ?_)))
      rintro e w ⟨rfl, K⟩
      refine ⟨_, rfl, fun a F => ?_⟩
      have O : Own w0 [] [.row 43 3 (.slice P N C) N (L1.reverse.flatMap encOp)] w := O.callR K
      clear K
      have O : Own w0 [] [.row 43 3 (.slice P N C) N (L1.reverse.flatMap encOp)] w := O
      refine c_nil (hK6 _ _ (?_))
      try clear hK6 K6
      refine c_seq fun K7 hK7 => c_region (sp F (p_move rfl) rfl rfl fun a F => sp F (p_assign rfl) rfl rfl fun a F => c_nil (hK7 _ _ (?_)))
      try clear hK7 K7
      refine wp_ret (ret1 F rfl rfl (?_))
      have O := O.setR 0 rfl (show Res.row 43 3 (.slice P N C) N (L1.reverse.flatMap encOp) = .row 43 3 (.slice P N C) N (((L.map (·.2)).reverse).flatMap encOp) from by rw [hi0d]; simp)
      have O : Own w0 [] [.row 43 3 (.slice P N C) N (((L.map (·.2)).reverse).flatMap encOp)] w := O
      exact ⟨P, N, C, rfl, by rw [hi0d]; simp; omega, by omega, O⟩
    · obtain ⟨nd, r, rfl⟩ : ∃ nd r, M = nd :: r := by cases M with | nil => exact absurd rfl cs2 | cons x y => exact ⟨x, y, rfl⟩
      obtain ⟨hd0, hd1, hd2, hd3, hd4, hd5⟩ := hi0a
      have hln : (nd :: r).length = r.length + 1 := List.length_cons
      rw [List.length_cons] at hi0c
      rw [List.map_cons] at hi0d
      refine c_region (sp F (p_move rfl) rfl rfl fun a F => sp F (p_pneS rfl (by kernel_rfl)) rfl rfl fun a F => c_nil (hK5 _ _ (?_)))
      try clear hK5 K5
      refine c_ift F rfl (wp_skip (hK4 _ _ (?_)))
      try clear hK4 K4
      refine c_seq fun K6 hK6 => wp_block (c_region (sp F (p_move rfl) rfl rfl fun a F => sp F (p_move rfl) rfl rfl fun a F => sp F (p_nil rfl) rfl rfl fun a F => sp F (p_faddr rfl Try.foff_74_0) rfl rfl fun a F => sp F (p_loadC (cs := [.int .i64 (nd.2.1), .int .i64 (nd.2.2.1), .string (bs (nd.2.2.2))]) rfl Try.agg_43 Try.sz_43 (fun _ h => (CA.cons (ld1 (((O.old hd0 (by simp)).trans hd1)) h) (CA.cons (ld1 (((O.old hd0 (by simp)).trans hd2)) h) (CA.cons (ld1 (((O.old hd0 (by simp)).trans hd3)) h) CA.nil))))) rfl rfl fun a F => so F rfl (o_bslice (cs := [.int .i64 (nd.2.1), .int .i64 (nd.2.2.1), .string (bs (nd.2.2.2))]) F O rfl Try.underlying23 Try.sz_43 Try.zero_43 rfl rfl rfl fun b15 w O a F => ?_)))
      have O : Own w0 [] [.cells b15 [.int .i64 (nd.2.1), .int .i64 (nd.2.2.1), .string (bs (nd.2.2.2))] 43, .row 43 3 (.slice P N C) N (L1.flatMap encOp)] w := O
      refine so F rfl (o_append F O rfl rfl Try.underlying23 Try.elem_43 (by decide) 1 0 rfl rfl rfl rfl (by unfold maxLen; omega) (by omega) rfl fun p16 k16 w O a F => ?_)
      have O : Own w0 [] [.cells b15 [.int .i64 (nd.2.1), .int .i64 (nd.2.2.1), .string (bs (nd.2.2.2))] 43, .row 43 3 (.slice p16 (N + 1) k16) (N + 1) ((L1.flatMap encOp) ++ [.int .i64 (nd.2.1), .int .i64 (nd.2.2.1), .string (bs (nd.2.2.2))])] w := O
      have O := O.setR 1 rfl (show Res.row 43 3 (.slice p16 (N + 1) k16) (N + 1) ((L1.flatMap encOp) ++ [.int .i64 (nd.2.1), .int .i64 (nd.2.2.1), .string (bs (nd.2.2.2))]) = .row 43 3 (.slice p16 (N + 1) k16) (N + 1) ((L1 ++ [(nd.2.1, nd.2.2.1, nd.2.2.2)]).flatMap encOp) from by simp [encOp])
      have O : Own w0 [] [.cells b15 [.int .i64 (nd.2.1), .int .i64 (nd.2.2.1), .string (bs (nd.2.2.2))] 43, .row 43 3 (.slice p16 (N + 1) k16) (N + 1) ((L1 ++ [(nd.2.1, nd.2.2.1, nd.2.2.2)]).flatMap encOp)] w := O
      refine sp F (p_assign rfl) rfl rfl fun a F => c_nil (hK6 _ _ (?_))
      try clear hK6 K6
      refine c_region (sp F (p_move rfl) rfl rfl fun a F => sp F (p_nil rfl) rfl rfl fun a F => sp F (p_faddr rfl Try.foff_74_1) rfl rfl fun a F => sp F (p_load rfl Try.agg_70 (fun _ h => (ld1 (((O.old hd0 (by simp)).trans hd4)) h))) rfl rfl fun a F => sp F (p_assign rfl) rfl rfl fun a F => c_nil (?_))
      have F : Has 20 [(2, .slice none 0 0), (0, chP r), (3, .slice p16 (N + 1) k16)] a := F.pick ⟨rfl, rfl, rfl, trivial⟩
      have O : Own w0 [] [.row 43 3 (.slice p16 (N + 1) k16) (N + 1) ((L1 ++ [(nd.2.1, nd.2.2.1, nd.2.2.2)]).flatMap encOp)] w := ((O.pull 1 rfl).take 1)
      exact ⟨r.length, by omega, r, p16, (N + 1), k16, (L1 ++ [(nd.2.1, nd.2.2.1, nd.2.2.2)]), rfl, F, O, by exact hd5, by first | omega | (simp; omega), by first | assumption | omega, by rw [hi0d, List.append_assoc]; rfl⟩

end Go.Proofs.Ytbhidkcljekobaa
