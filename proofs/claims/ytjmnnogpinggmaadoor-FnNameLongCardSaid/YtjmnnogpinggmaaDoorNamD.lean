/- What the laws on names draw. No conditions but that the place is small. -/
import Derived.Test.YtjmnnogpinggmaaDoorNamT
namespace Go.Proofs.YtjmnnogpinggmaaDoor
open Go.ChangeShapes Go.WideShapes Go.ChangeAt Go.RowKit
set_option linter.unusedVariables false
set_option linter.unusedSimpArgs false

set_option maxRecDepth 100000 in
/-- spec.l6Open -/
theorem l6Open_ok (A : Option Addr) (cn : Nat) (cc : Nat) (w0 : World) (hcc : (cn : Int) ≤ cc) (hcm : (cc : Int) ≤ 9223372036854775807) :
    Calls Tryd.prog 34 #[.slice A cn cc] w0 fun e w => ∃ (b : Nat), ∃ (m : Nat), e = .returned (.pointer (some ⟨b, 0, none⟩)) ∧ ((m : Int) ≤ 2000) ∧ ((m : Int) ≤ cn) ∧ Own w0 [] [.cells b [.slice A m cc, .int .i64 (0)] 44] w := by
  have O := Own.start w0
  refine enterO (n := 11) Tryd.func34 rfl rfl rfl O fun a w F O => ?_
  refine c_seq fun K1 hK1 => c_region (sp F (p_assign rfl) rfl rfl fun a F => c_nil (hK1 _ _ (?_)))
  try clear hK1 K1
  refine c_seq fun K2 hK2 => c_seq fun K3 hK3 => c_region (sp F (p_move rfl) rfl rfl fun a F => sp F (p_len_l rfl Tryd.underlying22) rfl rfl fun a F => sp F (p_gtr rfl rfl) rfl rfl fun a F => c_nil (hK3 _ _ (?_)))
  try clear hK3 K3
  by_cases c5 : 2000 < (cn : Int)
  · have F := F.setB (d := 5) rfl (decide_eq_true c5)
    refine c_ift F rfl (c_region (sp F (p_move rfl) rfl rfl fun a F => sp F (p_slto rfl rfl Tryd.underlying22 Tryd.sz_5 (by omega) (by omega)) rfl rfl fun a F => sp F (p_assign rfl) rfl rfl fun a F => c_nil (hK2 _ _ (?_))))
    try clear hK2 K2
    refine c_seq fun K4 hK4 => c_region (sp F (p_move rfl) rfl rfl fun a F => sp F (p_build (cs := [.slice A ((2000 : Int).toNat) cc, .int .i64 (0)]) rfl Tryd.places_44 rfl) rfl rfl fun a F => so F rfl (o_box F O rfl rfl fun b10 w O a F => ?_))
    have O : Own w0 [] [.cells b10 [.slice A ((2000 : Int).toNat) cc, .int .i64 (0)] 44] w := O
    refine sp F (p_assign rfl) rfl rfl fun a F => c_nil (hK4 _ _ (?_))
    try clear hK4 K4
    refine wp_ret (ret1 F rfl rfl (?_))
    exact ⟨b10, ((2000 : Int).toNat), rfl, by first | assumption | omega, by first | assumption | omega, O⟩
  · have F := F.setB (d := 5) rfl (decide_eq_false c5)
    refine c_iff F rfl (wp_skip (hK2 _ _ (?_)))
    try clear hK2 K2
    refine c_seq fun K4 hK4 => c_region (sp F (p_move rfl) rfl rfl fun a F => sp F (p_build (cs := [.slice A cn cc, .int .i64 (0)]) rfl Tryd.places_44 rfl) rfl rfl fun a F => so F rfl (o_box F O rfl rfl fun b10 w O a F => ?_))
    have O : Own w0 [] [.cells b10 [.slice A cn cc, .int .i64 (0)] 44] w := O
    refine sp F (p_assign rfl) rfl rfl fun a F => c_nil (hK4 _ _ (?_))
    try clear hK4 K4
    refine wp_ret (ret1 F rfl rfl (?_))
    exact ⟨b10, cn, rfl, by first | assumption | omega, by first | assumption | omega, O⟩

set_option maxRecDepth 100000 in
/-- spec.l6Rd).of -/
theorem of_ok (g : Nat) (A : Option Addr) (cn : Nat) (cc : Nat) (p : Int) (A1 : Option Addr) (n1 : Nat) (c1 : Nat) (es1 : List (List UInt8)) (w0 : World) (hCode : Code w0 g A cn) (hp0 : 0 ≤ p) (hp : p ≤ 900000) (hA1 : Arr w0 encStr 1 A1 es1) (hn1 : (n1 : Int) = es1.length) (hb1 : (n1 : Int) ≤ 1048600) (hE : ∀ x ∈ es1, (x.length : Int) ≤ 10) (h1 : 0 < n1) (h2 : (n1 : Int) ≤ 1000) (hap : Apart A1 g) (O : Own w0 [g] [.cells g [.slice A cn cc, .int .i64 (p)] 44] w0) :
    Calls Tryd.prog 37 #[.pointer (some ⟨g, 0, none⟩), .slice A1 n1 c1] w0 fun e w => ∃ (L : List UInt8), ∃ (q : Int), e = .returned (.string (bs (L))) ∧ ((L.length : Int) ≤ 10) ∧ (p ≤ q) ∧ (q ≤ p + 1) ∧ Own w0 [g] [.cells g [.slice A cn cc, .int .i64 (q)] 44] w := by
  refine enterO (n := 12) Tryd.func37 rfl rfl rfl O fun a w F O => ?_
  refine c_seq fun K1 hK1 => c_region (sp F (p_assign rfl) rfl rfl fun a F => c_nil (hK1 _ _ (?_)))
  try clear hK1 K1
  refine c_seq fun K2 hK2 => c_region (sp F (p_move rfl) rfl rfl fun a F => sp F (p_move rfl) rfl rfl fun a F => sp F (p_move rfl) rfl rfl fun a F => sp F (p_len_l rfl Tryd.underlying28) rfl rfl fun a F => so F rfl (o_call (vs := #[.pointer (some ⟨g, 0, none⟩), .int .i64 ((n1 : Int))]) F Tryd.en_36 rfl rfl ((pick_ok g A cn cc p (n1 : Int) 44 w (hCode.keep O (by simp)) (by omega) (by omega) (by omega) (by omega) (O.hand1 rfl)).mono ?_)))
  rintro e w ⟨r9, rfl, h9a, h9b, K⟩
  refine ⟨_, rfl, fun a F => ?_⟩
  have O : Own w0 [g] [.cells g [.slice A cn cc, .int .i64 (p + 1)] 44] w := O.call1 K rfl
  clear K
  have O : Own w0 [g] [.cells g [.slice A cn cc, .int .i64 (p + 1)] 44] w := O
  obtain ⟨b10, o10, hp10, hb10, hc10⟩ := Arr.out hA1 (by omega)
  have hx10 := hap _ _ hp10
  have hap10 := hap; rw [hp10] at hap10
  have hA10 := hA1; rw [hp10] at hA10 F
  obtain ⟨e10, he10⟩ := get_some (l := es1) (i := r9) (by omega) (by first | omega | (simp; omega))
  refine sp F (p_iaddr rfl rfl Tryd.underlying28 Tryd.sz_9 (by omega) (by omega)) rfl rfl fun a F => sp F (p_load rfl Tryd.agg_9 (fun _ h => (ld1 (((O.old hb10 (by simpa using hx10)).trans (hc10 _ _ he10 0 _ rfl))) h))) rfl rfl fun a F => sp F (p_assign rfl) rfl rfl fun a F => c_nil (hK2 _ _ (?_))
  try clear hK2 K2
  refine wp_ret (ret1 F rfl rfl (?_))
  have O := O.setR 0 rfl (show Res.cells g [.slice A cn cc, .int .i64 (p + 1)] 44 = .cells g [.slice A cn cc, .int .i64 ((p + 1))] 44 from by simp <;> omega)
  have O : Own w0 [g] [.cells g [.slice A cn cc, .int .i64 ((p + 1))] 44] w := O
  exact ⟨e10, (p + 1), rfl, by exact hE _ (List.mem_of_getElem? (by assumption)), by first | assumption | omega, by first | assumption | omega, O⟩

set_option maxRecDepth 100000 in
/-- spec.l91Name -/
theorem l91Name_ok (g : Nat) (A : Option Addr) (cn : Nat) (cc : Nat) (p : Int) (w0 : World) (hCode : Code w0 g A cn) (hp0 : 0 ≤ p) (hp : p ≤ 100000) (O : Own w0 [g] [.cells g [.slice A cn cc, .int .i64 (p)] 44] w0) :
    Calls Tryd.prog 35 #[.pointer (some ⟨g, 0, none⟩)] w0 fun e w => ∃ (L : List UInt8), ∃ (q : Int), e = .returned (.string (bs (L))) ∧ ((L.length : Int) ≤ 60) ∧ (p ≤ q) ∧ (q ≤ p + 10) ∧ Own w0 [g] [.cells g [.slice A cn cc, .int .i64 (q)] 44] w := by
  refine enterO (n := 31) Tryd.func35 rfl rfl rfl O fun a w F O => ?_
  refine c_seq fun K1 hK1 => c_region (sp F (p_assign rfl) rfl rfl fun a F => c_nil (hK1 _ _ (?_)))
  try clear hK1 K1
  refine c_seq fun K2 hK2 => c_region (sp F (p_move rfl) rfl rfl fun a F => so F rfl (o_bslice (cs := [.string (bs ([97])), .string (bs ([109, 97, 105, 110])), .string (bs ([120, 49])), .string (bs ([97, 45, 98])), .string (bs ([98]))]) F O rfl Tryd.underlying28 Tryd.sz_9 Tryd.zero_9 rfl rfl rfl fun b7 w O a F => ?_))
  have O : Own w0 [g] [.cells b7 [.string (bs ([97])), .string (bs ([109, 97, 105, 110])), .string (bs ([120, 49])), .string (bs ([97, 45, 98])), .string (bs ([98]))] 9, .cells g [.slice A cn cc, .int .i64 (p)] 44] w := O
  have O := O.pull 1 rfl
  have O : Own w0 [g] [.cells g [.slice A cn cc, .int .i64 (p)] 44, .cells b7 [.string (bs ([97])), .string (bs ([109, 97, 105, 110])), .string (bs ([120, 49])), .string (bs ([97, 45, 98])), .string (bs ([98]))] 9] w := O
  refine so F rfl (o_call (vs := #[.pointer (some ⟨g, 0, none⟩), .slice (some ⟨b7, 0, none⟩) 5 5]) F Tryd.en_37 rfl rfl ((of_ok g A cn cc p (some ⟨b7, 0, none⟩) 5 5 ([[97], [109, 97, 105, 110], [120, 49], [97, 45, 98], [98]]) w (hCode.keep O (by simp)) (by omega) (by omega) (O.arrC 1 (es := [[97], [109, 97, 105, 110], [120, 49], [97, 45, 98], [98]]) rfl encStr_len (by decide)) (by first | omega | (simp; done) | (simp; omega) | (simp at *; omega)) (by omega) (by decide) (by first | omega | decide) (by first | omega | decide) (O.apartC 1 0 rfl rfl (by decide)) (O.hand1 rfl)).mono ?_))
  rintro e w ⟨L8, q8, rfl, h8a, h8b, h8c, K⟩
  refine ⟨_, rfl, fun a F => ?_⟩
  have O : Own w0 [g] [.cells g [.slice A cn cc, .int .i64 (q8)] 44, .cells b7 [.string (bs ([97])), .string (bs ([109, 97, 105, 110])), .string (bs ([120, 49])), .string (bs ([97, 45, 98])), .string (bs ([98]))] 9] w := O.call1 K rfl
  clear K
  have O : Own w0 [g] [.cells g [.slice A cn cc, .int .i64 (q8)] 44, .cells b7 [.string (bs ([97])), .string (bs ([109, 97, 105, 110])), .string (bs ([120, 49])), .string (bs ([97, 45, 98])), .string (bs ([98]))] 9] w := O
  refine sp F (p_assign rfl) rfl rfl fun a F => c_nil (hK2 _ _ (?_))
  try clear hK2 K2
  refine c_seq fun K3 hK3 => c_region (sp F (p_move rfl) rfl rfl fun a F => so F rfl (o_call (vs := #[.pointer (some ⟨g, 0, none⟩), .int .i64 (3)]) F Tryd.en_36 rfl rfl ((pick_ok g A cn cc q8 3 44 w (hCode.keep O (by simp)) (by omega) (by omega) (by omega) (by omega) (O.hand1 rfl)).mono ?_)))
  rintro e w ⟨r10, rfl, h10a, h10b, K⟩
  refine ⟨_, rfl, fun a F => ?_⟩
  have O : Own w0 [g] [.cells g [.slice A cn cc, .int .i64 (q8 + 1)] 44, .cells b7 [.string (bs ([97])), .string (bs ([109, 97, 105, 110])), .string (bs ([120, 49])), .string (bs ([97, 45, 98])), .string (bs ([98]))] 9] w := O.call1 K rfl
  clear K
  have O : Own w0 [g] [.cells g [.slice A cn cc, .int .i64 (q8 + 1)] 44, .cells b7 [.string (bs ([97])), .string (bs ([109, 97, 105, 110])), .string (bs ([120, 49])), .string (bs ([97, 45, 98])), .string (bs ([98]))] 9] w := O
  refine sp F (p_assign rfl) rfl rfl fun a F => c_nil (hK3 _ _ (?_))
  try clear hK3 K3
  refine c_seq fun K4 hK4 => c_seq fun K5 hK5 => c_region (sp F (p_assign rfl) rfl rfl fun a F => c_nil (hK5 _ _ (?_)))
  try clear hK5 K5
  refine wp_block (?_)
  refine c_loop (fun mm a w => ∃ (k : Int), ∃ (q : Int), ∃ (L1 : List UInt8), mm = (r10 - k).toNat ∧ Has 31 [(0, .pointer (some ⟨g, 0, none⟩)), (2, .string (bs ([]))), (4, .int .i64 (r10)), (5, .int .i64 (k)), (3, .string (bs (L1)))] a ∧ Own w0 [g] [.cells g [.slice A cn cc, .int .i64 (q)] 44] w ∧ (0 ≤ k) ∧ (k ≤ r10) ∧ ((L1.length : Int) ≤ 10 + 11 * k) ∧ (p ≤ q) ∧ (q ≤ p + 2 + k)) ?_ ?_
  · have F : Has 31 [(0, .pointer (some ⟨g, 0, none⟩)), (2, .string (bs ([]))), (4, .int .i64 (r10)), (5, .int .i64 (0)), (3, .string (bs (L8)))] a := F.pick ⟨rfl, rfl, rfl, rfl, rfl, trivial⟩
    have O : Own w0 [g] [.cells g [.slice A cn cc, .int .i64 (q8 + 1)] 44] w := (O.take 1)
    exact ⟨(r10 - 0).toNat, 0, (q8 + 1), L8, rfl, F, O, by first | assumption | omega, by first | assumption | omega, by first | omega | (simp; omega), by first | assumption | omega, by first | assumption | omega⟩
  · rintro mm a w ⟨k, q, L1, rfl, F, O, hi0a, hi0b, hi0c, hi0d, hi0e⟩
    refine c_seq fun K6 hK6 => c_seq fun K7 hK7 => c_region (sp F (p_move rfl) rfl rfl fun a F => sp F (p_move rfl) rfl rfl fun a F => sp F (p_lss rfl rfl) rfl rfl fun a F => c_nil (hK7 _ _ (?_)))
    try clear hK7 K7
    by_cases c13 : k < r10
    · have F := F.setB (d := 13) rfl (decide_eq_true c13)
      refine c_ift F rfl (wp_skip (hK6 _ _ (?_)))
      try clear hK6 K6
      refine c_seq fun K8 hK8 => wp_block (c_region (sp F (p_move rfl) rfl rfl fun a F => sp F (p_cat rfl rfl (by first | omega | (simp; omega))) rfl rfl fun a F => sp F (p_move rfl) rfl rfl fun a F => so F rfl (o_bslice (cs := [.string (bs ([97])), .string (bs ([98])), .string (bs ([109, 97, 105, 110])), .string (bs ([48]))]) F O rfl Tryd.underlying28 Tryd.sz_9 Tryd.zero_9 rfl rfl rfl fun b19 w O a F => ?_)))
      have O : Own w0 [g] [.cells b19 [.string (bs ([97])), .string (bs ([98])), .string (bs ([109, 97, 105, 110])), .string (bs ([48]))] 9, .cells g [.slice A cn cc, .int .i64 (q)] 44] w := O
      have O := O.pull 1 rfl
      have O : Own w0 [g] [.cells g [.slice A cn cc, .int .i64 (q)] 44, .cells b19 [.string (bs ([97])), .string (bs ([98])), .string (bs ([109, 97, 105, 110])), .string (bs ([48]))] 9] w := O
      refine so F rfl (o_call (vs := #[.pointer (some ⟨g, 0, none⟩), .slice (some ⟨b19, 0, none⟩) 4 4]) F Tryd.en_37 rfl rfl ((of_ok g A cn cc q (some ⟨b19, 0, none⟩) 4 4 ([[97], [98], [109, 97, 105, 110], [48]]) w (hCode.keep O (by simp)) (by omega) (by omega) (O.arrC 1 (es := [[97], [98], [109, 97, 105, 110], [48]]) rfl encStr_len (by decide)) (by first | omega | (simp; done) | (simp; omega) | (simp at *; omega)) (by omega) (by decide) (by first | omega | decide) (by first | omega | decide) (O.apartC 1 0 rfl rfl (by decide)) (O.hand1 rfl)).mono ?_))
      rintro e w ⟨L20, q20, rfl, h20a, h20b, h20c, K⟩
      refine ⟨_, rfl, fun a F => ?_⟩
      have O : Own w0 [g] [.cells g [.slice A cn cc, .int .i64 (q20)] 44, .cells b19 [.string (bs ([97])), .string (bs ([98])), .string (bs ([109, 97, 105, 110])), .string (bs ([48]))] 9] w := O.call1 K rfl
      clear K
      have O : Own w0 [g] [.cells g [.slice A cn cc, .int .i64 (q20)] 44, .cells b19 [.string (bs ([97])), .string (bs ([98])), .string (bs ([109, 97, 105, 110])), .string (bs ([48]))] 9] w := O
      refine sp F (p_cat rfl rfl (by first | omega | (simp; omega))) rfl rfl fun a F => sp F (p_assign rfl) rfl rfl fun a F => c_nil (hK8 _ _ (?_))
      try clear hK8 K8
      refine c_region (sp F (p_move rfl) rfl rfl fun a F => sp F (p_add rfl rfl (by omega) (by omega)) rfl rfl fun a F => sp F (p_assign rfl) rfl rfl fun a F => c_nil (?_))
      have F : Has 31 [(0, .pointer (some ⟨g, 0, none⟩)), (2, .string (bs ([]))), (4, .int .i64 (r10)), (5, .int .i64 (k + 1)), (3, .string (bs ((L1 ++ ([47])) ++ L20)))] a := F.pick ⟨rfl, rfl, rfl, rfl, rfl, trivial⟩
      have O : Own w0 [g] [.cells g [.slice A cn cc, .int .i64 (q20)] 44] w := (O.take 1)
      exact ⟨(r10 - (k + 1)).toNat, by omega, (k + 1), q20, ((L1 ++ ([47])) ++ L20), rfl, F, O, by first | assumption | omega, by first | assumption | omega, by first | omega | (simp; omega), by first | assumption | omega, by first | assumption | omega⟩
    · have F := F.setB (d := 13) rfl (decide_eq_false c13)
      refine c_iff F rfl (wp_exit (e_then (e_then (e_here (hK4 _ _ (?_))))))
      try clear hK4 K4
      refine c_seq fun K8 hK8 => c_seq fun K9 hK9 => c_region (sp F (p_move rfl) rfl rfl fun a F => so F rfl (o_call (vs := #[.pointer (some ⟨g, 0, none⟩), .int .i64 (8)]) F Tryd.en_36 rfl rfl ((pick_ok g A cn cc q 8 44 w (hCode.keep O (by simp)) (by omega) (by omega) (by omega) (by omega) (O.hand1 rfl)).mono ?_)))
      rintro e w ⟨r23, rfl, h23a, h23b, K⟩
      refine ⟨_, rfl, fun a F => ?_⟩
      have O : Own w0 [g] [.cells g [.slice A cn cc, .int .i64 (q + 1)] 44] w := O.call1 K rfl
      clear K
      have O : Own w0 [g] [.cells g [.slice A cn cc, .int .i64 (q + 1)] 44] w := O
      refine sp F (p_eql rfl rfl) rfl rfl fun a F => c_nil (hK9 _ _ (?_))
      try clear hK9 K9
      by_cases c24 : r23 = 0
      · have F := F.setB (d := 24) rfl (decide_eq_true c24)
        refine c_ift F rfl (c_region (sp F (p_move rfl) rfl rfl fun a F => sp F (p_move rfl) rfl rfl fun a F => so F rfl (o_bslice (cs := [.string (bs ([47])), .string (bs ([45])), .string (bs ([65])), .string (bs ([47, 47, 98])), .string (bs ([32])), .string (bs ([47, 108, 111, 110, 103, 112, 97, 114, 116])), .string (bs ([42]))]) F O rfl Tryd.underlying28 Tryd.sz_9 Tryd.zero_9 rfl rfl rfl fun b27 w O a F => ?_)))
        have O : Own w0 [g] [.cells b27 [.string (bs ([47])), .string (bs ([45])), .string (bs ([65])), .string (bs ([47, 47, 98])), .string (bs ([32])), .string (bs ([47, 108, 111, 110, 103, 112, 97, 114, 116])), .string (bs ([42]))] 9, .cells g [.slice A cn cc, .int .i64 (q + 1)] 44] w := O
        have O := O.pull 1 rfl
        have O : Own w0 [g] [.cells g [.slice A cn cc, .int .i64 (q + 1)] 44, .cells b27 [.string (bs ([47])), .string (bs ([45])), .string (bs ([65])), .string (bs ([47, 47, 98])), .string (bs ([32])), .string (bs ([47, 108, 111, 110, 103, 112, 97, 114, 116])), .string (bs ([42]))] 9] w := O
        refine so F rfl (o_call (vs := #[.pointer (some ⟨g, 0, none⟩), .slice (some ⟨b27, 0, none⟩) 7 7]) F Tryd.en_37 rfl rfl ((of_ok g A cn cc (q + 1) (some ⟨b27, 0, none⟩) 7 7 ([[47], [45], [65], [47, 47, 98], [32], [47, 108, 111, 110, 103, 112, 97, 114, 116], [42]]) w (hCode.keep O (by simp)) (by omega) (by omega) (O.arrC 1 (es := [[47], [45], [65], [47, 47, 98], [32], [47, 108, 111, 110, 103, 112, 97, 114, 116], [42]]) rfl encStr_len (by decide)) (by first | omega | (simp; done) | (simp; omega) | (simp at *; omega)) (by omega) (by decide) (by first | omega | decide) (by first | omega | decide) (O.apartC 1 0 rfl rfl (by decide)) (O.hand1 rfl)).mono ?_))
        rintro e w ⟨L28, q28, rfl, h28a, h28b, h28c, K⟩
        refine ⟨_, rfl, fun a F => ?_⟩
        have O : Own w0 [g] [.cells g [.slice A cn cc, .int .i64 (q28)] 44, .cells b27 [.string (bs ([47])), .string (bs ([45])), .string (bs ([65])), .string (bs ([47, 47, 98])), .string (bs ([32])), .string (bs ([47, 108, 111, 110, 103, 112, 97, 114, 116])), .string (bs ([42]))] 9] w := O.call1 K rfl
        clear K
        have O : Own w0 [g] [.cells g [.slice A cn cc, .int .i64 (q28)] 44, .cells b27 [.string (bs ([47])), .string (bs ([45])), .string (bs ([65])), .string (bs ([47, 47, 98])), .string (bs ([32])), .string (bs ([47, 108, 111, 110, 103, 112, 97, 114, 116])), .string (bs ([42]))] 9] w := O
        refine sp F (p_cat rfl rfl (by first | omega | (simp; omega))) rfl rfl fun a F => sp F (p_assign rfl) rfl rfl fun a F => c_nil (hK8 _ _ (?_))
        try clear hK8 K8
        refine c_seq fun K10 hK10 => c_region (sp F (p_move rfl) rfl rfl fun a F => sp F (p_assign rfl) rfl rfl fun a F => c_nil (hK10 _ _ (?_)))
        try clear hK10 K10
        refine wp_ret (ret1 F rfl rfl (?_))
        have O : Own w0 [g] [.cells g [.slice A cn cc, .int .i64 (q28)] 44] w := (O.take 1)
        exact ⟨(L1 ++ L28), q28, congrArg Ending.returned (show Value.string (bs (L1 ++ L28)) = .string (bs ((L1 ++ L28))) from by first | rfl | (simp; done)), by first | omega | (simp; omega), by first | omega | (simp; omega), by first | omega | (simp; omega), O⟩
      · have F := F.setB (d := 24) rfl (decide_eq_false c24)
        refine c_iff F rfl (wp_skip (hK8 _ _ (?_)))
        try clear hK8 K8
        refine c_seq fun K10 hK10 => c_region (sp F (p_move rfl) rfl rfl fun a F => sp F (p_assign rfl) rfl rfl fun a F => c_nil (hK10 _ _ (?_)))
        try clear hK10 K10
        refine wp_ret (ret1 F rfl rfl (?_))
        have O := O.setR 0 rfl (show Res.cells g [.slice A cn cc, .int .i64 (q + 1)] 44 = .cells g [.slice A cn cc, .int .i64 ((q + 1))] 44 from by simp <;> omega)
        have O : Own w0 [g] [.cells g [.slice A cn cc, .int .i64 ((q + 1))] 44] w := O
        exact ⟨L1, (q + 1), rfl, by first | omega | (simp; omega), by first | omega | (simp; omega), by first | omega | (simp; omega), O⟩

set_option maxRecDepth 100000 in
/-- spec.DrawNameValid -/
theorem dNameValid_ok (A : Option Addr) (cn : Nat) (cc : Nat) (w0 : World) (hC : CodeIn w0 A cn cc) :
    Calls Tryd.prog 28 #[.slice A cn cc] w0 fun e w => ∃ (L : List UInt8), e = .returned (.string (bs (L))) ∧ ((L.length : Int) ≤ 60) ∧ Own w0 [] [] w := by
  have O := Own.start w0
  have hcc : (cn : Int) ≤ cc := by have := hC.1; omega
  have hcm : (cc : Int) ≤ 9223372036854775807 := by have := hC.2.1; unfold maxLen at this; omega
  refine enterO (n := 6) Tryd.func28 rfl rfl rfl O fun a w F O => ?_
  refine c_seq fun K1 hK1 => c_region (sp F (p_assign rfl) rfl rfl fun a F => c_nil (hK1 _ _ (?_)))
  try clear hK1 K1
  refine c_seq fun K2 hK2 => c_region (sp F (p_move rfl) rfl rfl fun a F => so F rfl (o_call (vs := #[.slice A cn cc]) F Tryd.en_34 rfl rfl ((l6Open_ok A cn cc w (by omega) (by omega)).mono ?_)))
  rintro e w ⟨b4, m4, rfl, h4a, h4b, K⟩
  refine ⟨_, rfl, fun a F => ?_⟩
  have O : Own w0 [] [.cells b4 [.slice A m4 cc, .int .i64 (0)] 44] w := O.call0 K
  clear K
  have hCode : Code w0 b4 A m4 := Code.of hC (by omega) (by omega) (O.fresh 0 rfl rfl)
  have O : Own w0 [] [.cells b4 [.slice A m4 cc, .int .i64 (0)] 44] w := O
  refine so F rfl (o_call (vs := #[.pointer (some ⟨b4, 0, none⟩)]) F Tryd.en_35 rfl rfl ((l91Name_ok b4 A m4 cc 0 w (hCode.keep O (by simp)) (by omega) (by omega) (O.hand1 rfl)).mono ?_))
  rintro e w ⟨L5, q5, rfl, h5a, h5b, h5c, K⟩
  refine ⟨_, rfl, fun a F => ?_⟩
  have O : Own w0 [] [.cells b4 [.slice A m4 cc, .int .i64 (q5)] 44] w := O.call1 K rfl
  clear K
  have O : Own w0 [] [.cells b4 [.slice A m4 cc, .int .i64 (q5)] 44] w := O
  refine sp F (p_assign rfl) rfl rfl fun a F => c_nil (hK2 _ _ (?_))
  try clear hK2 K2
  refine wp_ret (ret1 F rfl rfl (?_))
  have O : Own w0 [] [] w := (O.take 0)
  exact ⟨L5, rfl, by first | assumption | omega, O⟩

set_option maxRecDepth 100000 in
/-- spec.DrawNameParts -/
theorem dNameParts_ok (A : Option Addr) (cn : Nat) (cc : Nat) (w0 : World) (hC : CodeIn w0 A cn cc) :
    Calls Tryd.prog 33 #[.slice A cn cc] w0 fun e w => ∃ (L : List UInt8), e = .returned (.string (bs (L))) ∧ ((L.length : Int) ≤ 60) ∧ Own w0 [] [] w := by
  have O := Own.start w0
  have hcc : (cn : Int) ≤ cc := by have := hC.1; omega
  have hcm : (cc : Int) ≤ 9223372036854775807 := by have := hC.2.1; unfold maxLen at this; omega
  refine enterO (n := 6) Tryd.func33 rfl rfl rfl O fun a w F O => ?_
  refine c_seq fun K1 hK1 => c_region (sp F (p_assign rfl) rfl rfl fun a F => c_nil (hK1 _ _ (?_)))
  try clear hK1 K1
  refine c_seq fun K2 hK2 => c_region (sp F (p_move rfl) rfl rfl fun a F => so F rfl (o_call (vs := #[.slice A cn cc]) F Tryd.en_34 rfl rfl ((l6Open_ok A cn cc w (by omega) (by omega)).mono ?_)))
  rintro e w ⟨b4, m4, rfl, h4a, h4b, K⟩
  refine ⟨_, rfl, fun a F => ?_⟩
  have O : Own w0 [] [.cells b4 [.slice A m4 cc, .int .i64 (0)] 44] w := O.call0 K
  clear K
  have hCode : Code w0 b4 A m4 := Code.of hC (by omega) (by omega) (O.fresh 0 rfl rfl)
  have O : Own w0 [] [.cells b4 [.slice A m4 cc, .int .i64 (0)] 44] w := O
  refine so F rfl (o_call (vs := #[.pointer (some ⟨b4, 0, none⟩)]) F Tryd.en_35 rfl rfl ((l91Name_ok b4 A m4 cc 0 w (hCode.keep O (by simp)) (by omega) (by omega) (O.hand1 rfl)).mono ?_))
  rintro e w ⟨L5, q5, rfl, h5a, h5b, h5c, K⟩
  refine ⟨_, rfl, fun a F => ?_⟩
  have O : Own w0 [] [.cells b4 [.slice A m4 cc, .int .i64 (q5)] 44] w := O.call1 K rfl
  clear K
  have O : Own w0 [] [.cells b4 [.slice A m4 cc, .int .i64 (q5)] 44] w := O
  refine sp F (p_assign rfl) rfl rfl fun a F => c_nil (hK2 _ _ (?_))
  try clear hK2 K2
  refine wp_ret (ret1 F rfl rfl (?_))
  have O : Own w0 [] [] w := (O.take 0)
  exact ⟨L5, rfl, by first | assumption | omega, O⟩

set_option maxRecDepth 100000 in
/-- spec.DrawNameMatches -/
theorem dNameMatches_ok (A : Option Addr) (cn : Nat) (cc : Nat) (w0 : World) (hC : CodeIn w0 A cn cc) :
    Calls Tryd.prog 18 #[.slice A cn cc] w0 fun e w => ∃ (L : List UInt8), ∃ (M : List UInt8), e = .returned (.tuple #[.string (bs (L)), .string (bs (M))]) ∧ ((L.length : Int) ≤ 200) ∧ ((M.length : Int) ≤ 200) ∧ Own w0 [] [] w := by
  have O := Own.start w0
  have hcc : (cn : Int) ≤ cc := by have := hC.1; omega
  have hcm : (cc : Int) ≤ 9223372036854775807 := by have := hC.2.1; unfold maxLen at this; omega
  refine enterO (n := 20) Tryd.func18 rfl rfl rfl O fun a w F O => ?_
  refine c_seq fun K1 hK1 => c_region (sp F (p_assign rfl) rfl rfl fun a F => sp F (p_assign rfl) rfl rfl fun a F => c_nil (hK1 _ _ (?_)))
  try clear hK1 K1
  refine c_seq fun K2 hK2 => c_region (sp F (p_move rfl) rfl rfl fun a F => so F rfl (o_call (vs := #[.slice A cn cc]) F Tryd.en_34 rfl rfl ((l6Open_ok A cn cc w (by omega) (by omega)).mono ?_)))
  rintro e w ⟨b8, m8, rfl, h8a, h8b, K⟩
  refine ⟨_, rfl, fun a F => ?_⟩
  have O : Own w0 [] [.cells b8 [.slice A m8 cc, .int .i64 (0)] 44] w := O.call0 K
  clear K
  have hCode : Code w0 b8 A m8 := Code.of hC (by omega) (by omega) (O.fresh 0 rfl rfl)
  have O : Own w0 [] [.cells b8 [.slice A m8 cc, .int .i64 (0)] 44] w := O
  refine sp F (p_assign rfl) rfl rfl fun a F => c_nil (hK2 _ _ (?_))
  try clear hK2 K2
  refine c_seq fun K3 hK3 => c_region (sp F (p_move rfl) rfl rfl fun a F => so F rfl (o_call (vs := #[.pointer (some ⟨b8, 0, none⟩)]) F Tryd.en_35 rfl rfl ((l91Name_ok b8 A m8 cc 0 w (hCode.keep O (by simp)) (by omega) (by omega) (O.hand1 rfl)).mono ?_)))
  rintro e w ⟨L10, q10, rfl, h10a, h10b, h10c, K⟩
  refine ⟨_, rfl, fun a F => ?_⟩
  have O : Own w0 [] [.cells b8 [.slice A m8 cc, .int .i64 (q10)] 44] w := O.call1 K rfl
  clear K
  have O : Own w0 [] [.cells b8 [.slice A m8 cc, .int .i64 (q10)] 44] w := O
  refine sp F (p_assign rfl) rfl rfl fun a F => c_nil (hK3 _ _ (?_))
  try clear hK3 K3
  refine c_seq fun K4 hK4 => c_region (sp F (p_move rfl) rfl rfl fun a F => sp F (p_assign rfl) rfl rfl fun a F => c_nil (hK4 _ _ (?_)))
  try clear hK4 K4
  refine c_seq fun K5 hK5 => c_seq fun K6 hK6 => c_region (sp F (p_move rfl) rfl rfl fun a F => so F rfl (o_call (vs := #[.pointer (some ⟨b8, 0, none⟩), .int .i64 (2)]) F Tryd.en_36 rfl rfl ((pick_ok b8 A m8 cc q10 2 44 w (hCode.keep O (by simp)) (by omega) (by omega) (by omega) (by omega) (O.hand1 rfl)).mono ?_)))
  rintro e w ⟨r13, rfl, h13a, h13b, K⟩
  refine ⟨_, rfl, fun a F => ?_⟩
  have O : Own w0 [] [.cells b8 [.slice A m8 cc, .int .i64 (q10 + 1)] 44] w := O.call1 K rfl
  clear K
  have O : Own w0 [] [.cells b8 [.slice A m8 cc, .int .i64 (q10 + 1)] 44] w := O
  refine sp F (p_eql rfl rfl) rfl rfl fun a F => c_nil (hK6 _ _ (?_))
  try clear hK6 K6
  by_cases c14 : r13 = 0
  · have F := F.setB (d := 14) rfl (decide_eq_true c14)
    refine c_ift F rfl (c_region (sp F (p_move rfl) rfl rfl fun a F => so F rfl (o_bslice (cs := [.string (bs ([42])), .string (bs ([42, 47, 42])), .string (bs ([97, 47, 42])), .string (bs ([109, 97, 105, 110, 47, 42])), .string (bs ([42, 47, 98])), .string (bs ([97])), .string (bs ([97, 47, 42, 47, 98])), .string (bs ([120, 49, 47, 42])), .string (bs ([]))]) F O rfl Tryd.underlying28 Tryd.sz_9 Tryd.zero_9 rfl rfl rfl fun b16 w O a F => ?_)))
    have O : Own w0 [] [.cells b16 [.string (bs ([42])), .string (bs ([42, 47, 42])), .string (bs ([97, 47, 42])), .string (bs ([109, 97, 105, 110, 47, 42])), .string (bs ([42, 47, 98])), .string (bs ([97])), .string (bs ([97, 47, 42, 47, 98])), .string (bs ([120, 49, 47, 42])), .string (bs ([]))] 9, .cells b8 [.slice A m8 cc, .int .i64 (q10 + 1)] 44] w := O
    have O := O.pull 1 rfl
    have O : Own w0 [] [.cells b8 [.slice A m8 cc, .int .i64 (q10 + 1)] 44, .cells b16 [.string (bs ([42])), .string (bs ([42, 47, 42])), .string (bs ([97, 47, 42])), .string (bs ([109, 97, 105, 110, 47, 42])), .string (bs ([42, 47, 98])), .string (bs ([97])), .string (bs ([97, 47, 42, 47, 98])), .string (bs ([120, 49, 47, 42])), .string (bs ([]))] 9] w := O
    refine so F rfl (o_call (vs := #[.pointer (some ⟨b8, 0, none⟩), .slice (some ⟨b16, 0, none⟩) 9 9]) F Tryd.en_37 rfl rfl ((of_ok b8 A m8 cc (q10 + 1) (some ⟨b16, 0, none⟩) 9 9 ([[42], [42, 47, 42], [97, 47, 42], [109, 97, 105, 110, 47, 42], [42, 47, 98], [97], [97, 47, 42, 47, 98], [120, 49, 47, 42], []]) w (hCode.keep O (by simp)) (by omega) (by omega) (O.arrC 1 (es := [[42], [42, 47, 42], [97, 47, 42], [109, 97, 105, 110, 47, 42], [42, 47, 98], [97], [97, 47, 42, 47, 98], [120, 49, 47, 42], []]) rfl encStr_len (by decide)) (by first | omega | (simp; done) | (simp; omega) | (simp at *; omega)) (by omega) (by decide) (by first | omega | decide) (by first | omega | decide) (O.apartC 1 0 rfl rfl (by decide)) (O.hand1 rfl)).mono ?_))
    rintro e w ⟨L17, q17, rfl, h17a, h17b, h17c, K⟩
    refine ⟨_, rfl, fun a F => ?_⟩
    have O : Own w0 [] [.cells b8 [.slice A m8 cc, .int .i64 (q17)] 44, .cells b16 [.string (bs ([42])), .string (bs ([42, 47, 42])), .string (bs ([97, 47, 42])), .string (bs ([109, 97, 105, 110, 47, 42])), .string (bs ([42, 47, 98])), .string (bs ([97])), .string (bs ([97, 47, 42, 47, 98])), .string (bs ([120, 49, 47, 42])), .string (bs ([]))] 9] w := O.call1 K rfl
    clear K
    have O : Own w0 [] [.cells b8 [.slice A m8 cc, .int .i64 (q17)] 44, .cells b16 [.string (bs ([42])), .string (bs ([42, 47, 42])), .string (bs ([97, 47, 42])), .string (bs ([109, 97, 105, 110, 47, 42])), .string (bs ([42, 47, 98])), .string (bs ([97])), .string (bs ([97, 47, 42, 47, 98])), .string (bs ([120, 49, 47, 42])), .string (bs ([]))] 9] w := O
    refine sp F (p_assign rfl) rfl rfl fun a F => c_nil (hK5 _ _ (?_))
    try clear hK5 K5
    refine c_seq fun K7 hK7 => c_region (sp F (p_move rfl) rfl rfl fun a F => sp F (p_move rfl) rfl rfl fun a F => sp F (p_assign rfl) rfl rfl fun a F => sp F (p_assign rfl) rfl rfl fun a F => c_nil (hK7 _ _ (?_)))
    try clear hK7 K7
    refine wp_ret (ret2 F rfl rfl rfl (?_))
    have O : Own w0 [] [] w := (O.take 0)
    exact ⟨L17, L10, rfl, by first | omega | (simp; omega), by first | omega | (simp; omega), O⟩
  · have F := F.setB (d := 14) rfl (decide_eq_false c14)
    refine c_iff F rfl (wp_skip (hK5 _ _ (?_)))
    try clear hK5 K5
    refine c_seq fun K7 hK7 => c_region (sp F (p_move rfl) rfl rfl fun a F => sp F (p_move rfl) rfl rfl fun a F => sp F (p_assign rfl) rfl rfl fun a F => sp F (p_assign rfl) rfl rfl fun a F => c_nil (hK7 _ _ (?_)))
    try clear hK7 K7
    refine wp_ret (ret2 F rfl rfl rfl (?_))
    have O : Own w0 [] [] w := (O.take 0)
    exact ⟨L10, L10, rfl, by first | omega | (simp; omega), by first | omega | (simp; omega), O⟩

set_option maxRecDepth 100000 in
/-- spec.DrawNameClashes -/
theorem dNameClashes_ok (A : Option Addr) (cn : Nat) (cc : Nat) (w0 : World) (hC : CodeIn w0 A cn cc) :
    Calls Tryd.prog 23 #[.slice A cn cc] w0 fun e w => ∃ (L : List UInt8), ∃ (M : List UInt8), e = .returned (.tuple #[.string (bs (L)), .string (bs (M))]) ∧ ((L.length : Int) ≤ 200) ∧ ((M.length : Int) ≤ 200) ∧ Own w0 [] [] w := by
  have O := Own.start w0
  have hcc : (cn : Int) ≤ cc := by have := hC.1; omega
  have hcm : (cc : Int) ≤ 9223372036854775807 := by have := hC.2.1; unfold maxLen at this; omega
  refine enterO (n := 32) Tryd.func23 rfl rfl rfl O fun a w F O => ?_
  refine c_seq fun K1 hK1 => c_region (sp F (p_assign rfl) rfl rfl fun a F => sp F (p_assign rfl) rfl rfl fun a F => c_nil (hK1 _ _ (?_)))
  try clear hK1 K1
  refine c_seq fun K2 hK2 => c_region (sp F (p_move rfl) rfl rfl fun a F => so F rfl (o_call (vs := #[.slice A cn cc]) F Tryd.en_34 rfl rfl ((l6Open_ok A cn cc w (by omega) (by omega)).mono ?_)))
  rintro e w ⟨b8, m8, rfl, h8a, h8b, K⟩
  refine ⟨_, rfl, fun a F => ?_⟩
  have O : Own w0 [] [.cells b8 [.slice A m8 cc, .int .i64 (0)] 44] w := O.call0 K
  clear K
  have hCode : Code w0 b8 A m8 := Code.of hC (by omega) (by omega) (O.fresh 0 rfl rfl)
  have O : Own w0 [] [.cells b8 [.slice A m8 cc, .int .i64 (0)] 44] w := O
  refine sp F (p_assign rfl) rfl rfl fun a F => c_nil (hK2 _ _ (?_))
  try clear hK2 K2
  refine c_seq fun K3 hK3 => c_region (sp F (p_move rfl) rfl rfl fun a F => so F rfl (o_call (vs := #[.pointer (some ⟨b8, 0, none⟩)]) F Tryd.en_35 rfl rfl ((l91Name_ok b8 A m8 cc 0 w (hCode.keep O (by simp)) (by omega) (by omega) (O.hand1 rfl)).mono ?_)))
  rintro e w ⟨L10, q10, rfl, h10a, h10b, h10c, K⟩
  refine ⟨_, rfl, fun a F => ?_⟩
  have O : Own w0 [] [.cells b8 [.slice A m8 cc, .int .i64 (q10)] 44] w := O.call1 K rfl
  clear K
  have O : Own w0 [] [.cells b8 [.slice A m8 cc, .int .i64 (q10)] 44] w := O
  refine sp F (p_assign rfl) rfl rfl fun a F => c_nil (hK3 _ _ (?_))
  try clear hK3 K3
  refine c_seq fun K4 hK4 => c_region (sp F (p_move rfl) rfl rfl fun a F => so F rfl (o_call (vs := #[.pointer (some ⟨b8, 0, none⟩)]) F Tryd.en_35 rfl rfl ((l91Name_ok b8 A m8 cc q10 w (hCode.keep O (by simp)) (by omega) (by omega) (O.hand1 rfl)).mono ?_)))
  rintro e w ⟨L12, q12, rfl, h12a, h12b, h12c, K⟩
  refine ⟨_, rfl, fun a F => ?_⟩
  have O : Own w0 [] [.cells b8 [.slice A m8 cc, .int .i64 (q12)] 44] w := O.call1 K rfl
  clear K
  have O : Own w0 [] [.cells b8 [.slice A m8 cc, .int .i64 (q12)] 44] w := O
  refine sp F (p_assign rfl) rfl rfl fun a F => c_nil (hK4 _ _ (?_))
  try clear hK4 K4
  refine c_seq fun K5 hK5 => c_seq fun K6 hK6 => c_region (sp F (p_move rfl) rfl rfl fun a F => so F rfl (o_call (vs := #[.pointer (some ⟨b8, 0, none⟩), .int .i64 (3)]) F Tryd.en_36 rfl rfl ((pick_ok b8 A m8 cc q12 3 44 w (hCode.keep O (by simp)) (by omega) (by omega) (by omega) (by omega) (O.hand1 rfl)).mono ?_)))
  rintro e w ⟨r14, rfl, h14a, h14b, K⟩
  refine ⟨_, rfl, fun a F => ?_⟩
  have O : Own w0 [] [.cells b8 [.slice A m8 cc, .int .i64 (q12 + 1)] 44] w := O.call1 K rfl
  clear K
  have O : Own w0 [] [.cells b8 [.slice A m8 cc, .int .i64 (q12 + 1)] 44] w := O
  refine sp F (p_eql rfl rfl) rfl rfl fun a F => c_nil (hK6 _ _ (?_))
  try clear hK6 K6
  by_cases c15 : r14 = 0
  · have F := F.setB (d := 15) rfl (decide_eq_true c15)
    refine c_ift F rfl (c_seq fun K7 hK7 => c_region (sp F (p_move rfl) rfl rfl fun a F => sp F (p_cat rfl rfl (by first | omega | (simp; omega))) rfl rfl fun a F => sp F (p_move rfl) rfl rfl fun a F => sp F (p_cat rfl rfl (by first | omega | (simp; omega))) rfl rfl fun a F => sp F (p_assign rfl) rfl rfl fun a F => c_nil (hK7 _ _ (?_))))
    try clear hK7 K7
    refine c_seq fun K8 hK8 => c_region (sp F (p_move rfl) rfl rfl fun a F => sp F (p_len_b rfl Tryd.underlying9) rfl rfl fun a F => sp F (p_gtr rfl rfl) rfl rfl fun a F => c_nil (hK8 _ _ (?_)))
    try clear hK8 K8
    by_cases c22 : 12 < (((L10 ++ ([47])) ++ L12).length : Int)
    · have F := F.setB (d := 22) rfl (decide_eq_true c22)
      refine c_ift F rfl (c_region (sp F (p_move rfl) rfl rfl fun a F => sp F (p_cat rfl rfl (by first | omega | (simp; omega))) rfl rfl fun a F => sp F (p_assign rfl) rfl rfl fun a F => c_nil (hK5 _ _ (?_))))
      try clear hK5 K5
      refine c_seq fun K9 hK9 => c_seq fun K10 hK10 => c_region (sp F (p_move rfl) rfl rfl fun a F => so F rfl (o_call (vs := #[.pointer (some ⟨b8, 0, none⟩), .int .i64 (2)]) F Tryd.en_36 rfl rfl ((pick_ok b8 A m8 cc (q12 + 1) 2 44 w (hCode.keep O (by simp)) (by omega) (by omega) (by omega) (by omega) (O.hand1 rfl)).mono ?_)))
      rintro e w ⟨r26, rfl, h26a, h26b, K⟩
      refine ⟨_, rfl, fun a F => ?_⟩
      have O : Own w0 [] [.cells b8 [.slice A m8 cc, .int .i64 ((q12 + 1) + 1)] 44] w := O.call1 K rfl
      clear K
      have O : Own w0 [] [.cells b8 [.slice A m8 cc, .int .i64 ((q12 + 1) + 1)] 44] w := O
      refine sp F (p_eql rfl rfl) rfl rfl fun a F => c_nil (hK10 _ _ (?_))
      try clear hK10 K10
      by_cases c27 : r26 = 0
      · have F := F.setB (d := 27) rfl (decide_eq_true c27)
        refine c_ift F rfl (c_seq fun K11 hK11 => c_region (sp F (p_move rfl) rfl rfl fun a F => sp F (p_move rfl) rfl rfl fun a F => sp F (p_assign rfl) rfl rfl fun a F => sp F (p_assign rfl) rfl rfl fun a F => c_nil (hK11 _ _ (?_))))
        try clear hK11 K11
        refine wp_ret (r_then (ret2 F rfl rfl rfl (?_)))
        have O : Own w0 [] [] w := (O.take 0)
        exact ⟨(L10 ++ ([47, 97])), L10, congrArg Ending.returned (show Value.tuple #[.string (bs (L10 ++ ([47, 97]))), .string (bs (L10))] = .tuple #[.string (bs ((L10 ++ ([47, 97])))), .string (bs (L10))] from by rw [show Value.string (bs (L10 ++ ([47, 97]))) = .string (bs ((L10 ++ ([47, 97])))) from by first | rfl | (simp; done)]), by first | omega | (simp; omega), by first | omega | (simp; omega), O⟩
      · have F := F.setB (d := 27) rfl (decide_eq_false c27)
        refine c_iff F rfl (wp_skip (hK9 _ _ (?_)))
        try clear hK9 K9
        refine c_seq fun K11 hK11 => c_region (sp F (p_move rfl) rfl rfl fun a F => sp F (p_move rfl) rfl rfl fun a F => sp F (p_assign rfl) rfl rfl fun a F => sp F (p_assign rfl) rfl rfl fun a F => c_nil (hK11 _ _ (?_)))
        try clear hK11 K11
        refine wp_ret (ret2 F rfl rfl rfl (?_))
        have O : Own w0 [] [] w := (O.take 0)
        exact ⟨L10, (L10 ++ ([47, 97])), congrArg Ending.returned (show Value.tuple #[.string (bs (L10)), .string (bs (L10 ++ ([47, 97])))] = .tuple #[.string (bs (L10)), .string (bs ((L10 ++ ([47, 97]))))] from by rw [show Value.string (bs (L10 ++ ([47, 97]))) = .string (bs ((L10 ++ ([47, 97])))) from by first | rfl | (simp; done)]), by first | omega | (simp; omega), by first | omega | (simp; omega), O⟩
    · have F := F.setB (d := 22) rfl (decide_eq_false c22)
      refine c_iff F rfl (wp_skip (hK5 _ _ (?_)))
      try clear hK5 K5
      refine c_seq fun K9 hK9 => c_seq fun K10 hK10 => c_region (sp F (p_move rfl) rfl rfl fun a F => so F rfl (o_call (vs := #[.pointer (some ⟨b8, 0, none⟩), .int .i64 (2)]) F Tryd.en_36 rfl rfl ((pick_ok b8 A m8 cc (q12 + 1) 2 44 w (hCode.keep O (by simp)) (by omega) (by omega) (by omega) (by omega) (O.hand1 rfl)).mono ?_)))
      rintro e w ⟨r26, rfl, h26a, h26b, K⟩
      refine ⟨_, rfl, fun a F => ?_⟩
      have O : Own w0 [] [.cells b8 [.slice A m8 cc, .int .i64 ((q12 + 1) + 1)] 44] w := O.call1 K rfl
      clear K
      have O : Own w0 [] [.cells b8 [.slice A m8 cc, .int .i64 ((q12 + 1) + 1)] 44] w := O
      refine sp F (p_eql rfl rfl) rfl rfl fun a F => c_nil (hK10 _ _ (?_))
      try clear hK10 K10
      by_cases c27 : r26 = 0
      · have F := F.setB (d := 27) rfl (decide_eq_true c27)
        refine c_ift F rfl (c_seq fun K11 hK11 => c_region (sp F (p_move rfl) rfl rfl fun a F => sp F (p_move rfl) rfl rfl fun a F => sp F (p_assign rfl) rfl rfl fun a F => sp F (p_assign rfl) rfl rfl fun a F => c_nil (hK11 _ _ (?_))))
        try clear hK11 K11
        refine wp_ret (r_then (ret2 F rfl rfl rfl (?_)))
        have O : Own w0 [] [] w := (O.take 0)
        exact ⟨((L10 ++ ([47])) ++ L12), L10, congrArg Ending.returned (show Value.tuple #[.string (bs ((L10 ++ ([47])) ++ L12)), .string (bs (L10))] = .tuple #[.string (bs (((L10 ++ ([47])) ++ L12))), .string (bs (L10))] from by rw [show Value.string (bs ((L10 ++ ([47])) ++ L12)) = .string (bs (((L10 ++ ([47])) ++ L12))) from by first | rfl | (simp; done)]), by first | omega | (simp; omega), by first | omega | (simp; omega), O⟩
      · have F := F.setB (d := 27) rfl (decide_eq_false c27)
        refine c_iff F rfl (wp_skip (hK9 _ _ (?_)))
        try clear hK9 K9
        refine c_seq fun K11 hK11 => c_region (sp F (p_move rfl) rfl rfl fun a F => sp F (p_move rfl) rfl rfl fun a F => sp F (p_assign rfl) rfl rfl fun a F => sp F (p_assign rfl) rfl rfl fun a F => c_nil (hK11 _ _ (?_)))
        try clear hK11 K11
        refine wp_ret (ret2 F rfl rfl rfl (?_))
        have O : Own w0 [] [] w := (O.take 0)
        exact ⟨L10, ((L10 ++ ([47])) ++ L12), congrArg Ending.returned (show Value.tuple #[.string (bs (L10)), .string (bs ((L10 ++ ([47])) ++ L12))] = .tuple #[.string (bs (L10)), .string (bs (((L10 ++ ([47])) ++ L12)))] from by rw [show Value.string (bs ((L10 ++ ([47])) ++ L12)) = .string (bs (((L10 ++ ([47])) ++ L12))) from by first | rfl | (simp; done)]), by first | omega | (simp; omega), by first | omega | (simp; omega), O⟩
  · have F := F.setB (d := 15) rfl (decide_eq_false c15)
    refine c_iff F rfl (wp_skip (hK5 _ _ (?_)))
    try clear hK5 K5
    refine c_seq fun K7 hK7 => c_seq fun K8 hK8 => c_region (sp F (p_move rfl) rfl rfl fun a F => so F rfl (o_call (vs := #[.pointer (some ⟨b8, 0, none⟩), .int .i64 (2)]) F Tryd.en_36 rfl rfl ((pick_ok b8 A m8 cc (q12 + 1) 2 44 w (hCode.keep O (by simp)) (by omega) (by omega) (by omega) (by omega) (O.hand1 rfl)).mono ?_)))
    rintro e w ⟨r26, rfl, h26a, h26b, K⟩
    refine ⟨_, rfl, fun a F => ?_⟩
    have O : Own w0 [] [.cells b8 [.slice A m8 cc, .int .i64 ((q12 + 1) + 1)] 44] w := O.call1 K rfl
    clear K
    have O : Own w0 [] [.cells b8 [.slice A m8 cc, .int .i64 ((q12 + 1) + 1)] 44] w := O
    refine sp F (p_eql rfl rfl) rfl rfl fun a F => c_nil (hK8 _ _ (?_))
    try clear hK8 K8
    by_cases c27 : r26 = 0
    · have F := F.setB (d := 27) rfl (decide_eq_true c27)
      refine c_ift F rfl (c_seq fun K9 hK9 => c_region (sp F (p_move rfl) rfl rfl fun a F => sp F (p_move rfl) rfl rfl fun a F => sp F (p_assign rfl) rfl rfl fun a F => sp F (p_assign rfl) rfl rfl fun a F => c_nil (hK9 _ _ (?_))))
      try clear hK9 K9
      refine wp_ret (r_then (ret2 F rfl rfl rfl (?_)))
      have O : Own w0 [] [] w := (O.take 0)
      exact ⟨L12, L10, rfl, by first | omega | (simp; omega), by first | omega | (simp; omega), O⟩
    · have F := F.setB (d := 27) rfl (decide_eq_false c27)
      refine c_iff F rfl (wp_skip (hK7 _ _ (?_)))
      try clear hK7 K7
      refine c_seq fun K9 hK9 => c_region (sp F (p_move rfl) rfl rfl fun a F => sp F (p_move rfl) rfl rfl fun a F => sp F (p_assign rfl) rfl rfl fun a F => sp F (p_assign rfl) rfl rfl fun a F => c_nil (hK9 _ _ (?_)))
      try clear hK9 K9
      refine wp_ret (ret2 F rfl rfl rfl (?_))
      have O : Own w0 [] [] w := (O.take 0)
      exact ⟨L10, L12, rfl, by first | omega | (simp; omega), by first | omega | (simp; omega), O⟩

end Go.Proofs.YtjmnnogpinggmaaDoor
