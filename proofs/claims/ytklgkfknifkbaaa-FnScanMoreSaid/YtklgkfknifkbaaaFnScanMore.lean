/- Further frames are read: the law FnScanMore returns true. No conditions. -/
import Derived.Test.YtklgkfknifkbaaaLCrash
import Derived.Test.YtklgkfknifkbaaaLogM
import Derived.Test.YtklgkfknifkbaaaOpenC
namespace Go.Proofs.Ytklgkfknifkbaaa
open Go.ChangeShapes Go.WideShapes Go.ChangeAt Go.RowKit
set_option linter.unusedVariables false
set_option linter.unusedSimpArgs false

set_option maxRecDepth 100000 in
/-- laws.FnScanMore -/
theorem scanMore_ok (A : Option Addr) (cn : Nat) (cc : Nat) (A2 : Option Addr) (cn2 : Nat) (cc2 : Nat) (w0 : World) (hC : CodeIn w0 A cn cc) (hC2 : CodeIn w0 A2 cn2 cc2) :
    Calls Try.prog 22 #[.slice A cn cc, .slice A2 cn2 cc2] w0 fun e w => e = .returned (.bool true) ∧ Own w0 [] [] w := by
  have O := Own.start w0
  have hcc : (cn : Int) ≤ cc := by have := hC.1; omega
  have hcm : (cc : Int) ≤ 9223372036854775807 := by have := hC.2.1; unfold maxLen at this; omega
  have hcc2 : (cn2 : Int) ≤ cc2 := by have := hC2.1; omega
  have hcm2 : (cc2 : Int) ≤ 9223372036854775807 := by have := hC2.2.1; unfold maxLen at this; omega
  refine enterO (n := 75) Try.func22 rfl rfl rfl O fun a w F O => ?_
  refine c_seq fun K1 hK1 => c_region (sp F (p_assign rfl) rfl rfl fun a F => c_nil (hK1 _ _ (?_)))
  try clear hK1 K1
  refine c_seq fun K2 hK2 => c_seq fun K3 hK3 => c_region (sp F (p_move rfl) rfl rfl fun a F => sp F (p_len_l rfl Try.underlying34) rfl rfl fun a F => sp F (p_gtr rfl rfl) rfl rfl fun a F => sp F (p_move rfl) rfl rfl fun a F => ?_)
  by_cases c16 : 1048576 < (cn : Int)
  · have F := F.setB (d := 15) rfl (decide_eq_true c16)
    have F := F.setB (d := 16) rfl (decide_eq_true c16)
    refine ss F rfl rfl fun a F => ss F rfl rfl fun a F => ss F rfl rfl fun a F => sp F (p_pick (t := true) rfl rfl) rfl rfl fun a F => c_nil (hK3 _ _ (?_))
    try clear hK3 K3
    refine c_ift F rfl (c_seq fun K4 hK4 => c_region (sp F (p_assign rfl) rfl rfl fun a F => c_nil (hK4 _ _ (?_))))
    try clear hK4 K4
    refine wp_ret (r_then (ret1 F rfl rfl (?_)))
    exact ⟨rfl, O⟩
  · have F := F.setB (d := 15) rfl (decide_eq_false c16)
    have F := F.setB (d := 16) rfl (decide_eq_false c16)
    refine sp F (p_move rfl) rfl rfl fun a F => sp F (p_len_l rfl Try.underlying34) rfl rfl fun a F => sp F (p_gtr rfl rfl) rfl rfl fun a F => sp F (p_pick (t := false) rfl rfl) rfl rfl fun a F => c_nil (hK3 _ _ (?_))
    try clear hK3 K3
    by_cases c20 : 1048576 < (cn2 : Int)
    · have F := F.setB (d := 19) rfl (decide_eq_true c20)
      have F := F.setB (d := 20) rfl (decide_eq_true c20)
      refine c_ift F rfl (c_seq fun K4 hK4 => c_region (sp F (p_assign rfl) rfl rfl fun a F => c_nil (hK4 _ _ (?_))))
      try clear hK4 K4
      refine wp_ret (r_then (ret1 F rfl rfl (?_)))
      exact ⟨rfl, O⟩
    · have F := F.setB (d := 19) rfl (decide_eq_false c20)
      have F := F.setB (d := 20) rfl (decide_eq_false c20)
      refine c_iff F rfl (wp_skip (hK2 _ _ (?_)))
      try clear hK2 K2
      refine c_seq fun K4 hK4 => c_region (sp F (p_move rfl) rfl rfl fun a F => so F rfl (o_call (vs := #[.slice A cn cc]) F Try.en_49 rfl rfl ((dLogScan_ok A cn cc w (hC.keep O)).mono ?_)))
      rintro e w ⟨l22, rfl, h22a, K⟩
      refine ⟨_, rfl, fun a F => ?_⟩
      have O : Own w0 [] [] w := O.call0 K
      clear K
      have O : Own w0 [] [] w := O
      refine sp F (p_assign rfl) rfl rfl fun a F => c_nil (hK4 _ _ (?_))
      try clear hK4 K4
      refine c_seq fun K5 hK5 => c_region (sp F (p_move rfl) rfl rfl fun a F => so F rfl (o_call (vs := #[.string (bs (l22))]) F Try.en_37 rfl rfl ((iLogScan_ok l22 w (by first | omega | (simp; done) | (simp; omega))).mono ?_)))
      rintro e w ⟨P25, N25, C25, rfl, h25a, h25b, h25c, K⟩
      refine ⟨_, rfl, fun a F => ?_⟩
      have O : Own w0 [] [.row 9 1 (.slice P25 N25 C25) N25 ((scan l22).flatMap encStr)] w := O.call0 K
      clear K
      have O : Own w0 [] [.row 9 1 (.slice P25 N25 C25) N25 ((scan l22).flatMap encStr)] w := O
      refine sp F (p_move rfl) rfl rfl fun a F => sp F (p_extract rfl rfl) rfl rfl fun a F => sp F (p_extract rfl rfl) rfl rfl fun a F => sp F (p_assign rfl) rfl rfl fun a F => sp F (p_assign rfl) rfl rfl fun a F => c_nil (hK5 _ _ (?_))
      try clear hK5 K5
      refine c_seq fun K6 hK6 => c_region (sp F (p_move rfl) rfl rfl fun a F => so F rfl (o_call (vs := #[.string (bs (l22))]) F Try.en_38 rfl rfl ((sLogScan_ok l22 w (by first | omega | (simp; done) | (simp; omega))).mono ?_)))
      rintro e w ⟨P30, N30, C30, rfl, h30a, h30b, h30c, K⟩
      refine ⟨_, rfl, fun a F => ?_⟩
      have O : Own w0 [] [.row 9 1 (.slice P30 N30 C30) N30 ((scan l22).flatMap encStr), .row 9 1 (.slice P25 N25 C25) N25 ((scan l22).flatMap encStr)] w := O.call0 K
      clear K
      have O : Own w0 [] [.row 9 1 (.slice P30 N30 C30) N30 ((scan l22).flatMap encStr), .row 9 1 (.slice P25 N25 C25) N25 ((scan l22).flatMap encStr)] w := O
      refine sp F (p_move rfl) rfl rfl fun a F => sp F (p_extract rfl rfl) rfl rfl fun a F => sp F (p_extract rfl rfl) rfl rfl fun a F => sp F (p_assign rfl) rfl rfl fun a F => sp F (p_assign rfl) rfl rfl fun a F => c_nil (hK6 _ _ (?_))
      try clear hK6 K6
      refine c_seq fun K7 hK7 => c_seq fun K8 hK8 => c_region (sp F (p_move rfl) rfl rfl fun a F => sp F (p_move rfl) rfl rfl fun a F => so F rfl (o_call (vs := #[.slice P25 N25 C25, .slice P30 N30 C30]) F Try.en_44 rfl rfl ((sameTexts_ok P25 N25 C25 (scan l22) P30 N30 C30 (scan l22) w (O.arr 1 (es := scan l22) rfl encStr_len (by decide)) (by first | omega | (simp; done) | (simp; omega) | (simp at *; omega)) (by omega) (O.arr 0 (es := scan l22) rfl encStr_len (by decide)) (by first | omega | (simp; done) | (simp; omega) | (simp at *; omega)) (by omega)).mono ?_)))
      rintro e w ⟨rfl, K⟩
      refine ⟨_, rfl, fun a F => ?_⟩
      have O : Own w0 [] [.row 9 1 (.slice P30 N30 C30) N30 ((scan l22).flatMap encStr), .row 9 1 (.slice P25 N25 C25) N25 ((scan l22).flatMap encStr)] w := O.call0 K
      clear K
      have c35 : (scan l22) = (scan l22) := by rfl
      have F := F.setB (d := 35) rfl (decide_eq_true c35)
      have O : Own w0 [] [.row 9 1 (.slice P30 N30 C30) N30 ((scan l22).flatMap encStr), .row 9 1 (.slice P25 N25 C25) N25 ((scan l22).flatMap encStr)] w := O
      refine sp F (p_not rfl) rfl rfl fun a F => sp F (p_move rfl) rfl rfl fun a F => sp F (p_move rfl) rfl rfl fun a F => sp F (p_move rfl) rfl rfl fun a F => sp F (p_neq rfl rfl) rfl rfl fun a F => ?_
      have c40 : (used (scan l22) : Int) = (used (scan l22) : Int) := by rfl
      have F := F.setB (d := 40) rfl (decide_eq_false (fun h => h c40))
      refine sp F (p_pick (t := false) rfl rfl) rfl rfl fun a F => c_nil (hK8 _ _ (?_))
      try clear hK8 K8
      refine c_iff F rfl (wp_skip (hK7 _ _ (?_)))
      try clear hK7 K7
      refine c_seq fun K9 hK9 => c_region (sp F (p_move rfl) rfl rfl fun a F => sp F (p_len_l rfl Try.underlying34) rfl rfl fun a F => sp F (p_convu8 rfl (by rw [Try.underlying3]; rfl) Try.underlying5) rfl rfl fun a F => so F rfl (o_bslice (cs := [.int .u8 ((cn2 : Int) % 256)]) F O rfl Try.underlying34 Try.sz_5 Try.zero_5 rfl rfl rfl fun b45 w O a F => ?_))
      have O : Own w0 [] [.cells b45 [.int .u8 ((cn2 : Int) % 256)] 5, .row 9 1 (.slice P30 N30 C30) N30 ((scan l22).flatMap encStr), .row 9 1 (.slice P25 N25 C25) N25 ((scan l22).flatMap encStr)] w := O
      refine sp F (p_cbs1 rfl Try.underlying34 Try.underlying5 Try.underlying9 (by omega) (by omega) (fun _ h => ld1 (O.load 0 rfl rfl) h)) rfl rfl fun a F => sp F (p_cat rfl rfl (by simp)) rfl rfl fun a F => sp F (p_assign rfl) rfl rfl fun a F => c_nil (hK9 _ _ (?_))
      try clear hK9 K9
      refine c_seq fun K10 hK10 => ?_
      have hlf := lFrame_len (r := [114] ++ [UInt8.ofNat ((cn2 : Int) % 256 : Int).toNat]) (by simp)
      have hlr : (([114] ++ [UInt8.ofNat ((cn2 : Int) % 256 : Int).toNat]).length : Int) = 2 := by simp
      have hlt := List.length_take (l := l22) (i := ((used (scan l22) : Int) : Int).toNat)
      have hla : (l22.take ((used (scan l22) : Int) : Int).toNat ++ lFrame ([114] ++ [UInt8.ofNat ((cn2 : Int) % 256 : Int).toNat])).length = (l22.take ((used (scan l22) : Int) : Int).toNat).length + (lFrame ([114] ++ [UInt8.ofNat ((cn2 : Int) % 256 : Int).toNat])).length := List.length_append
      refine c_draw Try.mixed (SC []) [] _ (fun a w h => h) ?_
      have O := O.drawn (w.drawn + 1)
      generalize { w with drawn := w.drawn + 1 } = w at O ⊢
      have hS : SC [] w := SC.nil
      refine d_take 0 rfl (by kernel_rfl) F (p_move rfl) rfl rfl hS fun a F => d_take 1 rfl (by kernel_rfl) F (p_move rfl) rfl rfl hS fun a F => d_take 2 rfl (by kernel_rfl) F (p_sto rfl rfl Try.underlying9 (by omega) (by omega)) rfl rfl hS fun a F => d_take 3 rfl (by kernel_rfl) F (p_move rfl) rfl rfl hS fun a F => d_one 4 (by kernel_rfl) (d_op rfl F rfl (o_call (vs := #[.string (bs (([114]) ++ ([UInt8.ofNat ((cn2 : Int) % 256 : Int).toNat])))]) F Try.en_30 rfl rfl ((iLogFrame_ok (([114]) ++ ([UInt8.ofNat ((cn2 : Int) % 256 : Int).toNat])) w).mono ?_)))
      rintro e w ⟨rfl, K⟩
      refine ⟨_, rfl, fun a F => ?_⟩
      have O : Own w0 [] [.cells b45 [.int .u8 ((cn2 : Int) % 256)] 5, .row 9 1 (.slice P30 N30 C30) N30 ((scan l22).flatMap encStr), .row 9 1 (.slice P25 N25 C25) N25 ((scan l22).flatMap encStr)] w := O.call0 K
      clear K
      have O : Own w0 [] [.cells b45 [.int .u8 ((cn2 : Int) % 256)] 5, .row 9 1 (.slice P30 N30 C30) N30 ((scan l22).flatMap encStr), .row 9 1 (.slice P25 N25 C25) N25 ((scan l22).flatMap encStr)] w := O
      refine ⟨fun _ => SC.nil, ?_⟩
      have hS : SC [] w := SC.nil
      refine d_take 5 rfl (by kernel_rfl) F (p_cat rfl rfl (by (first | omega | (simp; omega) | (rw [List.length_append]; omega) | (rw [List.length_take]; omega)))) rfl rfl hS fun a F => d_one 6 (by kernel_rfl) (d_op rfl F rfl (o_call (vs := #[.string (bs ((l22.take ((used (scan l22) : Int) : Int).toNat) ++ (lFrame (([114]) ++ ([UInt8.ofNat ((cn2 : Int) % 256 : Int).toNat])))))]) F Try.en_37 rfl rfl ((iLogScan_ok ((l22.take ((used (scan l22) : Int) : Int).toNat) ++ (lFrame (([114]) ++ ([UInt8.ofNat ((cn2 : Int) % 256 : Int).toNat])))) w (by first | omega | (simp; done) | (simp; omega))).mono ?_)))
      rintro e w ⟨P55, N55, C55, rfl, h55a, h55b, h55c, K⟩
      refine ⟨_, rfl, fun a F => ?_⟩
      have O : Own w0 [] [.row 9 1 (.slice P55 N55 C55) N55 ((scan ((l22.take ((used (scan l22) : Int) : Int).toNat) ++ (lFrame (([114]) ++ ([UInt8.ofNat ((cn2 : Int) % 256 : Int).toNat]))))).flatMap encStr), .cells b45 [.int .u8 ((cn2 : Int) % 256)] 5, .row 9 1 (.slice P30 N30 C30) N30 ((scan l22).flatMap encStr), .row 9 1 (.slice P25 N25 C25) N25 ((scan l22).flatMap encStr)] w := O.call0 K
      clear K
      have O : Own w0 [] [.row 9 1 (.slice P55 N55 C55) N55 ((scan ((l22.take ((used (scan l22) : Int) : Int).toNat) ++ (lFrame (([114]) ++ ([UInt8.ofNat ((cn2 : Int) % 256 : Int).toNat]))))).flatMap encStr), .cells b45 [.int .u8 ((cn2 : Int) % 256)] 5, .row 9 1 (.slice P30 N30 C30) N30 ((scan l22).flatMap encStr), .row 9 1 (.slice P25 N25 C25) N25 ((scan l22).flatMap encStr)] w := O
      refine ⟨fun _ => SC.nil, ?_⟩
      have hS : SC [] w := SC.nil
      refine d_take 7 rfl (by kernel_rfl) F (p_move rfl) rfl rfl hS fun a F => d_take 8 rfl (by kernel_rfl) F (p_extract rfl rfl) rfl rfl hS fun a F => d_take 9 rfl (by kernel_rfl) F (p_extract rfl rfl) rfl rfl hS fun a F => d_take 10 rfl (by kernel_rfl) F (p_assign rfl) rfl rfl hS fun a F => d_take 11 rfl (by kernel_rfl) F (p_assign rfl) rfl rfl hS fun a F => d_done (by kernel_rfl) (hK10 _ _ (?_))
      try clear hK10 K10
      refine c_seq fun K11 hK11 => c_region (sp F (p_move rfl) rfl rfl fun a F => so F rfl (o_bslice (cs := []) F O rfl Try.underlying40 Try.sz_9 Try.zero_9 rfl rfl rfl fun b59 w O a F => ?_))
      have O : Own w0 [] [.cells b59 [] 9, .row 9 1 (.slice P55 N55 C55) N55 ((scan ((l22.take ((used (scan l22) : Int) : Int).toNat) ++ (lFrame (([114]) ++ ([UInt8.ofNat ((cn2 : Int) % 256 : Int).toNat]))))).flatMap encStr), .cells b45 [.int .u8 ((cn2 : Int) % 256)] 5, .row 9 1 (.slice P30 N30 C30) N30 ((scan l22).flatMap encStr), .row 9 1 (.slice P25 N25 C25) N25 ((scan l22).flatMap encStr)] w := O
      refine sp F (p_move rfl) rfl rfl fun a F => ?_
      have O := O.asRow 0 (q := 0) (sz := 1) rfl rfl (by unfold maxLen; omega)
      have O : Own w0 [] [.row 9 1 (.slice (some ⟨b59, 0, none⟩) 0 0) 0 ([]), .row 9 1 (.slice P55 N55 C55) N55 ((scan ((l22.take ((used (scan l22) : Int) : Int).toNat) ++ (lFrame (([114]) ++ ([UInt8.ofNat ((cn2 : Int) % 256 : Int).toNat]))))).flatMap encStr), .cells b45 [.int .u8 ((cn2 : Int) % 256)] 5, .row 9 1 (.slice P30 N30 C30) N30 ((scan l22).flatMap encStr), .row 9 1 (.slice P25 N25 C25) N25 ((scan l22).flatMap encStr)] w := O
      refine so F rfl (o_appendXN F O rfl rfl Try.underlying40 Try.elem_9 (by decide) 0 rfl (O.arr 4 (es := scan l22) rfl encStr_len (by decide)) (O.rowForm 4 rfl) encStr_len (by first | omega | (simp; omega)) (fun _ => rfl) (by unfold maxLen; omega) (by omega) rfl fun p61 k61 w O a F => ?_)
      have hst : ([]) ++ (scan l22).flatMap encStr = (scan l22).flatMap encStr := by simp
      have O := O.setR 0 rfl (congrArg (Res.row 9 1 (.slice p61 (0 + N25) k61) (0 + N25)) hst)
      have O : Own w0 [] [.row 9 1 (.slice p61 (0 + N25) k61) (0 + N25) ((scan l22).flatMap encStr), .row 9 1 (.slice P55 N55 C55) N55 ((scan ((l22.take ((used (scan l22) : Int) : Int).toNat) ++ (lFrame (([114]) ++ ([UInt8.ofNat ((cn2 : Int) % 256 : Int).toNat]))))).flatMap encStr), .cells b45 [.int .u8 ((cn2 : Int) % 256)] 5, .row 9 1 (.slice P30 N30 C30) N30 ((scan l22).flatMap encStr), .row 9 1 (.slice P25 N25 C25) N25 ((scan l22).flatMap encStr)] w := O
      refine sp F (p_move rfl) rfl rfl fun a F => so F rfl (o_bslice (cs := [.string (bs (([114]) ++ ([UInt8.ofNat ((cn2 : Int) % 256 : Int).toNat])))]) F O rfl Try.underlying40 Try.sz_9 Try.zero_9 rfl rfl rfl fun b63 w O a F => ?_)
      have O : Own w0 [] [.cells b63 [.string (bs (([114]) ++ ([UInt8.ofNat ((cn2 : Int) % 256 : Int).toNat])))] 9, .row 9 1 (.slice p61 (0 + N25) k61) (0 + N25) ((scan l22).flatMap encStr), .row 9 1 (.slice P55 N55 C55) N55 ((scan ((l22.take ((used (scan l22) : Int) : Int).toNat) ++ (lFrame (([114]) ++ ([UInt8.ofNat ((cn2 : Int) % 256 : Int).toNat]))))).flatMap encStr), .cells b45 [.int .u8 ((cn2 : Int) % 256)] 5, .row 9 1 (.slice P30 N30 C30) N30 ((scan l22).flatMap encStr), .row 9 1 (.slice P25 N25 C25) N25 ((scan l22).flatMap encStr)] w := O
      refine so F rfl (o_append F O rfl rfl Try.underlying40 Try.elem_9 (by decide) 1 0 rfl rfl rfl rfl (by unfold maxLen; omega) (by omega) rfl fun p64 k64 w O a F => ?_)
      have O : Own w0 [] [.cells b63 [.string (bs (([114]) ++ ([UInt8.ofNat ((cn2 : Int) % 256 : Int).toNat])))] 9, .row 9 1 (.slice p64 ((0 + N25) + 1) k64) ((0 + N25) + 1) (((scan l22).flatMap encStr) ++ [.string (bs (([114]) ++ ([UInt8.ofNat ((cn2 : Int) % 256 : Int).toNat])))]), .row 9 1 (.slice P55 N55 C55) N55 ((scan ((l22.take ((used (scan l22) : Int) : Int).toNat) ++ (lFrame (([114]) ++ ([UInt8.ofNat ((cn2 : Int) % 256 : Int).toNat]))))).flatMap encStr), .cells b45 [.int .u8 ((cn2 : Int) % 256)] 5, .row 9 1 (.slice P30 N30 C30) N30 ((scan l22).flatMap encStr), .row 9 1 (.slice P25 N25 C25) N25 ((scan l22).flatMap encStr)] w := O
      have O := O.setR 1 rfl (show Res.row 9 1 (.slice p64 ((0 + N25) + 1) k64) ((0 + N25) + 1) (((scan l22).flatMap encStr) ++ [.string (bs (([114]) ++ ([UInt8.ofNat ((cn2 : Int) % 256 : Int).toNat])))]) = .row 9 1 (.slice p64 ((0 + N25) + 1) k64) ((0 + N25) + 1) (((scan l22) ++ [([114]) ++ ([UInt8.ofNat ((cn2 : Int) % 256 : Int).toNat])]).flatMap encStr) from by simp [encStr])
      have O : Own w0 [] [.cells b63 [.string (bs (([114]) ++ ([UInt8.ofNat ((cn2 : Int) % 256 : Int).toNat])))] 9, .row 9 1 (.slice p64 ((0 + N25) + 1) k64) ((0 + N25) + 1) (((scan l22) ++ [([114]) ++ ([UInt8.ofNat ((cn2 : Int) % 256 : Int).toNat])]).flatMap encStr), .row 9 1 (.slice P55 N55 C55) N55 ((scan ((l22.take ((used (scan l22) : Int) : Int).toNat) ++ (lFrame (([114]) ++ ([UInt8.ofNat ((cn2 : Int) % 256 : Int).toNat]))))).flatMap encStr), .cells b45 [.int .u8 ((cn2 : Int) % 256)] 5, .row 9 1 (.slice P30 N30 C30) N30 ((scan l22).flatMap encStr), .row 9 1 (.slice P25 N25 C25) N25 ((scan l22).flatMap encStr)] w := O
      refine so F rfl (o_call (vs := #[.slice P55 N55 C55, .slice p64 ((0 + N25) + 1) k64]) F Try.en_44 rfl rfl ((sameTexts_ok P55 N55 C55 (scan ((l22.take ((used (scan l22) : Int) : Int).toNat) ++ (lFrame (([114]) ++ ([UInt8.ofNat ((cn2 : Int) % 256 : Int).toNat]))))) p64 ((0 + N25) + 1) k64 ((scan l22) ++ [([114]) ++ ([UInt8.ofNat ((cn2 : Int) % 256 : Int).toNat])]) w (O.arr 2 (es := scan ((l22.take ((used (scan l22) : Int) : Int).toNat) ++ (lFrame (([114]) ++ ([UInt8.ofNat ((cn2 : Int) % 256 : Int).toNat]))))) rfl encStr_len (by decide)) (by first | omega | (simp; done) | (simp; omega) | (simp at *; omega)) (by omega) (O.arr 1 (es := (scan l22) ++ [([114]) ++ ([UInt8.ofNat ((cn2 : Int) % 256 : Int).toNat])]) rfl encStr_len (by decide)) (by first | omega | (simp; done) | (simp; omega) | (simp at *; omega)) (by omega)).mono ?_))
      rintro e w ⟨rfl, K⟩
      refine ⟨_, rfl, fun a F => ?_⟩
      have O : Own w0 [] [.cells b63 [.string (bs (([114]) ++ ([UInt8.ofNat ((cn2 : Int) % 256 : Int).toNat])))] 9, .row 9 1 (.slice p64 ((0 + N25) + 1) k64) ((0 + N25) + 1) (((scan l22) ++ [([114]) ++ ([UInt8.ofNat ((cn2 : Int) % 256 : Int).toNat])]).flatMap encStr), .row 9 1 (.slice P55 N55 C55) N55 ((scan ((l22.take ((used (scan l22) : Int) : Int).toNat) ++ (lFrame (([114]) ++ ([UInt8.ofNat ((cn2 : Int) % 256 : Int).toNat]))))).flatMap encStr), .cells b45 [.int .u8 ((cn2 : Int) % 256)] 5, .row 9 1 (.slice P30 N30 C30) N30 ((scan l22).flatMap encStr), .row 9 1 (.slice P25 N25 C25) N25 ((scan l22).flatMap encStr)] w := O.call0 K
      clear K
      have c65 : (scan ((l22.take ((used (scan l22) : Int) : Int).toNat) ++ (lFrame (([114]) ++ ([UInt8.ofNat ((cn2 : Int) % 256 : Int).toNat]))))) = ((scan l22) ++ [([114]) ++ ([UInt8.ofNat ((cn2 : Int) % 256 : Int).toNat])]) := by rw [lFrame_ok (by simp)]; exact scan_more l22 ⟨by simp, by simp⟩
      have F := F.setB (d := 65) rfl (decide_eq_true c65)
      have O : Own w0 [] [.cells b63 [.string (bs (([114]) ++ ([UInt8.ofNat ((cn2 : Int) % 256 : Int).toNat])))] 9, .row 9 1 (.slice p64 ((0 + N25) + 1) k64) ((0 + N25) + 1) (((scan l22) ++ [([114]) ++ ([UInt8.ofNat ((cn2 : Int) % 256 : Int).toNat])]).flatMap encStr), .row 9 1 (.slice P55 N55 C55) N55 ((scan ((l22.take ((used (scan l22) : Int) : Int).toNat) ++ (lFrame (([114]) ++ ([UInt8.ofNat ((cn2 : Int) % 256 : Int).toNat]))))).flatMap encStr), .cells b45 [.int .u8 ((cn2 : Int) % 256)] 5, .row 9 1 (.slice P30 N30 C30) N30 ((scan l22).flatMap encStr), .row 9 1 (.slice P25 N25 C25) N25 ((scan l22).flatMap encStr)] w := O
      refine sp F (p_move rfl) rfl rfl fun a F => sp F (p_move rfl) rfl rfl fun a F => sp F (p_move rfl) rfl rfl fun a F => sp F (p_move rfl) rfl rfl fun a F => sp F (p_len_b rfl Try.underlying9) rfl rfl fun a F => sp F (p_add rfl rfl (by omega) (by omega)) rfl rfl fun a F => sp F (p_add rfl rfl (by omega) (by omega)) rfl rfl fun a F => sp F (p_eql rfl rfl) rfl rfl fun a F => ?_
      have c73 : (used (scan ((l22.take ((used (scan l22) : Int) : Int).toNat) ++ (lFrame (([114]) ++ ([UInt8.ofNat ((cn2 : Int) % 256 : Int).toNat]))))) : Int) = (((used (scan l22) : Int) + ((([114]) ++ ([UInt8.ofNat ((cn2 : Int) % 256 : Int).toNat])).length : Int)) + 2) := by rw [lFrame_ok (by simp)]; have h9 := scan_more l22 (r := [114] ++ [UInt8.ofNat ((cn2 : Int) % 256 : Int).toNat]) ⟨by simp, by simp⟩; have h8 := congrArg (fun z => ((used z : Nat) : Int)) h9; simp only [used_snoc] at h8; refine h8.trans ?_; simp; omega
      have F := F.setB (d := 73) rfl (decide_eq_true c73)
      refine sp F (p_pick (t := true) rfl rfl) rfl rfl fun a F => sp F (p_assign rfl) rfl rfl fun a F => c_nil (hK11 _ _ (?_))
      try clear hK11 K11
      refine wp_ret (ret1 F rfl rfl (?_))
      have O : Own w0 [] [] w := (O.take 0)
      exact ⟨rfl, O⟩

set_option maxRecDepth 100000 in
theorem scanMore_lifted (os : Os) (started : os.Started) (H : Type) (enc : TypeId × Value → H) :
    ReturnsInHanded {} Try.checked os 22 .any (Rows.fnScanMoreSpec.pre6 enc Try.prog Try.f22 Rows.fnScanMoreRow.domain false) (Rows.fnScanMoreSpec.post enc Try.prog Try.f22 false true false false) := by
  have e0 : Rows.fnScanMoreRow.domain = [] := rfl
  rw [e0]
  refine lifted_of (C := Try.checked) Try.facts started (by kernel_rfl) Try.func22 rfl ?_ (tb := 4) (by kernel_rfl) Try.underlying4 (by kernel_rfl)
    (ChangeSpec.witness6 (enc := enc) (C := Try.checked) false ⟨#[], #[.slice none 0 0, .slice none 0 0], []⟩ 8 (by kernel_rfl) (by kernel_rfl) (by kernel_rfl) (by kernel_rfl)) ?_
  · intro ds hds
    match ds, hds with
    | [_, _], _ => rfl
  intro W base args ds p hval0 hA0
  have hval : ∀ (j : Nat) t v, Try.f22.params[j]? = some t → args[j]? = some v → Value.okWide Try.prog W .any base t v := hval0
  have hA : DataW.TrodAll enc Try.prog W 0 (fun _ => true) true Try.f22.params.toList args.toList ds p := hA0
  clear hA0 hval0
  show Calls Try.prog 22 args W _
  rw [Try.params22] at hA hval
  obtain ⟨v0, v1, d0, d1, p0, p1, hargs, rfl, rfl, h0, h1⟩ := trodAll_two hA
  obtain rfl : args = #[v0, v1] := by cases args; simp_all
  obtain ⟨a, n, c, rfl, hC⟩ := open_codeIn (hval 0 34 v0 rfl rfl) h0
  obtain ⟨a2, n2, c2, rfl, hC2⟩ := open_codeIn (hval 1 34 v1 rfl rfl) h1
  exact (scanMore_ok a n c a2 n2 c2 W hC hC2).mono fun e w' h => ⟨h.1, h.2.below⟩

theorem scanMore_pkg : ¬ Check.packageOf Try.f22.name = "main" := by
  intro h
  have h2 := congrArg String.toList h
  simp only [Check.packageOf, Try.f22] at h2
  simp at h2

theorem scanMore_closed : lawFacts Try.prog 22 Try.f22 Rows.fnScanMoreSpec Rows.fnScanMoreRow = true := by kernel_rfl
theorem scanMore_facts : joinedFacts Try.pinned.checked.prog 22 Try.f22 Rows.fnScanMoreSpec Rows.fnScanMoreRow = true := facts_of (P := Try.prog) Try.facts scanMore_closed

theorem scanMore_wrap : Func.isWrapper Try.pinned.checked.prog Try.f22 Rows.fnScanMoreRow.wrapper Rows.fnScanMoreRow.mainSum := by
  have e1 : Rows.fnScanMoreRow.wrapper = false := rfl
  have e2 : Rows.fnScanMoreRow.mainSum = "" := rfl
  rw [e1, e2]
  exact wrapper_of Try.pinned.checked.prog Try.f22 scanMore_pkg

/-- The statement. -/
theorem scanMore_over : Rows.fnScanMoreRow.holds Try.pinned (OpenSpec.ofChange Rows.fnScanMoreSpec) :=
  OpenClaim.holds_of_wide 22 Try.f22 rfl rfl rfl rfl rfl rfl rfl ⟨rfl, rfl, rfl, rfl, rfl⟩ rfl rfl rfl rfl rfl (by kernel_rfl) Try.func22 scanMore_facts
    (of_decide_eq_true (by kernel_rfl)) scanMore_wrap
    (fun os started H enc _ => scanMore_lifted os started H enc)
theorem scanMore_holds : Rows.FnScanMoreSaid := scanMore_over
#print axioms scanMore_holds

end Go.Proofs.Ytklgkfknifkbaaa
