/- A record drawn from a code: at most 13 bytes. -/
import Derived.Test.YtklgkfknifkbaaaOpen
import Derived.Maps.AppendAt
import Derived.Deep.DeepMust
namespace Go.Proofs.Ytklgkfknifkbaaa
set_option linter.unusedVariables false
set_option linter.unusedSimpArgs false
open Go.RowKit

theorem Try.infoU8 : (Try.prog.info? 5).map (fun i => (i.zero, i.size, i.bytes)) = some (some (.int .u8 0), 1, 1) := by kernel_rfl

/-- Bytes of the call's own, made a text. -/
theorem own_text {w : World} {base n : Nat} {v : Value} {l : List UInt8} (h : w.ownsRow base 5 1 v n (l.map fun b => .int .u8 b.toNat)) (hn : n ≤ 13) :
    ∃ s : ByteArray, s.size ≤ 13 ∧ (convert 34 9 v).run Try.prog w = .ok (.string s) w := by
  have hl : l.length = n := by have := h.1; simpa using this
  rcases h.2 with ⟨rfl, h0⟩ | ⟨b, cap, cur, rfl, _, _, _⟩
  · exact ⟨ByteArray.empty, by simp, run_convert_bytes_nil w 34 5 Try.underlying34 Try.underlying5 0 0 9 Try.underlying9⟩
  · subst hl
    refine ⟨⟨l.toArray⟩, by simpa [ByteArray.size] using hn, run_convert_bytes_back w 34 9 5 ⟨b, 0, none⟩ cap l Try.underlying34 Try.underlying5 Try.underlying9 fun j hj => ?_⟩
    exact h.cells (g := b) rfl j _ (by simp [hj])

set_option maxHeartbeats 400000 in
theorem l91Record_any (g p : Nat) (w : World) (h : Rd w g p) (hp : p ≤ 900000) :
    Calls Try.prog 55 #[.pointer (some ⟨g, 0, none⟩)] w fun e w' =>
      ∃ (s : ByteArray) (q : Nat), e = .returned (.string s) ∧ s.size ≤ 13 ∧ q ≤ p + 40 ∧ w.grownBy w' (some g) ∧ Rd w' g q := by
  obtain ⟨i0, hi, hz0, hz1, hz2⟩ := info_parts Try.infoU8
  go_enter Try.func55, Try.ntmps55
  go_wp2_with fail
  refine (pick_any g p 8 w h (by omega) (by omega) (by omega)).mono ?_
  rintro e w1 ⟨⟨r1, hr1, rfl⟩, hg1, hR1⟩
  go_wp2_with fail
  refine (pick_any g (p + 1) 16 w1 hR1 (by omega) (by omega) (by omega)).mono ?_
  rintro e w2 ⟨⟨r2, hr2, rfl⟩, hg2, hR2⟩
  go_upto_if 11 with fail
  go_cut [3] (fun n wx => ∃ m q : Nat, m ≤ 13 ∧ n = .int .i64 m ∧ w.grownBy wx (some g) ∧ Rd wx g q ∧ q ≤ p + 3)
  case first =>
    go_wp2_with fail
    · refine (pick_any g (p + 1 + 1) 4 _ (hR2.alloc _) (by omega) (by omega) (by omega)).mono ?_
      rintro e w3 ⟨⟨r3, hr3, rfl⟩, hg3, hR3⟩
      have hz : w2.heap.size < w3.heap.size := by have := hg3.size; simp at this; omega
      have hcells : ∀ k, w3.cell? ⟨w2.heap.size, k, none⟩ = (w2.alloc (.cells #[.int .i64 0, .int .i64 11, .int .i64 12, .int .i64 13] 3)).cell? ⟨w2.heap.size, k, none⟩ := fun k =>
        World.cell?_of_block (hg3.block w2.heap.size (by simp) (by have := hR2.lt; simp; omega))
      have hv : ∃ m : Nat, m ≤ 13 ∧ w3.cell? ⟨w2.heap.size, r3, none⟩ = some (.int .i64 m) := by
        rw [hcells, World.cell?_alloc_at _ _ _ _ rfl]
        match r3, hr3 with
        | 0, _ => exact ⟨0, by omega, rfl⟩
        | 1, _ => exact ⟨11, by omega, rfl⟩
        | 2, _ => exact ⟨12, by omega, rfl⟩
        | 3, _ => exact ⟨13, by omega, rfl⟩
      obtain ⟨m, hm, hv⟩ := hv
      clear hcells
      go_wp2_with fail
      go_meet
      exact ⟨m, p + 3, hm, rfl, grown_trans (grown_trans hg1 hg2) (grown_trans (grown_alloc (World.grownBy.refl _ _) _) hg3), hR3, by omega⟩
    · go_meet
      exact ⟨1 + r1, p + 2, by omega, by go_num, grown_trans hg1 hg2, hR2, by omega⟩
  case rest =>
    obtain ⟨m, q, hm, rfl, hgc, hRc, hq⟩ := hcut
    go_wp2_with fail
    go_loopw [4, 5] (fun v i wr => ∃ (k q : Nat) (l : List UInt8), k ≤ m ∧ i = .int .i64 k ∧ l.length = k ∧ wr.ownsRow w.heap.size 5 1 v l.length (l.map fun b => .int .u8 b.toNat) ∧ w.grownBy wr (some g) ∧ Rd wr g q ∧ q ≤ p + 3 + 2 * k) (fun _ i _ => m - (intOf i).toNat)
    case atStart => exact ⟨0, q, [], by omega, rfl, rfl, World.ownsRow_lit wc #[] 0 hgc.size (by unfold maxLen; omega) rfl, grown_alloc hgc _, hRc.alloc _, by omega⟩
    case round =>
      obtain ⟨k, q, l, hk, rfl, hl, hown, hgr, hRr, hq⟩ := hrel
      by_cases hlt : k < m
      · go_wp2_with fail
        refine (pick_any g q 16 _ hRr (by omega) (by omega) (by omega)).mono ?_
        rintro e w4 ⟨⟨r4, hr4, rfl⟩, hg4, hR4⟩
        go_wp2_with fail
        refine (pick_any g (q + 1) 16 _ hR4 (by omega) (by omega) (by omega)).mono ?_
        rintro e w5 ⟨⟨r5, hr5, rfl⟩, hg5, hR5⟩
        have hne : ∀ {W : World} {n : Nat} {xs : List Value}, W.ownsRow w.heap.size 5 1 u4 n xs → u4.ownBlock = none ∨ u4.ownBlock ≠ some g := by
          intro W n xs ho
          cases hob : u4.ownBlock with
          | none => exact .inl rfl
          | some b => exact .inr fun e => by have := (ho.lt b hob).1; have := h.lt; simp at e; omega
        have hown5 := (hown.kept hg4 (hne hown)).kept hg5 (hne (hown.kept hg4 (hne hown)))
        have ht : r4 * r5 ≤ 225 := Nat.le_trans (Nat.mul_le_mul (show r4 ≤ 15 by omega) (show r5 ≤ 15 by omega)) (by omega)
        obtain ⟨t, hte⟩ : ∃ t : Nat, r4 * r5 = t := ⟨_, rfl⟩
        have e1 : (r4 : Int) * (r5 : Int) = (t : Int) := by rw [← hte]; simp
        rw [hte] at ht
        have e2 : IntKind.u8.wrap (t : Int) = t := by rw [IntKind.wrap_u8]; omega
        clear hte
        have c3 : l.length + 1 ≤ maxLen := by unfold maxLen; omega
        have c4 : (l.length + 1) * 1 ≤ 140737488355328 := by omega
        have hb5 : w.heap.size ≤ w5.heap.size := Nat.le_trans hgr.size (Nat.le_trans hg4.size hg5.size)
        have H3 := Lib.hid c3
        have H4 := Lib.hid c4
        clear c3 c4
        go_wp2_with (at_builtin; refine wpList_append_own _ rfl (.tmp 23) (.tmp 30) 34 rfl w.heap.size 5 i0 (.int .u8 0) 1 1 Try.underlying34 hi hz0 hz1 hz2 rfl (by decide) _ _ _ rfl (hown5.alloc _) ⟨w5.heap.size, 0, none⟩ 1 1 [.int .u8 t] rfl rfl (cell_one_new _ _ _) (by simp [Value.oneCell']) H3.out H4.out (by simp; omega) ?_; intro v6 w6 hown6 hg6 _)
        have hrow : ∀ j, u4.ownBlock = some j → w.heap.size ≤ j := fun j hj => (hown.lt j hj).1
        refine ⟨⟨k + 1, q + 2, l ++ [UInt8.ofNat t], by omega, by go_num, by simp [hl], ?_, ?_, ?_, by omega⟩, by simp [intOf]; omega⟩
        · have e3 : (UInt8.ofNat t).toNat = t := by rw [UInt8.toNat_ofNat']; omega
          simpa [e3] using hown6
        · exact grown_own (grown_alloc (grown_trans (grown_trans hgr hg4) hg5) _) hg6 hrow
        · exact (hR5.alloc _).grown hg6 (fun j hj => Nat.lt_of_lt_of_le h.lt (hrow j hj))
      · have hkm : k = m := by omega
        have hH : ∃ s : ByteArray, s.size ≤ 13 ∧ (convert 34 9 u4).run Try.prog wr = .ok (.string s) wr := own_text hown (by omega)
        obtain ⟨s, hs, hrun⟩ := hH
        go_wp2
        go_ret
        exact ⟨s, q, rfl, hs, by omega, hgr, hRr⟩

end Go.Proofs.Ytklgkfknifkbaaa
