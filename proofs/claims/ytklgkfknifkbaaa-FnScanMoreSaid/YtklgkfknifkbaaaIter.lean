/- The iterator over the frames of bytes: it yields the records that are read, in order, each with the place where its frame ends. -/
import Derived.RangeFuncBox
import Derived.RangeFuncNested
import Derived.RangeFuncLeaves
import Derived.Shelf.Abstract
import Derived.Shelf.RegionOpen
import Derived.OwnWalkIn
import Derived.TacticsInMore
import Derived.LoopNIn
import Derived.LoopIn
import Derived.Test.YtklgkfknifkbaaaIterLem
import Derived.RegionIn
import Derived.Deep.DeepMust
import Derived.Stop.RegionWithIn
namespace Go.Proofs.Ytklgkfknifkbaaa
set_option linter.unusedVariables false
set_option linter.unusedSimpArgs false
open Go.RowKit Go.Shelf

attribute [local go_sem] Oper.semAt_some

theorem none_calls : (∀ f : FuncId, (none : Option FuncId) = some f → Fence.wide.fn f) = True := by simp
attribute [local go_sem] none_calls

/-- The records with the places where their frames end. -/
def ends : Nat → List (List UInt8) → List (ByteArray × Nat)
  | _, [] => []
  | k, r :: rs => (⟨r.toArray⟩, k + r.length + 2) :: ends (k + r.length + 2) rs
theorem ends_length (k : Nat) (rs : List (List UInt8)) : (ends k rs).length = rs.length := by
  induction rs generalizing k with
  | nil => rfl
  | cons r rs ih => simp [ends, ih]
theorem ends_snoc (k : Nat) (rs : List (List UInt8)) (r : List UInt8) : ends k (rs ++ [r]) = ends k rs ++ [(⟨r.toArray⟩, k + used rs + r.length + 2)] := by
  induction rs generalizing k with
  | nil => simp [ends, used]
  | cons a rs ih =>
    rw [List.cons_append, ends, ih, ends, used_cons, List.cons_append]
    congr 4
    omega
theorem ends_append (k : Nat) (rs rs' : List (List UInt8)) : ends k (rs ++ rs') = ends k rs ++ ends (k + used rs) rs' := by
  induction rs generalizing k with
  | nil => simp [ends, used]
  | cons a rs ih =>
    rw [List.cons_append, ends, ih, ends, used_cons, List.cons_append]
    congr 3
    omega

abbrev encs (p : ByteArray × Nat) : Array Value := #[.string p.1, .int .i64 p.2]
/-- What a round keeps: the cell from which the iterator reads its bytes. -/
def KeepB (b : Nat) (W W' : World) : Prop := W'.cell? ⟨b, 0, none⟩ = W.cell? ⟨b, 0, none⟩

theorem grown_none {W W' : World} (h : Below W.heap.size W W') : W.grownBy W' none := ⟨h.os, h.tape, h.output, h.size, fun k hk _ => h.block k hk⟩

theorem yielded_of {J Jx K : Prop} {e : Ending} (h : (e = .returned (.bool true) ∧ J ∧ K) ∨ (e = .returned (.bool false) ∧ Jx)) :
    ∃ b : Bool, e = .returned (.bool b) ∧ (b = true → J ∧ K) ∧ (b = false → Jx) := by
  rcases h with ⟨h, h1⟩ | ⟨h, h1⟩
  · exact ⟨true, h, fun _ => h1, fun h' => absurd h' (by decide)⟩
  · exact ⟨false, h, fun h' => absurd h' (by decide), fun _ => h1⟩

set_option maxRecDepth 100000 in
set_option maxHeartbeats 2000000 in
theorem frames1_in (n : Nat) (hn : 2 ≤ n) (l Bn : Nat) (s : ByteArray) (hs : s.size ≤ 1048576) (J Jx : List (ByteArray × Nat) → World → Prop) (W0 : World) (hJ : AbidesFrom W0.heap.size J)
    (hY : ∀ pre x W, J pre W → pre.length < (ends 0 (scan s.data.toList)).length → YieldAt Fence.wide (n - 1) Try.prog l (encs x) W fun e W' =>
      (e = .returned (.bool true) ∧ J (pre ++ [x]) W' ∧ KeepB Bn W W') ∨ (e = .returned (.bool false) ∧ Jx (pre ++ [x]) W'))
    (hBn : W0.cell? ⟨Bn, 0, none⟩ = some (.string s)) (h0 : J [] W0) :
    CallsIn Fence.wide n Try.prog 62 #[.func (.yield l) #[] #[], .pointer (some ⟨Bn, 0, none⟩)] W0 fun e W' => (∃ v, e = .returned v) ∧
      ((∃ ys, ys = ends 0 (scan s.data.toList) ∧ J ys W') ∨ (∃ pre, pre <+: ends 0 (scan s.data.toList) ∧ Jx pre W')) := by
  refine callsIn_of_wp Try.func62 rfl trivial ?_ rfl
  simp only [Try.ntmps62, List.size_toArray, List.length_cons, List.length_nil, Nat.reduceAdd, Nat.reduceSub, Array.replicate_succ, Array.replicate_zero, List.push_toArray, List.append_toArray, List.nil_append, List.cons_append]
  gi_wp2
  gi_loopw [3] (fun p wr => ∃ (k : Nat) (rs : List (List UInt8)), p = .int .i64 k ∧ At s.data.toList k rs ∧ wr.cell? ⟨Bn, 0, none⟩ = some (.string s) ∧ J (ends 0 rs) wr)
    (fun p _ => s.size - (intOf p).toNat)
  case atStart =>
    exact ⟨0, [], rfl, At.start _, hBn, h0⟩
  case round =>
    obtain ⟨k, rs, rfl, hat, hc, hJs⟩ := hrel
    have hk : k ≤ s.size := by have := hat.1; have := lenL s; omega
    by_cases hlt : k < s.size
    · have hb0 : (s[k].toNat : Int) < 256 := by have := s[k].toNat_lt; omega
      by_cases hn : 1 ≤ s[k].toNat ∧ s[k].toNat ≤ 12
      · have hI : inR (s[k].toNat : Int) 1 12 = true := by simp [inR]; omega
        by_cases hf : k + s[k].toNat + 2 ≤ s.size
        · gi_wp2_with (refine ⟨trivial, fun _ => by omega, ?_⟩; gi_at_call 51; refine (callsIn_wide.2 (inRange_any _ _ _ _)).mono ?_; rintro e w' ⟨rfl, rfl⟩)
          have q1 : IntKind.i64.wrap ((k : Int) + (s[k].toNat : Int) + 2 - 1) = (k : Int) + (s[k].toNat : Int) + 2 - 1 := IntWalk.i64_in _ (by omega)
          have q3 : ((k : Int) + (s[k].toNat : Int) + 2 - 1).toNat = k + s[k].toNat + 1 := by omega
          have q5 : (0 : Int) ≤ (k : Int) + (s[k].toNat : Int) + 2 - 1 := by omega
          have q7 : (k : Int) + (s[k].toNat : Int) + 2 - 1 < (s.size : Int) := by omega
          have q6 : k + s[k].toNat + 1 < s.size := by omega
          have hex : s.extract (k + 1) (k + s[k].toNat + 1) = s.extract (k + 1) (k + 1 + s[k].toNat) := by congr 1; omega
          have hix : (s[k + s[k].toNat + 1]'q6) = (s[k + 1 + s[k].toNat]'(by omega)) := by congr 1; omega
          have hch : ∀ W : World, Calls Try.prog 54 #[.string (s.extract (k + 1) (k + s[k].toNat + 1))] W fun e w' => e = .returned (.int .u8 (chk (s.extract (k + 1) (k + 1 + s[k].toNat)).data.toList : Nat)) ∧ Below W.heap.size W w' := fun W => by
            rw [hex]
            exact checkOf_any _ W (by simp [ByteArray.size_extract]; omega)
          have hrl : (s.extract (k + 1) (k + 1 + s[k].toNat)).data.toList.length = s[k].toNat := by rw [b_rec, List.length_take, List.length_drop, lenL]; omega
          by_cases hck : (s[k + 1 + s[k].toNat]'(by omega)).toNat = chk (s.extract (k + 1) (k + 1 + s[k].toNat)).data.toList
          · have hne := hat.next (b_right hlt hn.1 hn.2 hf hck)
            have hsc := hat.2.2
            rw [scan_some (b_right hlt hn.1 hn.2 hf hck)] at hsc
            have hus := hat.2.1
            obtain ⟨c, hcc⟩ : ∃ c, chk (s.extract (k + 1) (k + 1 + s[k].toNat)).data.toList = c := ⟨_, rfl⟩
            rw [hcc] at hck
            rw [hcc] at hch
            have hB : (((s[k + s[k].toNat + 1]'q6).toNat : Int) != (c : Int)) = false := by rw [hix, hck]; simp
            have hlen : (ends 0 rs).length < (ends 0 (scan s.data.toList)).length := by rw [ends_length, ends_length, hsc]; simp
            have HL := Lib.hid hlen
            have hec : ((k + s[k].toNat + 2 : Nat) : Int) = (k : Int) + (s[k].toNat : Int) + 2 := by omega
            have EC := Lib.hid hec
            have hC := Lib.hid hch
            rw [hrl] at hne
            have HN := Lib.hid hne
            have hq : ends 0 (rs ++ [(s.extract (k + 1) (k + 1 + s[k].toNat)).data.toList]) = ends 0 rs ++ [(s.extract (k + 1) (k + s[k].toNat + 1), k + s[k].toNat + 2)] := by
              rw [ends_snoc, hus, hrl, hex, Nat.zero_add]
            have hp : ends 0 rs ++ [(s.extract (k + 1) (k + s[k].toNat + 1), k + s[k].toNat + 2)] <+: ends 0 (scan s.data.toList) := by
              rw [← hq, hsc]
              exact ⟨ends (0 + used (rs ++ [(s.extract (k + 1) (k + 1 + s[k].toNat)).data.toList])) _, by rw [← ends_append, List.append_assoc, List.singleton_append, hrl]⟩
            have HQ := Lib.hid hq
            have HP := Lib.hid hp
            have HS := Lib.hid hsc
            have HU := Lib.hid hus
            have HE := Lib.hid hex
            have HR := Lib.hid hrl
            clear hq hp hlen hec hch hne hsc hus hex hrl hcc hck hix
            have e21 : k + s[k].toNat + 2 - 1 = k + s[k].toNat + 1 := by omega
            simp only [e21]
            clear e21
            gi_region_with (first
              | (refine ⟨trivial, fun _ => by omega, ?_⟩; gi_at_call 54; refine (callsIn_wide.2 (hC.out _)).mono ?_; rintro e w4 ⟨rfl, hb4⟩; go_must (have hb5 : Below wr.heap.size wr w4 := (Below.drew (Below.refl _ _)).trans hb4; have hJ4 : J (ends 0 rs) w4 := hJ (ends 0 rs) wr w4 none hJs (grown_none hb5) (fun r hr => absurd hr (by simp)); have hc4 : w4.cell? ⟨Bn, 0, none⟩ = some (.string s) := keep_cell hb5 hc; obtain ⟨fn, tmps, assign, body, hy, hR⟩ := hY (ends 0 rs) (s.extract (k + 1) (k + s[k].toNat + 1), k + s[k].toNat + 2) w4 hJ4 HL.out; dsimp only [encs] at hy; rw [EC.out] at hy))
              | (refine ⟨fun _ => by omega, ?_⟩; refine hR.mono ?_; intro e W3 h3; obtain ⟨b, rfl, hT, hF⟩ := yielded_of h3))
            all_goals (cases b)
            all_goals (first
              | (obtain ⟨hJ3, hk3⟩ := hT rfl
                 clear hT hF
                 have hc3 : W3.cell? ⟨Bn, 0, none⟩ = some (.string s) := hk3.trans hc4
                 gi_wp2
                 go_roundw
                 case rel => exact ⟨k + s[k].toNat + 2, _, by go_num, HN.out, hc3, by rw [HQ.out]; exact hJ3⟩
                 case measure => simp [intOf]; omega)
              | (have hx3 := hF rfl
                 clear hT hF
                 gi_wp2
                 refine bodyPost_ret (results_none rfl _ _ _) rfl ?_
                 exact ⟨⟨_, rfl⟩, .inr ⟨_, HP.out, hx3⟩⟩))
          · obtain ⟨hs1, hs2⟩ := hat.stop (b_wrong hlt hf hck)
            obtain ⟨c, hcc⟩ : ∃ c, chk (s.extract (k + 1) (k + 1 + s[k].toNat)).data.toList = c := ⟨_, rfl⟩
            rw [hcc] at hck
            rw [hcc] at hch
            obtain ⟨bb, hB, hbb⟩ : ∃ bb : Bool, (((s[k + s[k].toNat + 1]'q6).toNat : Int) != (c : Int)) = bb ∧ bb = true := ⟨_, rfl, by rw [hix]; simp; omega⟩
            have hC := Lib.hid hch
            have H1 := Lib.hid hs1
            clear hch hs1 hs2 hex hrl hcc hck hix
            have e21 : k + s[k].toNat + 2 - 1 = k + s[k].toNat + 1 := by omega
            simp only [e21]
            clear e21
            first | (gi_region_with (first | (refine ⟨trivial, fun _ => by omega, ?_⟩; gi_at_call 54; refine (callsIn_wide.2 (hC.out _)).mono ?_; rintro e w4 ⟨rfl, hb4⟩; have hb5 : Below wr.heap.size wr w4 := (Below.drew (Below.refl _ _)).trans hb4; have hJ4 : J (ends 0 rs) w4 := hJ (ends 0 rs) wr w4 none hJs (grown_none hb5) (fun r hr => absurd hr (by simp)); have hc4 : w4.cell? ⟨Bn, 0, none⟩ = some (.string s) := keep_cell hb5 hc) | (refine ⟨fun _ h => absurd h (by simp), ?_⟩))) | (fail)
            all_goals gi_wp2
            all_goals (refine bodyPost_ret (results_none rfl _ _ _) rfl ?_)
            all_goals exact ⟨⟨_, rfl⟩, .inl ⟨_, by rw [H1.out], hJ4⟩⟩
        · obtain ⟨hs1, hs2⟩ := hat.stop (b_short hlt (by omega))
          have H1 := Lib.hid hs1
          clear hs1 hs2
          gi_wp2_with (refine ⟨trivial, fun _ => by omega, ?_⟩; gi_at_call 51; refine (callsIn_wide.2 (inRange_any _ _ _ _)).mono ?_; rintro e w' ⟨rfl, rfl⟩)
          refine bodyPost_ret (results_none rfl _ _ _) rfl ?_
          exact ⟨⟨_, rfl⟩, .inl ⟨_, by rw [H1.out], hJs⟩⟩
      · have hI : inR (s[k].toNat : Int) 1 12 = false := by simp [inR]; omega
        obtain ⟨hs1, hs2⟩ := hat.stop (b_bad hlt hn)
        have H1 := Lib.hid hs1
        clear hs1 hs2 hn
        gi_wp2_with (refine ⟨trivial, fun _ => by omega, ?_⟩; gi_at_call 51; refine (callsIn_wide.2 (inRange_any _ _ _ _)).mono ?_; rintro e w' ⟨rfl, rfl⟩)
        refine bodyPost_ret (results_none rfl _ _ _) rfl ?_
        exact ⟨⟨_, rfl⟩, .inl ⟨_, by rw [H1.out], hJs⟩⟩
    · obtain ⟨hs1, hs2⟩ := hat.stop (b_end (by omega))
      have H1 := Lib.hid hs1
      clear hs1 hs2
      gi_wp2
      go_end0
      exact ⟨⟨_, rfl⟩, .inl ⟨_, by rw [H1.out], hJs⟩⟩

end Go.Proofs.Ytklgkfknifkbaaa
