/- The contract of the program's LogScan: the records that are read, and the number of their bytes. -/
import Derived.Test.YtklgkfknifkbaaaIter
import Derived.Test.YtklgkfknifkbaaaUsedLe
namespace Go.Proofs.Ytklgkfknifkbaaa
set_option linter.unusedVariables false
set_option linter.unusedSimpArgs false
open Go.RowKit Go.Shelf

attribute [local go_sem] Oper.semAt_some
attribute [local go_sem] none_calls

theorem frames_in (n : Nat) (s : ByteArray) (w : World) :
    CallsIn Fence.wide n Try.prog 57 #[.string s] w fun e w' => e = .returned (.func (.func 62) #[] #[.pointer (some ⟨w.heap.size, 0, none⟩)]) ∧ w' = w.alloc (.cells #[.string s] 9) := by
  refine callsIn_of_wp Try.func57 rfl trivial ?_ rfl
  simp only [Try.ntmps57, List.size_toArray, List.length_cons, List.length_nil, Nat.reduceAdd, Nat.reduceSub, Array.replicate_succ, Array.replicate_zero, List.push_toArray, List.append_toArray, List.nil_append, List.cons_append]
  gi_wp2
  go_ret
  exact ⟨rfl, rfl⟩

theorem keepB_b {w : World} {Bn : Nat} (hBn : Bn < w.heap.size) (W : World) (l : Nat) (o o' : Obj) (hl : w.heap.size ≤ l) (h : W.heap[l]? = some o) (hc : o.isCells = false) (hw : o.isWalk = false) : KeepB Bn W (W.putObj l o') :=
  (belowK_b (Nat.le_refl _) W l o o' hl h hc hw).cell (p := ⟨Bn, 0, none⟩) hBn

theorem frames_stops (n : Nat) (hn : 2 ≤ n) (Bn : Nat) (s : ByteArray) (hs : s.size ≤ 1048576) (w : World) (hBn : Bn < w.heap.size) (hc : w.cell? ⟨Bn, 0, none⟩ = some (.string s)) :
    SeqStopsK Fence.wide n Try.prog 62 #[.pointer (some ⟨Bn, 0, none⟩)] encs (KeepB Bn) (fun ys => ys = ends 0 (scan s.data.toList)) (fun pre => pre <+: ends 0 (scan s.data.toList)) (ends 0 (scan s.data.toList)).length w := fun l J Jx W hW hJ _ hY h0 =>
  frames1_in n hn l Bn s hs J Jx W hJ hY ((hW.cell (p := ⟨Bn, 0, none⟩) hBn).trans hc) h0

/-- The place where the last frame ends. -/
def lastEnd (pre : List (ByteArray × Nat)) : Int := ((pre.getLast?.map fun x => x.2).getD 0 : Nat)
theorem lastEnd_snoc (pre : List (ByteArray × Nat)) (x : ByteArray × Nat) : lastEnd (pre ++ [x]) = x.2 := by simp [lastEnd]
theorem lastEnd_ends (rs : List (List UInt8)) : lastEnd (ends 0 rs) = (used rs : Nat) := by
  rcases List.eq_nil_or_concat rs with rfl | ⟨l, r, rfl⟩
  · simp [ends, lastEnd, used]
  · rw [List.concat_eq_append, ends_snoc, lastEnd_snoc, used_snoc]
    show ((0 + used l + r.length + 2 : Nat) : Int) = _
    congr 1
    omega
theorem ends_str (k : Nat) (rs : List (List UInt8)) : (ends k rs).map (fun x => Value.string x.1) = rs.map strV := by
  induction rs generalizing k with
  | nil => rfl
  | cons r rs ih => rw [ends, List.map_cons, List.map_cons, ih]; rfl
theorem row_base {w : World} {base base' : Nat} {e : TypeId} {size : Nat} {v : Value} {n : Nat} {xs : List Value} (h : w.ownsRow base e size v n xs) (hb : base' ≤ base) : w.ownsRow base' e size v n xs := by
  refine ⟨h.1, ?_⟩
  rcases h.2 with h2 | ⟨g, cap, cur, hv, hg, r⟩
  · exact .inl h2
  · exact .inr ⟨g, cap, cur, hv, Nat.le_trans hb hg, r⟩

set_option maxRecDepth 100000 in
set_option maxHeartbeats 4000000 in
theorem implScan_in (n : Nat) (hn : 4 ≤ n) (s : ByteArray) (hs : s.size ≤ 1048576) (w : World) :
    CallsIn Fence.wide n Try.prog 37 #[.string s] w fun e W' => ∃ v, e = .returned (.tuple #[v, .int .i64 (used (scan s.data.toList) : Nat)]) ∧ W'.ownsRow w.heap.size 9 1 v (scan s.data.toList).length ((scan s.data.toList).map strV) ∧ Below w.heap.size w W' := by
  have h1 : 1 ≤ n := by omega
  obtain ⟨i0, hi, hz0, hz1, hz2⟩ := info_parts Try.infoStr
  refine callsIn_of_wp_marks Try.func37 rfl trivial ?_ rfl
  simp only [Try.ntmps37, List.size_toArray, List.length_cons, List.length_nil, Nat.reduceAdd, Nat.reduceSub, Array.replicate_succ, Array.replicate_zero, List.push_toArray, List.append_toArray, List.nil_append, List.cons_append]
  gi_wp2_with (refine ⟨trivial, ?_⟩; gi_at_call 57; refine (frames_in (n - 1) s _).mono ?_; rintro e w' ⟨rfl, rfl⟩)
  have bO := Boxed.new w 40 (.slice none 0 0)
  have bI := Boxed.new (w.alloc (.cells #[.slice none 0 0] 40)) 3 (.int .i64 0)
  have bN := Boxed.new ((w.alloc (.cells #[.slice none 0 0] 40)).alloc (.cells #[.int .i64 0] 3)) 9 (.string s)
  rw [World.size_alloc] at bI
  rw [World.size_alloc, World.size_alloc] at bN
  have hB0 : Below w.heap.size w (((w.alloc (.cells #[.slice none 0 0] 40)).alloc (.cells #[.int .i64 0] 3)).alloc (.cells #[.string s] 9)) := (((Below.refl _ w).alloc (Nat.le_refl _) _).alloc (by simp) _).alloc (by simp; omega) _
  have hle : (ends 0 (scan s.data.toList)).length ≤ 1048576 := by
    rw [ends_length]
    have h2 := length_used (scan s.data.toList)
    have h3 := used_le s.data.toList
    have h4 := lenL s
    omega
  refine wpIn_rangeFunc_ownG rfl h1 (gf := 62) (lb := #[.pointer (some ⟨w.heap.size + 1 + 1, 0, none⟩)]) rfl trivial (enters_of Try.func62 (by kernel_rfl) rfl)
    (frames_stops (n - 1) (by omega) (w.heap.size + 1 + 1) s hs _ (by simp) bN.cell) (fun h k => k.trans h) (keepB_b (by simp)) (Below.refl _ _) ?hps
    (fun (pre : List (ByteArray × Nat)) W => ((∃ v, Boxed W w.heap.size 40 v ∧ W.ownsRow (w.heap.size + 3) 9 1 v pre.length (pre.map fun x => Value.string x.1) ∧ True) ∧ Boxed W (w.heap.size + 1) 3 (.int .i64 (lastEnd pre))) ∧ Below w.heap.size w W ∧ w.heap.size + 3 ≤ W.heap.size)
    (fun _ _ _ => False)
    (OwnFrom.and (OwnFrom.and (Go.Own.from (holdsRow_own (w.heap.size + 3) w.heap.size 40 9 1 (fun (pre : List (ByteArray × Nat)) => pre.length) (fun pre => pre.map fun x => Value.string x.1) (fun pre v => True)) _) (Go.Own.from (boxed_own _ _ (fun pre => .int .i64 (lastEnd pre))) _)) (OwnFrom.and (ownFrom_below (Nat.le_refl _) (by simp; omega)) (fun _ _ _ _ hs hg _ => Nat.le_trans hs hg.size)))
    (fun _ _ _ _ _ hs _ _ => hs)
    ⟨⟨⟨_, (bO.alloc _).alloc _, World.ownsRow_nil _ _ _ _, trivial⟩, bI.alloc _⟩, hB0, by simp⟩
    (fun x => { tmps := #[.string s, undef, .slice none 0 0, .int .i64 0, .pointer (some ⟨w.heap.size, 0, none⟩), .pointer (some ⟨w.heap.size + 1, 0, none⟩), .string x.1, .int .i64 x.2, .string s, .func (.func 62) #[] #[.pointer (some ⟨w.heap.size + 1 + 1, 0, none⟩)], .string x.1, .int .i64 x.2, undef, undef, undef, undef, undef, undef, undef], defers := [] }) ?assign ?body ?done ?stop
  case hps => exact fun _ => rfl
  case assign =>
    intro l x W K hK
    gi_wp2
    exact hK
  case body =>
    rintro l pre x W ⟨⟨⟨v, hv, hrow, _⟩, hm⟩, hB, hsz⟩ hlt
    have hc := hv.cell
    have c3 : pre.length + 1 ≤ maxLen := by unfold maxLen; omega
    have c4 : (pre.length + 1) * 16 ≤ 140737488355328 := by omega
    have H3 := Lib.hid c3
    have H4 := Lib.hid c4
    clear c3 c4
    gi_wp2_with (gi_at_builtin; refine wpListIn_append_own _ rfl _ _ 40 rfl (w.heap.size + 3) 9 i0 (.string ⟨#[]⟩) 1 16 Try.underlying40 hi hz0 hz1 hz2 rfl (by decide) _ _ _ rfl (hrow.alloc _) ⟨W.heap.size, 0, none⟩ 1 1 [.string x.1] rfl rfl (cell_one_new _ _ _) (by simp [Value.oneCell']) H3.out H4.out (by simp; omega) ?_; intro v' w1 hown' hgrow _; obtain ⟨g', cap', rfl⟩ := ownsRow_succ hown'; obtain ⟨hv1, hv2, hr2, hk2, hb2⟩ := hv.appended (n₀ := w.heap.size) (by decide) (row_base hrow (by omega)) hB.size (Nat.le_refl _) (row_base hown' (by omega)) hgrow; have hc1 := hv1.cell; have hf1 := hv1.frozen; have hm1 := (hm.alloc _).kept hgrow (hm.not_row (by decide) hrow); have hm2 := hm1.other (show w.heap.size + 1 ≠ w.heap.size by omega) (.slice (some ⟨g', 0, none⟩) (pre.length + 1) cap'); have hcm2 := hm2.cell; have hfm2 := hm2.frozen)
    have hr3 := hown'.kept (grownBy_setCell' w1 w.heap.size (.slice (some ⟨g', 0, none⟩) (pre.length + 1) cap')) (.inr (hv1.not_row (by decide) hown').symm)
    have hr4 := hr3.kept (grownBy_setCell' _ (w.heap.size + 1) (.int .i64 x.2)) (.inr (hm2.not_row (by decide) hr3).symm)
    have hkb : KeepB (w.heap.size + 1 + 1) W w1 := (World.cell?_of_block (hgrow.block (w.heap.size + 1 + 1) (by simp; omega) (fun e => by have := (hrow.lt _ e.symm).1; omega))).trans (World.cell?_alloc_lt W _ ⟨w.heap.size + 1 + 1, 0, none⟩ (by show w.heap.size + 1 + 1 < W.heap.size; omega))
    refine ⟨(hk2.from _).trans ((KeepsOthers.setCell _ _ _).from _), ?_, ⟨⟨_, hv2.other (by omega) _, ?_, trivial⟩, ?_⟩, hB.trans (hb2.trans ((Below.refl w.heap.size _).setCell (p := ⟨w.heap.size + 1, 0, none⟩) (by simp) _)), ?_⟩
    · unfold KeepB
      rw [World.cell?_setCell_other _ ⟨w.heap.size + 1, 0, none⟩ ⟨w.heap.size + 1 + 1, 0, none⟩ _ (by simp), World.cell?_setCell_other _ ⟨w.heap.size, 0, none⟩ ⟨w.heap.size + 1 + 1, 0, none⟩ _ (by simp)]
      exact hkb
    · rw [List.length_append, List.map_append]
      exact hr4
    · rw [lastEnd_snoc]
      exact hm2.set _
    · have := hb2.size
      simp at this ⊢
      omega
  case done =>
    rintro D ys W hD rfl ⟨⟨⟨v, hv, hrow, _⟩, hm⟩, hB, hsz⟩ hK
    have hc := hv.cell
    have hc2 := hm.cell
    gi_wp2
    gi_quiet (skip)
    gi_wp2
    have hK' : (W.drewN nq).heap[D]? = some (.deferred (some [])) := hK
    have hr2 : (W.drewN nq).ownsRow (w.heap.size + 3) 9 1 v (ends 0 (scan s.data.toList)).length ((ends 0 (scan s.data.toList)).map fun x => Value.string x.1) := hrow
    have hB2 : Below w.heap.size w (W.drewN nq) := ⟨hB.os, hB.tape, hB.output, hB.size, hB.block⟩
    rw [ends_length, ends_str] at hr2
    refine ⟨by simp, .inl ⟨_, _, rfl, run_takeDeferred hK', ?_⟩⟩
    refine ⟨.tuple #[v, .int .i64 (lastEnd (ends 0 (scan s.data.toList)))], by simp [results, Try.results37, go_sem], v, by rw [lastEnd_ends], row_base (ownsRow_putObj hr2 _ hK' rfl) (by omega), hB2.trans (belowK_b (w := w) (Nat.le_refl _) (W.drewN nq) D _ _ (by simp at hD; omega) hK' rfl rfl)⟩
  case stop =>
    rintro D c pre W _ _ h _
    exact h.elim

end Go.Proofs.Ytklgkfknifkbaaa
