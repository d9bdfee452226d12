/- More rules of the small logic of steps: rows that are written, made, cut, appended; function values. No conditions. -/
import Derived.Test.YtbhidkcljekobaaG
import Derived.Laws.OwnMore
import Derived.Laws.MakeOwn
import Derived.Laws.Cover3
import Derived.Laws.BitsAllLaws
import Derived.Laws.Small
namespace Go.Proofs.Ytbhidkcljekobaa
set_option linter.unusedVariables false
set_option linter.unusedSimpArgs false
open Go.RowKit
set_option linter.unusedVariables false
set_option linter.unusedSimpArgs false

section
variable {α : Type} {enc : α → List Value} {sz : Nat}
theorem flat_set (hl : ∀ e, (enc e).length = sz) : ∀ {es : List α} {k : Nat} {e e' : α} (_ : es[k]? = some e) {j : Nat} {v : Value} (_ : (enc e).set j v = enc e') (_ : j < sz), (es.flatMap enc).set (0 + k * sz + j) v = (es.set k e').flatMap enc
  | [], k, e, e', h, _, _, _, _ => by simp at h
  | a :: es, 0, e, e', h, j, v, hj, hlt => by
    simp at h; subst h
    have : j < (enc a).length := by rw [hl]; exact hlt
    simp only [Nat.zero_mul, Nat.add_zero, Nat.zero_add, List.flatMap_cons, List.set_cons_zero]
    rw [List.set_append_left _ _ this, hj]
  | a :: es, k + 1, e, e', h, j, v, hj, hlt => by
    simp at h
    have := flat_set hl h hj hlt
    simp only [List.flatMap_cons, List.set_cons_succ]
    rw [List.set_append_right _ _ (by rw [hl, Nat.add_mul]; omega), ← this, hl]
    congr 2
    rw [Nat.add_mul]; omega
theorem flat_setA (hl : ∀ e, (enc e).length = sz) : ∀ {es : List α} {k : Nat} {e' : α} (_ : k < es.length) {vs : List Value} (_ : vs = enc e'), (es.flatMap enc).take (0 + k * sz) ++ vs ++ (es.flatMap enc).drop (0 + k * sz + vs.length) = (es.set k e').flatMap enc
  | [], k, e', h, _, _ => by simp at h
  | a :: es, 0, e', h, vs, hv => by
    subst hv
    simp only [Nat.zero_mul, Nat.add_zero, Nat.zero_add, List.flatMap_cons, List.set_cons_zero, List.take_zero, List.nil_append, hl]
    rw [List.drop_append_of_le_length (by rw [hl]; omega), List.drop_of_length_le (by rw [hl]; omega)]
    simp
  | a :: es, k + 1, e', h, vs, hv => by
    simp at h
    have := flat_setA hl h hv
    simp only [List.flatMap_cons, List.set_cons_succ, ← this]
    have e1 : 0 + (k + 1) * sz = (enc a).length + (0 + k * sz) := by rw [hl, Nat.add_mul]; omega
    have e2 : 0 + (k + 1) * sz + vs.length = (enc a).length + (0 + k * sz + vs.length) := by rw [hl, Nat.add_mul]; omega
    rw [e2, e1, List.take_length_add_append, List.drop_length_add_append]
    simp
theorem flat_get_inv (hl : ∀ e, (enc e).length = sz) : ∀ {es : List α} {j : Nat} {u : Value} (_ : (es.flatMap enc)[j]? = some u), ∃ k e i, es[k]? = some e ∧ (enc e)[i]? = some u ∧ j = k * sz + i
  | [], j, u, h => by simp at h
  | a :: es, j, u, h => by
    rw [List.flatMap_cons] at h
    by_cases hj : j < (enc a).length
    · rw [List.getElem?_append_left hj] at h
      exact ⟨0, a, j, rfl, h, by simp⟩
    · rw [List.getElem?_append_right (by omega)] at h
      obtain ⟨k, e, i, h1, h2, h3⟩ := flat_get_inv hl h
      refine ⟨k + 1, e, i, by simpa using h1, h2, ?_⟩
      rw [hl] at h3 hj
      rw [Nat.add_mul]; omega
theorem made_flat {z : Array Value} {e0 : α} (hl : ∀ e, (enc e).length = sz) (hs : 0 < sz) (hz : z.toList = enc e0) (n : Nat) : (madeCells z (n * sz)).toList = (List.replicate n e0).flatMap enc := by
  have hzs : z.size = sz := by rw [← Array.length_toList, hz, hl]
  apply List.ext_getElem?
  intro j
  by_cases hj : j < n * sz
  · have hk : j / sz < n := (Nat.div_lt_iff_lt_mul hs).2 hj
    have hm : j % sz < sz := Nat.mod_lt _ hs
    have hv : (enc e0)[j % sz]? = some z[j % sz]! := by
      rw [← hz, Array.getElem?_toList]
      rw [Array.getElem?_eq_getElem (by omega), getElem!_pos z (j % sz) (by omega)]
    have h := flat_get (es := List.replicate n e0) (k := j / sz) hl (by rw [List.getElem?_replicate, if_pos hk]) hv
    have e : 0 + j / sz * sz + j % sz = j := by rw [Nat.zero_add, Nat.mul_comm]; exact Nat.div_add_mod j sz
    rw [e] at h
    rw [h]
    simp [madeCells, hj, hzs]
  · rw [List.getElem?_eq_none (by simp [madeCells]; omega), List.getElem?_eq_none (by rw [flat_len hl, List.length_replicate]; omega)]
theorem Arr.cells {w : World} {b o : Nat} {es : List α} (h : Arr w enc sz (some ⟨b, o, none⟩) es) (hl : ∀ e, (enc e).length = sz) : ∀ (j : Nat) u, (es.flatMap enc)[j]? = some u → w.cell? ⟨b, o + j, none⟩ = some u := fun j u hj => by
  obtain ⟨k, e, i, h1, h2, rfl⟩ := flat_get_inv hl hj
  obtain ⟨b', o', hp, _, hc⟩ := h (by cases es with | nil => simp at h1 | cons => simp)
  injection hp with hp
  injection hp with h3 h4
  subst h3; subst h4
  rw [← Nat.add_assoc]
  exact hc k e h1 i u h2
theorem Arr.nil {w : World} {p : Option Addr} : Arr w enc sz p ([] : List α) := fun h => by simp at h
/-- Behind a block that is not ours to write. -/
def Apart (p : Option Addr) (g : Nat) : Prop := ∀ b o, p = some ⟨b, o, none⟩ → b ≠ g
theorem Arr.keepX {w0 w : World} {X : List Nat} {Γ : List Res} {p : Option Addr} {es : List α} (h : Arr w0 enc sz p es) (O : Own w0 X Γ w) (hX : ∀ g ∈ X, Apart p g) : Arr w enc sz p es := fun h0 => by
  obtain ⟨b, o, e, hb, hc⟩ := h h0
  have hb' : b ∉ X := fun hm => hX b hm b o e rfl
  exact ⟨b, o, e, Nat.lt_of_lt_of_le hb O.size, fun k x hx j v hj => (O.old hb hb').trans (hc k x hx j v hj)⟩
theorem Arr.lt {w : World} {b o : Nat} {es : List α} (h : Arr w enc sz (some ⟨b, o, none⟩) es) (h0 : 0 < es.length) : b < w.heap.size := by
  obtain ⟨b', o', hp, hb, _⟩ := h h0
  injection hp with hp; injection hp with h1; subst h1; exact hb
end

section
variable {P : Program} {n : Nat} {Fr : List (Nat × Value)} {a : Act} {w w0 : World} {S : World → Prop} {X : List Nat} {Γ : List Res}
variable {ops : Array Oper} {rest : List Oper} {Q : Exit → Act → World → Prop} {K : Act → World → Prop} {op : Op} {t s yt ty d f : Nat} {pos : String} {aft : Array Edge} {g : Option (Nat × Bool)} {v : Value} {x y : Operand}

theorem Own.apart {w0 w : World} {X : List Nat} {Γ : List Res} (O : Own w0 X Γ w) (i j : Nat) {E sz q c gb : Nat} {p : Option Addr} {xs cs : List Value} {T : TypeId} (h : Γ[i]? = some (.row E sz (.slice p q c) q xs)) (h2 : Γ[j]? = some (.cells gb cs T)) : Apart p gb := fun b o e hb => by
  subst e; subst hb
  have hij : i ≠ j := fun e => by subst e; rw [h] at h2; cases h2
  have hi := (List.getElem?_eq_some_iff.1 h).1
  have hj := (List.getElem?_eq_some_iff.1 h2).1
  have hp := (pullPerm (l := Γ) hi)
  have O1 := O.perm hp.symm
  have hn := O1.nodup
  have e1 : (Γ[i]).blk = some b := by rw [(List.getElem?_eq_some_iff.1 h).2]; rfl
  rw [List.filterMap_cons_some e1] at hn
  refine (List.nodup_cons.1 hn).1 (List.mem_filterMap.2 ⟨.cells b cs T, ?_, rfl⟩)
  refine List.mem_eraseIdx_iff_getElem?.2 ⟨j, fun e => hij e.symm, h2⟩
theorem Own.apartOld {w0 w : World} {X : List Nat} {Γ : List Res} {α : Type} {enc : α → List Value} {sz : Nat} {p : Option Addr} {es : List α} (O : Own w0 X Γ w) (h : Arr w0 enc sz p es) (h0 : 0 < es.length) (j : Nat) {gb : Nat} {cs : List Value} {T : TypeId} (h2 : Γ[j]? = some (.cells gb cs T)) (hx : gb ∉ X) : Apart p gb := fun b o e hb => by
  subst e; subst hb
  have := h.lt h0
  rcases O.range _ (List.mem_of_getElem? h2) b rfl with h | h
  · exact hx h
  · omega

theorem Own.setRow (O : Own w0 X Γ w) (i : Nat) {E sz q c b : Nat} {xs : List Value} (h : Γ[i]? = some (.row E sz (.slice (some ⟨b, 0, none⟩) q c) q xs)) (o : Nat) (v : Value) :
    Own w0 X (Γ.set i (.row E sz (.slice (some ⟨b, 0, none⟩) q c) q (xs.set o v))) (w.setCell ⟨b, o, none⟩ v) := by
  have hh := O.has h
  simp only [Res.holds] at hh
  obtain ⟨h1, h2⟩ := World.ownsRow.stored hh o v
  exact O.grown i h h2 h1 (.inl rfl)
theorem Own.freeRow (O : Own w0 X Γ w) (i : Nat) {E sz q c b o : Nat} {xs : List Value} (h : Γ[i]? = some (.row E sz (.slice (some ⟨b, 0, none⟩) q c) q xs)) : w.frozen? ⟨b, o, none⟩ = false := by
  have := O.has h
  simp only [Res.holds] at this
  rcases this.2 with ⟨h', _⟩ | ⟨g', cap, cur, h', _, hg, _⟩
  · simp at h'
  · simp only [Value.slice.injEq, Option.some.injEq, Addr.mk.injEq, and_true, true_and] at h'
    obtain ⟨rfl, _⟩ := h'
    simp [World.frozen?, hg]
theorem o_storeRow {b o E sz q c : Nat} {xs : List Value} (F : Has n Fr a) (O : Own w0 X Γ w) (hx : ev Fr x = some (.pointer (some ⟨b, o, none⟩))) (hy : ev Fr y = some v) (hz : szB P t = some 1) (hv : v.cells = #[v]) (h1 : v.oneCell' = true)
    (i : Nat) (hr : Γ[i]? = some (.row E sz (.slice (some ⟨b, 0, none⟩) q c) q xs)) (ho : o < xs.length) (k : ∀ w', Own w0 X (Γ.set i (.row E sz (.slice (some ⟨b, 0, none⟩) q c) q (xs.set o v))) w' → K a w') : Oper.wp P ⟨none, .store t x y, ty, pos, aft, g⟩ a w K Q := by
  obtain ⟨u, hu⟩ : ∃ u, xs[o]? = some u := ⟨_, List.getElem?_eq_getElem ho⟩
  have hc := O.loadRow i hr hu
  have hf := O.freeRow i (o := o) hr
  have hs := run_store P w ⟨b, o, none⟩ v .plain h1
  unfold Oper.wp
  simp only [execOp, F.ev hx, F.ev hy]
  simp [Instr.storeAt, Instr.sureAddr, storeVar, run_szB hz, hv, storeCells, plain_add, hs, hc, hf, Oper.upon]
  exact k _ (O.setRow i hr o v)
theorem storeCells_row {b E sz q c : Nat} (i : Nat) : ∀ (vs : List Value) (o j : Nat) (cs : List Value) (w : World) (Γ : List Res), Own w0 X Γ w → Γ[i]? = some (.row E sz (.slice (some ⟨b, 0, none⟩) q c) q cs) → (∀ v ∈ vs, v.oneCell' = true) → o + j + vs.length ≤ cs.length →
    ∃ w', (storeCells ⟨b, o, none⟩ vs j).run P w = .ok () w' ∧ Own w0 X (Γ.set i (.row E sz (.slice (some ⟨b, 0, none⟩) q c) q (cs.take (o + j) ++ vs ++ cs.drop (o + j + vs.length)))) w'
  | [], o, j, cs, w, Γ, O, hr, _, hl => by
    refine ⟨w, by simp [storeCells], ?_⟩
    exact O.setR i hr (by simp)
  | v :: vs, o, j, cs, w, Γ, O, hr, h1, hl => by
    simp only [List.length_cons] at hl
    obtain ⟨u, hu⟩ : ∃ u, cs[o + j]? = some u := ⟨_, List.getElem?_eq_getElem (by omega)⟩
    have hc := O.loadRow i hr hu
    have hf := O.freeRow i (o := o + j) hr
    have hs := run_store P w ⟨b, o + j, none⟩ v .plain (h1 v (by simp))
    have hi : i < Γ.length := (List.getElem?_eq_some_iff.1 hr).1
    obtain ⟨w', hrun, O'⟩ := storeCells_row i vs o (j + 1) (cs.set (o + j) v) _ _ (O.setRow i hr (o + j) v) (List.getElem?_set_self hi) (fun x hx => h1 x (by simp [hx])) (by simp; omega)
    refine ⟨w', ?_, ?_⟩
    · simp only [storeCells, plain_add, Sem.run_bind, hs, hc, hf]
      simpa using hrun
    · rw [List.set_set] at O'
      have e : (cs.set (o + j) v).take (o + (j + 1)) ++ vs ++ (cs.set (o + j) v).drop (o + (j + 1) + vs.length) = cs.take (o + j) ++ (v :: vs) ++ cs.drop (o + j + (v :: vs).length) := by
        rw [List.drop_set_of_lt (by omega), ← Nat.add_assoc, List.take_add_one, List.getElem?_set_self (by omega), List.take_set_of_le (by omega)]
        simp [Nat.add_assoc, Nat.add_comm 1]
      rw [e] at O'
      exact O'
theorem o_storeRowA {b o E sz q c : Nat} {cs vs : List Value} (F : Has n Fr a) (O : Own w0 X Γ w) (hx : ev Fr x = some (.pointer (some ⟨b, o, none⟩))) (hy : ev Fr y = some (.agg vs.toArray)) (hz : szB P t = some vs.length) (h1 : ∀ v ∈ vs, v.oneCell' = true)
    (i : Nat) (hr : Γ[i]? = some (.row E sz (.slice (some ⟨b, 0, none⟩) q c) q cs)) (ho : o + vs.length ≤ cs.length) (k : ∀ w', Own w0 X (Γ.set i (.row E sz (.slice (some ⟨b, 0, none⟩) q c) q (cs.take o ++ vs ++ cs.drop (o + vs.length)))) w' → K a w') : Oper.wp P ⟨none, .store t x y, ty, pos, aft, g⟩ a w K Q := by
  obtain ⟨w', hrun, O'⟩ := storeCells_row (P := P) i vs o 0 cs w Γ O hr h1 (by simpa using ho)
  unfold Oper.wp
  simp only [execOp, F.ev hx, F.ev hy]
  simp [Instr.storeAt, Instr.sureAddr, storeVar, run_szB hz, Value.cells, hrun, Oper.upon]
  exact k _ (by simpa using O')
theorem Own.rowCap (O : Own w0 X Γ w) (i : Nat) {E sz q c : Nat} {p : Option Addr} {xs : List Value} (h : Γ[i]? = some (.row E sz (.slice p q c) q xs)) : q ≤ c := by
  have hh := O.has h
  simp only [Res.holds] at hh
  rcases hh.2 with ⟨h', h0⟩ | ⟨g', cap, cur, h', _, _, h3, _⟩
  · omega
  · injection h' with e1 e2 e3
    subst e3; exact h3
theorem Own.apartC (O : Own w0 X Γ w) (i j : Nat) {b gb : Nat} {cs ds : List Value} {T T2 : TypeId} (h : Γ[i]? = some (.cells b cs T)) (h2 : Γ[j]? = some (.cells gb ds T2)) (hij : Nat.beq i j = false) : Apart (some ⟨b, 0, none⟩) gb := fun b' o e hb => by
  injection e with e; injection e with e1 e2
  subst e1; subst hb
  have hij' : i ≠ j := Nat.ne_of_beq_eq_false hij
  have hi := (List.getElem?_eq_some_iff.1 h).1
  have O1 := O.perm (pullPerm (l := Γ) hi).symm
  have hn := O1.nodup
  have e1 : (Γ[i]).blk = some b := by rw [(List.getElem?_eq_some_iff.1 h).2]; rfl
  rw [List.filterMap_cons_some e1] at hn
  refine (List.nodup_cons.1 hn).1 (List.mem_filterMap.2 ⟨.cells b ds T2, ?_, rfl⟩)
  exact List.mem_eraseIdx_iff_getElem?.2 ⟨j, fun e => hij' e.symm, h2⟩
/-- A row cut short. -/
theorem Own.cutRow (O : Own w0 X Γ w) (i : Nat) {E sz q c k : Nat} {p : Option Addr} {xs ys : List Value} (h : Γ[i]? = some (.row E sz (.slice p q c) q xs)) (hk : k ≤ q) (hy : xs.take (k * sz) = ys) :
    Own w0 X (Γ.set i (.row E sz (.slice p k c) k ys)) w := by
  have hh := O.has h
  simp only [Res.holds] at hh
  subst hy
  refine O.grown i h ⟨rfl, rfl, rfl, Nat.le_refl _, fun _ _ _ => rfl⟩ ?_ (.inl ?_)
  · refine ⟨?_, ?_⟩
    · rw [List.length_take, hh.1]; exact Nat.min_eq_left (Nat.mul_le_mul_right _ hk)
    · rcases hh.2 with ⟨h', h0⟩ | ⟨g', cap, cur, h', h1, h2, h3, h4, h5, h6⟩
      · left
        injection h' with e1 e2 e3
        subst e1; subst e3
        have : k = 0 := by omega
        subst this; exact ⟨rfl, rfl⟩
      · right
        injection h' with e1 e2 e3
        subst e1; subst e3
        refine ⟨g', c, cur, rfl, h1, h2, by omega, h4, h5, ?_⟩
        rw [← h6, List.take_take, Nat.min_eq_left (Nat.mul_le_mul_right _ hk)]
  · cases p <;> rfl
theorem flat_take {α : Type} {enc : α → List Value} {sz : Nat} (hl : ∀ e, (enc e).length = sz) : ∀ (es : List α) (k : Nat), (es.flatMap enc).take (k * sz) = (es.take k).flatMap enc
  | [], k => by simp
  | a :: es, 0 => by simp
  | a :: es, k + 1 => by
    rw [List.flatMap_cons, List.take_succ_cons, List.flatMap_cons, ← flat_take hl es k]
    have : (k + 1) * sz = (enc a).length + k * sz := by rw [hl, Nat.add_mul]; omega
    rw [this, List.take_length_add_append]

theorem o_make {m : Int} {E sz by' : Nat} {α : Type} {enc : α → List Value} {e0 : α} (F : Has n Fr a) (O : Own w0 X Γ w) (hx : ev Fr x = some (.int .i64 m)) (hy : ev Fr y = some (.int .i64 m)) (ht : P.underlying t = some (.slice E)) (hE : elemB P E = some (sz, by', sz)) (hz : zeroC P E = some (enc e0)) (hl : ∀ e, (enc e).length = sz) (hs : 0 < sz)
    (h0 : 0 ≤ m) (h1 : m ≤ 2000000) (hby : Nat.ble (2000000 * by') 281474976710656 = true) (hd : Nat.blt d n = true)
    (k : ∀ b w', Own w0 X (.row E sz (.slice (some ⟨b, 0, none⟩) m.toNat m.toNat) m.toNat ((List.replicate m.toNat e0).flatMap enc) :: Γ) w' → ∀ a', Has n ((d, .slice (some ⟨b, 0, none⟩) m.toNat m.toNat) :: Fr) a' → K a' w') : Oper.wp P ⟨some d, .makeSlice t x y, ty, pos, aft, g⟩ a w K Q := by
  unfold elemB at hE
  unfold zeroC at hz
  cases hi : P.info? E with
  | none => simp [hi] at hE
  | some info =>
    cases hzz : info.zero with
    | none => simp [hi, hzz] at hE
    | some z =>
      simp [hi, hzz] at hE
      obtain ⟨e1, e2, e3⟩ := hE
      have hz' : z.cells.toList = enc e0 := by simpa [hi, hzz] using hz
      have hm : (m.toNat : Int) = m := Int.toNat_of_nonneg h0
      have hb := Nat.le_of_ble_eq_true hby
      have hbm : by' * m.toNat ≤ 281474976710656 := by
        refine Nat.le_trans ?_ hb
        rw [Nat.mul_comm]; exact Nat.mul_le_mul_right _ (by omega)
      have hcells : m.toNat * sz ≤ m.toNat * sz := Nat.le_refl _
      obtain ⟨hr, hown, hgr⟩ : (Instr.makeSlice t (.int .i64 m) (.int .i64 m)).run P w = .ok (.slice (some ⟨w.heap.size, 0, none⟩) m.toNat m.toNat) (w.alloc (.cells (madeCells z.cells (m.toNat * sz)) E)) ∧ True ∧ True := by
        refine ⟨?_, trivial, trivial⟩
        have hb' : (info.bytes : Int) * m ≤ 281474976710656 := by
          have h9 : ((by' * m.toNat : Nat) : Int) ≤ 281474976710656 := by omega
          rw [Int.natCast_mul, hm] at h9
          rw [e2]; exact h9
        have := run_make (P := P) w t E info z ht hi hzz .i64 .i64 m m h0 (Int.le_refl _) hb' (by omega)
        rw [e1] at this
        exact this
      have O2 : Own w0 X (.row E sz (.slice (some ⟨w.heap.size, 0, none⟩) m.toNat m.toNat) m.toNat ((List.replicate m.toNat e0).flatMap enc) :: Γ) (w.alloc (.cells (madeCells z.cells (m.toNat * sz)) E)) := by
        have O3 := O.alloc (madeCells z.cells (m.toNat * sz)).toList E
        simp only [Array.toArray_toList] at O3
        have O4 := O3.asRow 0 (q := m.toNat) (sz := sz) rfl (by simp [size_madeCells]) (by unfold maxLen; omega)
        rw [made_flat hl hs hz'] at O4
        exact O4
      unfold Oper.wp
      simp only [execOp, F.ev hx, F.ev hy, Sem.run_bind, hr]
      exact k _ _ O2 _ (F.put (lt_of_blt hd) _)

theorem o_appendX {p p2 : Option Addr} {q c r c2 sz by' : Nat} {xs : List Value} {E : TypeId} {α : Type} {enc : α → List Value} {es : List α} (F : Has n Fr a) (O : Own w0 X Γ w) (hx : ev Fr x = some (.slice p q c)) (hy : ev Fr y = some (.slice p2 r c2))
    (ht : P.underlying t = some (.slice E)) (hE : elemB P E = some (sz, by', sz)) (hsz : 0 < sz) (i : Nat) (hr : Γ[i]? = some (.row E sz (.slice p q c) q xs)) (hA : Arr w enc sz p2 es) (hp : ∃ b o, p2 = some ⟨b, o, none⟩) (hl : ∀ e, (enc e).length = sz) (hre : r = es.length) (h1 : ∀ e, (enc e).all (·.oneCell') = true)
    (h63 : q + r ≤ maxLen) (hby : (q + r) * by' ≤ 140737488355328) (hd : Nat.blt d n = true)
    (k : ∀ p' c' w', Own w0 X (Γ.set i (.row E sz (.slice p' (q + r) c') (q + r) (xs ++ es.flatMap enc))) w' → ∀ a', Has n ((d, .slice p' (q + r) c') :: Fr) a' → K a' w') :
    Oper.wp P ⟨some d, .call { callee := .builtin .append, args := #[x, y], argTypes := #[t, t] }, ty, pos, aft, g⟩ a w K Q := by
  unfold elemB at hE
  obtain ⟨b2, o2, rfl⟩ := hp
  cases hi : P.info? E with
  | none => simp [hi] at hE
  | some info =>
    cases hzz : info.zero with
    | none => simp [hi, hzz] at hE
    | some z =>
      simp [hi, hzz] at hE
      obtain ⟨e1, e2, e3⟩ := hE
      have hown := O.has hr
      simp only [Res.holds] at hown
      have hnews : ∀ jj u, (es.flatMap enc)[jj]? = some u → w.cell? ((⟨b2, o2, none⟩ : Addr).add jj) = some u := fun jj u hu => by rw [plain_add]; exact hA.cells hl jj u hu
      obtain ⟨v', w', hrun, h2, h3, h4, h5⟩ := run_append_own_at (P := P) w 0 t ty E info z sz by' ht hi hzz e1 e2 e3 hsz (.slice p q c) q xs hown ⟨b2, o2, none⟩ r c2 (es.flatMap enc) (by rw [flat_len hl, hre]) hnews
        (fun u hu => by obtain ⟨e, he, hu⟩ := List.mem_flatMap.1 hu; exact (List.all_eq_true.1 (h1 e)) u hu) h63 hby (Nat.zero_le _)
      have hform : ∃ p' c', v' = .slice p' (q + r) c' := by
        rcases h2.2 with ⟨hv, hn⟩ | ⟨g', cap, cur, hv, _⟩
        · exact ⟨none, 0, by rw [hv, hn]⟩
        · exact ⟨_, _, hv⟩
      obtain ⟨p', c', rfl⟩ := hform
      unfold Oper.wp
      simp only [execOp, resolve, invoke, builtin, Sem.run_bind, Sem.run_pure, Result.andThen_ok, List.map_toArray, List.map_cons, List.map_nil, F.ev hx, F.ev hy, hrun]
      exact k p' c' w' (O.grown i hr h3 h2 h5) _ (F.put (lt_of_blt hd) _)

/-- A slice's rest. -/
theorem o_slfrom {lo : Operand} {b o q c sz : Nat} {E : TypeId} {i : Int} (F : Has n Fr a) (h : ev Fr x = some (.slice (some ⟨b, o, none⟩) q c)) (hlo : ev Fr lo = some (.int .i64 i)) (ht : P.underlying t = some (.slice E)) (hz : szB P E = some sz) (h0 : 0 ≤ i) (h1 : i ≤ q) (hd : Nat.blt d n = true)
    (k : ∀ o', (c ≠ i.toNat → o' = o + i.toNat * sz) → ∀ a', Has n ((d, .slice (some ⟨b, o', none⟩) (q - i.toNat) (c - i.toNat)) :: Fr) a' → K a' w) : Oper.wp P ⟨some d, .slice t x (some lo) none none, ty, pos, aft, g⟩ a w K Q := by
  unfold Oper.wp
  simp only [execOp, F.ev h, Option.map_some, F.ev hlo, Option.map_none]
  simp [Instr.sliceAt, Instr.slice, Instr.sliceBounds, Instr.sliceBound, asIntOf, run_underlying ht, h0, h1, run_szB hz, plain_add, Oper.upon]
  by_cases hc : c = i.toNat
  · rw [if_pos hc]
    exact k o (fun h => absurd hc h) _ (F.put (lt_of_blt hd) _)
  · rw [if_neg hc]
    exact k _ (fun _ => rfl) _ (F.put (lt_of_blt hd) _)
theorem Own.arrSub {α : Type} {enc : α → List Value} {sz : Nat} {es : List α} (O : Own w0 X Γ w) (i : Nat) {E q c b o' k : Nat} (h : Γ[i]? = some (.row E sz (.slice (some ⟨b, 0, none⟩) q c) q (es.flatMap enc))) (hl : ∀ e, (enc e).length = sz) (hs : 0 < sz) (ho : c ≠ k → o' = 0 + k * sz) : Arr w enc sz (some ⟨b, o', none⟩) (es.drop k) := fun hpos => by
  have hh := O.has h
  simp only [Res.holds] at hh
  have hlen := O.rowLen i h
  rw [flat_len hl] at hlen
  have hq : es.length = q := Nat.eq_of_mul_eq_mul_right hs hlen
  rw [List.length_drop] at hpos
  have hqc : q ≤ c := by
    rcases hh.2 with ⟨h', _⟩ | ⟨g', cap, cur, h', _, _, h3, _⟩
    · simp at h'
    · injection h' with e1 e2 e3
      subst e3; exact h3
  have := ho (by omega)
  subst this
  refine ⟨b, _, rfl, (O.has h).lt b rfl |>.2, fun kk e hk j v hj => ?_⟩
  rw [List.getElem?_drop] at hk
  have := O.loadRow i h (flat_get hl hk hj)
  rw [Nat.add_mul, ← Nat.add_assoc] at this
  exact this
theorem Own.arrC {α : Type} {enc : α → List Value} {sz : Nat} {es : List α} (O : Own w0 X Γ w) (i : Nat) {b T : Nat} (h : Γ[i]? = some (.cells b (es.flatMap enc) T)) (hl : ∀ e, (enc e).length = sz) (hs : 0 < sz) : Arr w enc sz (some ⟨b, 0, none⟩) es := fun hpos => by
  refine ⟨b, 0, rfl, Res.holds_lt (O.has h) rfl, fun k e hk j v hj => ?_⟩
  exact O.load i h (flat_get hl hk hj)
theorem Arr.take {α : Type} {enc : α → List Value} {sz : Nat} {p : Option Addr} {es : List α} (h : Arr w enc sz p es) (k : Nat) : Arr w enc sz p (es.take k) := fun hpos => by
  obtain ⟨b, o, e, hb, hc⟩ := h (by rw [List.length_take] at hpos; omega)
  refine ⟨b, o, e, hb, fun kk e hk j v hj => hc kk e ?_ j v hj⟩
  rw [List.getElem?_take] at hk
  split at hk
  · exact hk
  · cases hk
theorem Arr.keep1 {α : Type} {enc : α → List Value} {sz : Nat} {w0 w : World} {gb : Nat} {Γ : List Res} {p : Option Addr} {es : List α} (h : Arr w0 enc sz p es) (O : Own w0 [gb] Γ w) (hX : Apart p gb) : Arr w enc sz p es :=
  h.keepX O fun q hq => by simp at hq; subst hq; exact hX
theorem Arr.out2 {α : Type} {enc : α → List Value} {sz b o : Nat} {es : List α} (h : Arr w enc sz (some ⟨b, o, none⟩) es) (h0 : 0 < es.length) : b < w.heap.size ∧ ∀ k e, es[k]? = some e → ∀ j v, (enc e)[j]? = some v → w.cell? ⟨b, o + k * sz + j, none⟩ = some v := by
  obtain ⟨b', o', hp, hb, hc⟩ := h h0
  injection hp with hp; injection hp with e1 e2; subst e1; subst e2
  exact ⟨hb, hc⟩
/-- A row, or no row, is handed over. -/
theorem Own.handR {r : Res} (O : Own w0 X (r :: Γ) w) : Own w r.blk.toList [r] w :=
  ⟨rfl, rfl, rfl, Nat.le_refl _, fun _ _ _ => rfl, by simpa using O.each r (by simp), by cases h : r.blk <;> simp [h], fun s hs b hb => by simp at hs; subst hs; simp [hb]⟩
theorem Own.callR {r : Res} {w' : World} {Δ : List Res} (O : Own w0 X (r :: Γ) w) (K : Own w r.blk.toList Δ w') : Own w0 X (Δ ++ Γ) w' :=
  Own.call (Γ1 := [r]) O K (fun b hb => by cases h : r.blk <;> simp [h] at hb ⊢ <;> exact hb)

theorem o_callv {fid : FuncId} {args : Array Operand} {tys : Array TypeId} {vs lb vl : Array Value} (F : Has n Fr a) (hx : ev Fr x = some (.func (.func fid) #[] lb)) (hvl : vs ++ lb = vl) (hen : enters P fid = true) (hargs : args.toList.map (ev Fr) = vs.toList.map some) (hd : Nat.blt d n = true)
    (h : Calls P fid vl w fun e w' => ∃ v, e = .returned v ∧ ∀ a', Has n ((d, v) :: Fr) a' → K a' w') : Oper.wp P ⟨some d, .call { callee := .value x, args := args, argTypes := tys }, ty, pos, aft, g⟩ a w K Q := by
  subst hvl
  have e : args.map a.eval = vs := by
    apply Array.toList_inj.1
    rw [Array.toList_map]
    have : ∀ (l : List Operand) (m : List Value), l.map (ev Fr) = m.map some → l.map a.eval = m := by
      intro l
      induction l with
      | nil => intro m hm; cases m with
        | nil => rfl
        | cons => simp at hm
      | cons q l ih =>
        intro m hm
        cases m with
        | nil => simp at hm
        | cons u m =>
          simp at hm
          rw [List.map_cons, F.ev hm.1, ih m hm.2]
    exact this _ _ hargs
  unfold Oper.wp
  simp only [execOp, resolve, Sem.run_bind, e, F.ev hx, Deferred.ofValue]
  simp [invoke, run_enters hen, Oper.upon]
  refine h.mono fun e' w' ⟨v, he, hk⟩ => ?_
  subst he
  exact hk _ (F.put (lt_of_blt hd) _)
theorem p_makeFunc {fn : FuncId} {caps : Array Operand} {vs : List Value} (hc : caps.toList.map (ev Fr) = vs.map some) : PureIf P S (.makeFunc (.func fn) #[] caps) ty Fr (.func (.func fn) #[] vs.toArray) := fun n a w dst pos aft g F hS => by
  have e : caps.map a.eval = vs.toArray := by
    apply Array.toList_inj.1
    rw [Array.toList_map]
    have : ∀ (l : List Operand) (m : List Value), l.map (ev Fr) = m.map some → l.map a.eval = m := by
      intro l
      induction l with
      | nil => intro m hm; cases m with
        | nil => rfl
        | cons => simp at hm
      | cons q l ih =>
        intro m hm
        cases m with
        | nil => simp at hm
        | cons u m =>
          simp at hm
          rw [List.map_cons, F.ev hm.1, ih m hm.2]
    simpa using this _ _ hc
  simp only [execOp, e]
  simp [Instr.makeFunc]
theorem p_eqnil {p : Option Addr} {q c : Nat} {E : TypeId} (h : ev Fr x = some (.slice p q c)) (ht : P.underlying t = some (.slice E)) : PureIf P S (.binOp .eql t x (.const (.slice none 0 0)) yt) ty Fr (.bool (decide (p = none))) := fun n a w dst pos aft g F hS => by
  simp only [execOp, F.ev h]
  simp [eqGuard, binOp, Act.eval, run_equal_slice_nil w t E p q c ht]
  cases p <;> simp
theorem p_min {m k : Int} {t1 t2 : TypeId} (hx : ev Fr x = some (.int .i64 m)) (hy : ev Fr y = some (.int .i64 k)) : PureIf P S (.call { callee := .builtin .min, args := #[x, y], argTypes := #[t1, t2] }) ty Fr (.int .i64 (min m k)) := fun n a w dst pos aft g F hS => by
  have e : (if k < m then k else m) = min m k := by rw [Int.min_def]; split <;> split <;> omega
  simp [execOp, resolve, invoke, builtin, F.ev hx, F.ev hy, run_min_int2, e]
theorem p_max {m k : Int} {t1 t2 : TypeId} (hx : ev Fr x = some (.int .i64 m)) (hy : ev Fr y = some (.int .i64 k)) : PureIf P S (.call { callee := .builtin .max, args := #[x, y], argTypes := #[t1, t2] }) ty Fr (.int .i64 (max m k)) := fun n a w dst pos aft g F hS => by
  have e : (if m < k then k else m) = max m k := by rw [Int.max_def]; split <;> split <;> omega
  simp [execOp, resolve, invoke, builtin, F.ev hx, F.ev hy, run_max_int2, e]
theorem p_xor8 {m k : Int} (hx : ev Fr x = some (.int .u8 m)) (hy : ev Fr y = some (.int .u8 k)) (h1 : 0 ≤ m) (h2 : m < 256) (h3 : 0 ≤ k) (h4 : k < 256) : PureIf P S (.binOp .xor t x y yt) ty Fr (.int .u8 ((m.toNat ^^^ k.toNat : Nat) : Int)) := fun n a w dst pos aft g F hS => by
  simp only [execOp, F.ev hx, F.ev hy]
  simp [eqGuard_xor, binOp_xor, intBits_xor, u8_xor m k h1 h2 h3 h4]
theorem p_eqnilF {p : Addr} {q c : Nat} {E : TypeId} (h : ev Fr x = some (.slice (some p) q c)) (ht : P.underlying t = some (.slice E)) : PureIf P S (.binOp .eql t x (.const (.slice none 0 0)) yt) ty Fr (.bool false) := p_eqnil h ht
theorem p_nilF {fn : FuncId} {caps : Array Value} (h : ev Fr x = some (.func (.func fn) #[] caps)) : PureIf P S (.nilCheck x) ty Fr (.func (.func fn) #[] caps) := fun n a w dst pos aft g F hS => by
  simp only [execOp, F.ev h]; simp
def encUp (u : Int × Int × Int) : List Value := [.int .i64 u.1, .int .i64 u.2.1, .int .i64 u.2.2]
theorem encUp_len (u : Int × Int × Int) : (encUp u).length = 3 := rfl

def intsB (P : Program) (t : TypeId) (k : Nat) : Bool :=
  match P.underlying t with
  | some (.struct fs) =>
    match fs.toList, k with
    | [f0, f1, f2], 3 => f0.name != "_" && f1.name != "_" && f2.name != "_" && f0.offset == 0 && f1.offset == 1 && f2.offset == 2 && (match P.underlying f0.type with | some (.int .i64) => true | _ => false) && (match P.underlying f1.type with | some (.int .i64) => true | _ => false) && (match P.underlying f2.type with | some (.int .i64) => true | _ => false) && !P.stoodInHeld t && !P.eqGuardType P.depth t
    | _, _ => false
  | _ => false
theorem isI64 {D : Option TypeDesc} (h : (match D with | some (.int .i64) => true | _ => false) = true) : D = some (.int .i64) := by
  cases D with
  | none => simp at h
  | some D =>
    cases D with
    | int k => cases k <;> simp at h <;> rfl
    | _ => simp at h
theorem intsB_spec {P : Program} {t : TypeId} (h : intsB P t 3 = true) : ∃ f0 f1 f2 : Field, P.underlying t = some (.struct #[f0, f1, f2]) ∧ (f0.name ≠ "_" ∧ f1.name ≠ "_" ∧ f2.name ≠ "_") ∧ (f0.offset = 0 ∧ f1.offset = 1 ∧ f2.offset = 2) ∧ (P.underlying f0.type = some (.int .i64) ∧ P.underlying f1.type = some (.int .i64) ∧ P.underlying f2.type = some (.int .i64)) ∧ P.stoodInHeld t = false ∧ P.eqGuardType P.depth t = false := by
  unfold intsB at h
  cases hu : P.underlying t with
  | none => simp [hu] at h
  | some D =>
    cases D with
    | struct fs =>
      simp only [hu] at h
      obtain ⟨l⟩ := fs
      simp only at h
      match l, h with
      | [f0, f1, f2], h =>
        simp only [Bool.and_eq_true, bne_iff_ne, ne_eq, beq_iff_eq, Bool.not_eq_true'] at h
        obtain ⟨⟨⟨⟨⟨⟨⟨⟨⟨⟨h1, h2⟩, h3⟩, h4⟩, h5⟩, h6⟩, h7⟩, h8⟩, h9⟩, h10⟩, h11⟩ := h
        exact ⟨f0, f1, f2, rfl, ⟨h1, h2, h3⟩, ⟨h4, h5, h6⟩, ⟨isI64 h7, isI64 h8, isI64 h9⟩, h10, h11⟩
    | _ => simp [hu] at h
theorem run_ints3 {P : Program} {t : TypeId} (h : intsB P t 3 = true) (w : World) {i j k i' j' k' : Int} : (Op.equalIn 10000 t (.agg #[.int .i64 i, .int .i64 j, .int .i64 k]) (.agg #[.int .i64 i', .int .i64 j', .int .i64 k'])).run P w = .ok (decide (i = i' ∧ j = j' ∧ k = k')) w := by
  obtain ⟨f0, f1, f2, hu, ⟨n0, n1, n2⟩, ⟨o0, o1, o2⟩, ⟨u0, u1, u2⟩, hs, _⟩ := intsB_spec h
  have hf : P.fieldsOf t = #[f0, f1, f2] := by unfold Program.fieldsOf; rw [hu]
  have a0 : aggB P f0.type = some false := by unfold aggB; rw [u0]; rfl
  have a1 : aggB P f1.type = some false := by unfold aggB; rw [u1]; rfl
  have a2 : aggB P f2.type = some false := by unfold aggB; rw [u2]; rfl
  rw [run_equalIn_struct w 9999 t _ _ (by rw [hf]; exact hu) hs, hf]
  simp only [Op.eqFields, n0, n1, n2, o0, o1, o2, ne_eq, not_false_eq_true, if_true, Sem.run_bind, part, run_isAgg a0, run_isAgg a1, run_isAgg a2, Result.andThen_ok]
  by_cases e : i = i'
  · by_cases e2 : j = j'
    · by_cases e3 : k = k' <;> simp [run_equalIn_int w 9998 f0.type _ _ _ _ u0, run_equalIn_int w 9998 f1.type _ _ _ _ u1, run_equalIn_int w 9998 f2.type _ _ _ _ u2, e, e2, e3, run_isAgg a1, run_isAgg a2]
    · simp [run_equalIn_int w 9998 f0.type _ _ _ _ u0, run_equalIn_int w 9998 f1.type _ _ _ _ u1, e, e2, run_isAgg a1]
  · simp [run_equalIn_int w 9998 f0.type _ _ _ _ u0, e]
theorem p_eqints3 {i j k i' j' k' : Int} (hx : ev Fr x = some (.agg #[.int .i64 i, .int .i64 j, .int .i64 k])) (hy : ev Fr y = some (.agg #[.int .i64 i', .int .i64 j', .int .i64 k'])) (h : intsB P t 3 = true) : PureIf P S (.binOp .eql t x y yt) ty Fr (.bool (decide (i = i' ∧ j = j' ∧ k = k'))) := fun n a w dst pos aft g F hS => by
  obtain ⟨f0, f1, f2, hu, _, _, _, hs, hg⟩ := intsB_spec h
  simp only [execOp, F.ev hx, F.ev hy, Sem.run_bind, run_eqGuard_agg w _ _ _ _ _ _ hg, Result.andThen_ok, run_eql_struct, run_ints3 h]
  rfl
theorem p_neints3 {i j k i' j' k' : Int} (hx : ev Fr x = some (.agg #[.int .i64 i, .int .i64 j, .int .i64 k])) (hy : ev Fr y = some (.agg #[.int .i64 i', .int .i64 j', .int .i64 k'])) (h : intsB P t 3 = true) : PureIf P S (.binOp .neq t x y yt) ty Fr (.bool (decide (¬ (i = i' ∧ j = j' ∧ k = k')))) := fun n a w dst pos aft g F hS => by
  obtain ⟨f0, f1, f2, hu, _, _, _, hs, hg⟩ := intsB_spec h
  simp only [execOp, F.ev hx, F.ev hy, Sem.run_bind, run_eqGuard_agg w _ _ _ _ _ _ hg, Result.andThen_ok, run_neq_struct, run_ints3 h]
  by_cases e : i = i' ∧ j = j' ∧ k = k' <;> simp [e]
end
end Go.Proofs.Ytbhidkcljekobaa
