/- A small logic of steps: frames of which some slots are known, memory of the call's own by its blocks, one rule an operation. No conditions. -/
import Derived.WalkKit
import Derived.WalkSpells
import Derived.WalkLawsBesides
import Derived.ProofKit
import Derived.Below
import Derived.OrdersHeld
import Derived.Maps.AppendAt
import Derived.Lib.ConvBytes
namespace Go.Proofs.Ytbhidkcljekobaa
set_option linter.unusedVariables false
set_option linter.unusedSimpArgs false
open Go.RowKit
set_option linter.unusedVariables false
set_option linter.unusedSimpArgs false

/-! ### frames of which some slots are known -/
def look : List (Nat × Value) → Nat → Option Value
  | [], _ => none
  | (k, v) :: r, i => cond (Nat.beq i k) (some v) (look r i)

structure Has (n : Nat) (Fr : List (Nat × Value)) (a : Act) : Prop where
  defers : a.defers = []
  size : a.tmps.size = n
  get : ∀ i v, look Fr i = some v → a.tmps[i]? = some v

def ev (Fr : List (Nat × Value)) : Operand → Option Value
  | .tmp t => look Fr t
  | .const v => some v
  | .global g => some (.pointer (some ⟨g, 0, none⟩))
  | .func f => some (.func (.func f) #[] #[])

section
variable {P : Program} {n : Nat} {Fr : List (Nat × Value)} {a : Act} {w : World} {S : World → Prop}

theorem Has.ev (F : Has n Fr a) {x : Operand} {v : Value} (h : ev Fr x = some v) : a.eval x = v := by
  cases x with
  | tmp t => have := F.get t v h; simp [Act.eval, Array.getD_eq_getD_getElem?, this]
  | const u => simp [Go.Proofs.Ytbhidkcljekobaa.ev] at h; simp [Act.eval, h]
  | global g => simp [Go.Proofs.Ytbhidkcljekobaa.ev] at h; simp [Act.eval, h]
  | func f => simp [Go.Proofs.Ytbhidkcljekobaa.ev] at h; simp [Act.eval, h]

theorem look_cons (k : Nat) (v : Value) (r : List (Nat × Value)) (i : Nat) : look ((k, v) :: r) i = if i = k then some v else look r i := by
  show cond (Nat.beq i k) (some v) (look r i) = _
  by_cases h : i = k
  · subst h; simp
  · have : Nat.beq i k = false := by rw [Bool.eq_false_iff]; exact fun e => h (Nat.eq_of_beq_eq_true e)
    simp [this, h]

theorem Has.put (F : Has n Fr a) {d : Nat} (hd : d < n) (v : Value) : Has n ((d, v) :: Fr) (a.put (some d) v) := by
  refine ⟨F.defers, by simpa [Act.put] using F.size, fun i u h => ?_⟩
  rw [look_cons] at h
  by_cases e : i = d
  · subst e
    simp at h
    subst h
    simp [Act.put, F.size, hd]
  · rw [if_neg e] at h
    have := F.get i u h
    simp only [Act.put]
    rw [Array.getElem?_setIfInBounds_ne (by omega)]
    exact this

/-- Keep some slots alone. -/
theorem Has.keep (F : Has n Fr a) {Fr' : List (Nat × Value)} (h : ∀ p ∈ Fr', look Fr p.1 = some p.2) : Has n Fr' a := by
  refine ⟨F.defers, F.size, fun i v hv => F.get i v ?_⟩
  induction Fr' with
  | nil => cases hv
  | cons q r ih =>
    obtain ⟨k, u⟩ := q
    rw [look_cons] at hv
    by_cases e : i = k
    · subst e
      simp at hv
      subst hv
      exact h (i, u) (by simp)
    · rw [if_neg e] at hv
      exact ih (fun p hp => h p (by simp [hp])) hv

def wants (ops : Array Oper) (Fr : List (Nat × Value)) : Option (Nat × Bool) → Option Bool
  | none => some true
  | some (j, b) =>
    match (ops[j]?).bind (·.dst) with
    | some d =>
      match look Fr d with
      | some (.bool c) => some (c == b)
      | some _ => some false
      | none => none
    | none => some false

theorem wanted_of (F : Has n Fr a) {ops : Array Oper} {o : Oper} {t : Bool} (h : wants ops Fr o.guard = some t) : Region.wanted o (yielded ops a.tmps) = t := by
  unfold Region.wanted
  cases hg : o.guard with
  | none => rw [hg] at h; simpa [wants] using h
  | some q =>
    obtain ⟨j, b⟩ := q
    rw [hg] at h
    unfold wants at h
    unfold yielded
    simp only
    cases hd : (ops[j]?).bind (·.dst) with
    | none => simp [hd] at h; subst h; simp
    | some d =>
      simp only [hd] at h
      cases hl : look Fr d with
      | none => simp [hl] at h
      | some u =>
        have hu := F.get d u hl
        simp only [hl] at h
        simp only [Option.bind_some, hu]
        cases u <;> simp_all

theorem lt_of_blt {d n : Nat} (h : Nat.blt d n = true) : d < n := Nat.le_of_ble_eq_true h

/-! ### operations that yield a value and do nothing else, in every world that meets S -/
def PureIf (P : Program) (S : World → Prop) (op : Op) (ty : TypeId) (Fr : List (Nat × Value)) (v : Value) : Prop :=
  ∀ (n : Nat) (a : Act) (w : World) (dst : Option Tmp) (pos : String) (aft : Array Edge) (g : Option (Nat × Bool)), Has n Fr a → S w →
    (execOp a.eval ⟨dst, op, ty, pos, aft, g⟩).run P w = .ok (.value v) w

variable {ops : Array Oper} {rest : List Oper} {Q : Exit → Act → World → Prop} {op : Op} {ty d : Nat} {pos : String} {aft : Array Edge} {g : Option (Nat × Bool)} {v : Value}

theorem sp (F : Has n Fr a) (hp : PureIf P (fun w' => w' = w) op ty Fr v) (hw : wants ops Fr g = some true) (hd : Nat.blt d n = true)
    (k : ∀ a', Has n ((d, v) :: Fr) a' → wpList P ops Q rest a' w) : wpList P ops Q (⟨some d, op, ty, pos, aft, g⟩ :: rest) a w := by
  unfold wpList
  rw [if_pos (wanted_of F (o := ⟨some d, op, ty, pos, aft, g⟩) hw)]
  refine .inl ?_
  unfold Oper.wp
  rw [hp n a w (some d) pos aft g F rfl]
  exact k _ (F.put (lt_of_blt hd) v)

theorem ss (F : Has n Fr a) (hw : wants ops Fr g = some false) (hd : Nat.blt d n = true)
    (k : ∀ a', Has n ((d, undef) :: Fr) a' → wpList P ops Q rest a' w) : wpList P ops Q (⟨some d, op, ty, pos, aft, g⟩ :: rest) a w := by
  unfold wpList
  rw [if_neg (by rw [wanted_of F (o := ⟨some d, op, ty, pos, aft, g⟩) hw]; simp)]
  exact k _ (F.put (lt_of_blt hd) undef)

theorem ss0 (F : Has n Fr a) (hw : wants ops Fr g = some false) (k : wpList P ops Q rest a w) : wpList P ops Q (⟨none, op, ty, pos, aft, g⟩ :: rest) a w := by
  unfold wpList
  rw [if_neg (by rw [wanted_of F (o := ⟨none, op, ty, pos, aft, g⟩) hw]; simp)]
  exact k

theorem so {dst : Option Tmp} (F : Has n Fr a) (hw : wants ops Fr g = some true) (h : Oper.wp P ⟨dst, op, ty, pos, aft, g⟩ a w (wpList P ops Q rest) Q) : wpList P ops Q (⟨dst, op, ty, pos, aft, g⟩ :: rest) a w := by
  unfold wpList
  rw [if_pos (wanted_of F (o := ⟨dst, op, ty, pos, aft, g⟩) hw)]
  exact .inl h

variable {x y : Operand}
theorem p_move (h : ev Fr x = some v) : PureIf P S (.move x) ty Fr v := fun n a w dst pos aft g F hS => by
  simp [execOp, F.ev h]
theorem p_assign (h : ev Fr x = some v) : PureIf P S (.assign x) ty Fr v := fun n a w dst pos aft g F hS => by
  simp [execOp, F.ev h]
theorem p_pick {c : Operand} {t : Bool} (hc : ev Fr c = some (.bool t)) (h : ev Fr (cond t x y) = some v) : PureIf P S (.pick c x y) ty Fr v := fun n a w dst pos aft g F hS => by
  have h1 := F.ev hc
  have h2 := F.ev h
  cases t <;> simp at h2 <;> simp [execOp, h1, h2, asBool]
theorem p_nil {p : Addr} (h : ev Fr x = some (.pointer (some p))) : PureIf P S (.nilCheck x) ty Fr (.pointer (some p)) := fun n a w dst pos aft g F hS => by
  simp [execOp, F.ev h]
theorem p_extract {i : Nat} {vs : Array Value} (h : ev Fr x = some (.tuple vs)) (hv : vs[i]? = some v) : PureIf P S (.extract x i) ty Fr v := fun n a w dst pos aft g F hS => by
  simp [execOp, F.ev h, Instr.extract, hv]

/-! integers -/
section
variable {m k : Int} {t yt : TypeId}
theorem p_add (hx : ev Fr x = some (.int .i64 m)) (hy : ev Fr y = some (.int .i64 k)) (h0 : -9223372036854775808 ≤ m + k) (h1 : m + k < 9223372036854775808) : PureIf P S (.binOp .add t x y yt) ty Fr (.int .i64 (m + k)) := fun n a w dst pos aft g F hS => by
  have e : IntKind.i64.wrap (m + k) = m + k := by rw [IntKind.wrap_i64]; omega
  simp only [execOp, F.ev hx, F.ev hy]; simp [go_sem, e]
theorem p_sub (hx : ev Fr x = some (.int .i64 m)) (hy : ev Fr y = some (.int .i64 k)) (h0 : -9223372036854775808 ≤ m - k) (h1 : m - k < 9223372036854775808) : PureIf P S (.binOp .sub t x y yt) ty Fr (.int .i64 (m - k)) := fun n a w dst pos aft g F hS => by
  have e : IntKind.i64.wrap (m - k) = m - k := by rw [IntKind.wrap_i64]; omega
  simp only [execOp, F.ev hx, F.ev hy]; simp [go_sem, e]
theorem p_mul (hx : ev Fr x = some (.int .i64 m)) (hy : ev Fr y = some (.int .i64 k)) (h0 : -9223372036854775808 ≤ m * k) (h1 : m * k < 9223372036854775808) : PureIf P S (.binOp .mul t x y yt) ty Fr (.int .i64 (m * k)) := fun n a w dst pos aft g F hS => by
  have e : IntKind.i64.wrap (m * k) = m * k := by rw [IntKind.wrap_i64]; omega
  simp only [execOp, F.ev hx, F.ev hy]; simp [go_sem, e]
theorem p_quo (hx : ev Fr x = some (.int .i64 m)) (hy : ev Fr y = some (.int .i64 k)) (h0 : 0 ≤ m) (h1 : 0 < k) (h2 : m < 9223372036854775808) : PureIf P S (.binOp .quo t x y yt) ty Fr (.int .i64 (m / k)) := fun n a w dst pos aft g F hS => by
  have q0 : 0 ≤ m / k := Int.ediv_nonneg h0 (by omega)
  have q1 : m / k ≤ m := Int.ediv_le_self _ h0
  have e : IntKind.i64.wrap (m / k) = m / k := by rw [IntKind.wrap_i64]; omega
  have e2 : m.tdiv k = m / k := Int.tdiv_eq_ediv_of_nonneg h0
  have e3 : ¬ k = 0 := by omega
  simp only [execOp, F.ev hx, F.ev hy]; simp [go_sem, e, e2, e3]
theorem p_rem (hx : ev Fr x = some (.int .i64 m)) (hy : ev Fr y = some (.int .i64 k)) (h0 : 0 ≤ m) (h1 : 0 < k) (h2 : m < 9223372036854775808) : PureIf P S (.binOp .rem t x y yt) ty Fr (.int .i64 (m % k)) := fun n a w dst pos aft g F hS => by
  have q0 : 0 ≤ m % k := Int.emod_nonneg _ (by omega)
  have q1 : m % k ≤ m := by
    obtain ⟨a, rfl⟩ := Int.eq_ofNat_of_zero_le h0
    obtain ⟨b, rfl⟩ := Int.eq_ofNat_of_zero_le (Int.le_of_lt h1)
    exact Int.ofNat_le.2 (Nat.mod_le a b)
  have e : IntKind.i64.wrap (m % k) = m % k := by rw [IntKind.wrap_i64]; omega
  have e2 : m.tmod k = m % k := Int.tmod_eq_emod_of_nonneg h0
  have e3 : ¬ k = 0 := by omega
  simp only [execOp, F.ev hx, F.ev hy]; simp [go_sem, e, e2, e3]
variable {K : IntKind}
theorem p_eql (hx : ev Fr x = some (.int K m)) (hy : ev Fr y = some (.int K k)) : PureIf P S (.binOp .eql t x y yt) ty Fr (.bool (decide (m = k))) := fun n a w dst pos aft g F hS => by
  simp only [execOp, F.ev hx, F.ev hy]; simp [go_sem]; rfl
theorem p_neq (hx : ev Fr x = some (.int K m)) (hy : ev Fr y = some (.int K k)) : PureIf P S (.binOp .neq t x y yt) ty Fr (.bool (decide (m ≠ k))) := fun n a w dst pos aft g F hS => by
  simp only [execOp, F.ev hx, F.ev hy]; simp [go_sem]; by_cases h : m = k <;> simp [h]
theorem p_lss (hx : ev Fr x = some (.int K m)) (hy : ev Fr y = some (.int K k)) : PureIf P S (.binOp .lss t x y yt) ty Fr (.bool (decide (m < k))) := fun n a w dst pos aft g F hS => by
  simp only [execOp, F.ev hx, F.ev hy]; simp [go_sem]
theorem p_leq (hx : ev Fr x = some (.int K m)) (hy : ev Fr y = some (.int K k)) : PureIf P S (.binOp .leq t x y yt) ty Fr (.bool (decide (m ≤ k))) := fun n a w dst pos aft g F hS => by
  simp only [execOp, F.ev hx, F.ev hy]; simp [go_sem]
theorem p_gtr (hx : ev Fr x = some (.int K m)) (hy : ev Fr y = some (.int K k)) : PureIf P S (.binOp .gtr t x y yt) ty Fr (.bool (decide (k < m))) := fun n a w dst pos aft g F hS => by
  simp only [execOp, F.ev hx, F.ev hy]; simp [go_sem]
theorem p_geq (hx : ev Fr x = some (.int K m)) (hy : ev Fr y = some (.int K k)) : PureIf P S (.binOp .geq t x y yt) ty Fr (.bool (decide (k ≤ m))) := fun n a w dst pos aft g F hS => by
  simp only [execOp, F.ev hx, F.ev hy]; simp [go_sem]
end
end

theorem Has.setB {n : Nat} {Fr : List (Nat × Value)} {a : Act} (F : Has n Fr a) {d : Nat} {b c : Bool} (hl : look Fr d = some (.bool b)) (h : b = c) : Has n ((d, .bool c) :: Fr) a := by
  subst h
  refine ⟨F.defers, F.size, fun i v hv => F.get i v ?_⟩
  rw [look_cons] at hv
  by_cases e : i = d
  · subst e; simp at hv; subst hv; exact hl
  · rwa [if_neg e] at hv
theorem Has.setV {n : Nat} {Fr : List (Nat × Value)} {a : Act} (F : Has n Fr a) {d : Nat} {u u' : Value} (hl : look Fr d = some u) (h : u = u') : Has n ((d, u') :: Fr) a := by
  subst h
  refine ⟨F.defers, F.size, fun i v hv => F.get i v ?_⟩
  rw [look_cons] at hv
  by_cases e : i = d
  · subst e; simp at hv; subst hv; exact hl
  · rwa [if_neg e] at hv

/-! ### memory of the call's own -/
inductive Res where
  | cells (b : Nat) (cs : List Value) (T : TypeId)
  | row (E : TypeId) (sz : Nat) (v : Value) (n : Nat) (xs : List Value)
  | part (b : Nat) (xs : List Value)
def Res.blk : Res → Option Nat
  | .cells b _ _ => some b
  | .row _ _ v _ _ => v.ownBlock
  | .part b _ => some b
def Res.holds : Res → World → Prop
  | .cells b cs T, w => w.heap[b]? = some (.cells cs.toArray T (0, 0))
  | .row E sz v n xs, w => w.ownsRow 0 E sz v n xs
  | .part b xs, w => ∃ (cur : Array Value) (E : TypeId) (f : Nat × Nat), w.heap[b]? = some (.cells cur E f) ∧ (∀ (j : Nat) (v : Value), xs[j]? = some v → cur[j]? = some v) ∧ ∀ o, o < xs.length → ¬ (f.1 ≤ o ∧ o < f.2)

theorem Res.holds_lt {r : Res} {w : World} (h : r.holds w) {b : Nat} (hb : r.blk = some b) : b < w.heap.size := by
  cases r with
  | cells b' cs T =>
    simp [Res.blk] at hb; subst hb
    exact (Array.getElem?_eq_some_iff.1 h).1
  | row E sz v n xs => exact (World.ownsRow.lt h b hb).2
  | part b' xs =>
    simp [Res.blk] at hb; subst hb
    obtain ⟨cur, E, f, h, _⟩ := h
    exact (Array.getElem?_eq_some_iff.1 h).1
theorem Res.holds_keep {r : Res} {w w' : World} (h : r.holds w) (hk : ∀ b, r.blk = some b → w'.heap[b]? = w.heap[b]?) : r.holds w' := by
  cases r with
  | cells b' cs T => exact (hk b' rfl).trans h
  | row E sz v n xs =>
    refine ⟨h.1, ?_⟩
    rcases h.2 with h2 | ⟨g, cap, cur, rfl, hb, hg, rest⟩
    · exact .inl h2
    · exact .inr ⟨g, cap, cur, rfl, hb, (hk g rfl).trans hg, rest⟩
  | part b' xs =>
    obtain ⟨cur, E, f, h, r⟩ := h
    exact ⟨cur, E, f, (hk b' rfl).trans h, r⟩

theorem pullPerm {α : Type} : ∀ {l : List α} {i : Nat} (h : i < l.length), (l[i] :: l.eraseIdx i).Perm l
  | _ :: _, 0, _ => List.Perm.refl _
  | a :: t, i + 1, h => (List.Perm.swap a _ _).trans ((pullPerm (l := t) (i := i) (by simpa using h)).cons a)

structure Own (w0 : World) (X : List Nat) (Γ : List Res) (w : World) : Prop where
  os : w.os = w0.os
  tape : w.tape = w0.tape
  output : w.output = w0.output
  size : w0.heap.size ≤ w.heap.size
  block : ∀ i, i < w0.heap.size → i ∉ X → w.heap[i]? = w0.heap[i]?
  each : ∀ r ∈ Γ, r.holds w
  nodup : (Γ.filterMap Res.blk).Nodup
  range : ∀ r ∈ Γ, ∀ b, r.blk = some b → b ∈ X ∨ w0.heap.size ≤ b

section
variable {w0 w w' : World} {X Y : List Nat} {Γ Δ Γ1 Γ2 : List Res}

theorem Own.start (w : World) : Own w [] [] w := ⟨rfl, rfl, rfl, Nat.le_refl _, fun _ _ _ => rfl, by simp, by simp, by simp⟩
theorem Own.below (O : Own w0 [] Γ w) : Below w0.heap.size w0 w := ⟨O.os, O.tape, O.output, O.size, fun k hk => O.block k hk (by simp)⟩
theorem Own.of_below (h : Below w.heap.size w w') : Own w [] [] w' := ⟨h.os, h.tape, h.output, h.size, fun i hi _ => h.block i hi, by simp, by simp, by simp⟩
theorem Own.drawn (O : Own w0 X Γ w) (m : Nat) : Own w0 X Γ { w with drawn := m } :=
  ⟨O.os, O.tape, O.output, O.size, O.block, fun r hr => Res.holds_keep (O.each r hr) fun _ _ => rfl, O.nodup, O.range⟩
theorem Own.perm (O : Own w0 X Γ w) (h : Γ.Perm Δ) : Own w0 X Δ w :=
  ⟨O.os, O.tape, O.output, O.size, O.block, fun r hr => O.each r (h.mem_iff.2 hr), (h.filterMap _).nodup_iff.1 O.nodup, fun r hr => O.range r (h.mem_iff.2 hr)⟩
theorem Own.pull (O : Own w0 X Γ w) (i : Nat) (hi : Nat.blt i Γ.length = true) : Own w0 X (Γ[i]'(Nat.le_of_ble_eq_true hi) :: Γ.eraseIdx i) w := O.perm (pullPerm (Nat.le_of_ble_eq_true hi)).symm
theorem Own.sub (O : Own w0 X Γ w) (h : Δ.Sublist Γ) : Own w0 X Δ w :=
  ⟨O.os, O.tape, O.output, O.size, O.block, fun r hr => O.each r (h.subset hr), (h.filterMap _).nodup O.nodup, fun r hr => O.range r (h.subset hr)⟩
theorem Own.drop {r : Res} (O : Own w0 X (r :: Γ) w) : Own w0 X Γ w := O.sub (List.sublist_cons_self r Γ)
theorem Own.erase (O : Own w0 X Γ w) (i : Nat) : Own w0 X (Γ.eraseIdx i) w := O.sub (List.eraseIdx_sublist Γ i)

theorem Own.blk_lt (O : Own w0 X Γ w) {b : Nat} (h : b ∈ Γ.filterMap Res.blk) : b < w.heap.size := by
  obtain ⟨r, hr, hb⟩ := List.mem_filterMap.1 h
  exact Res.holds_lt (O.each r hr) hb

/-- The frame rule. -/
theorem Own.call (O : Own w0 X (Γ1 ++ Γ2) w) (K : Own w Y Δ w') (hY : ∀ b ∈ Y, b ∈ Γ1.filterMap Res.blk) : Own w0 X (Δ ++ Γ2) w' := by
  have hnd := O.nodup
  rw [List.filterMap_append] at hnd
  obtain ⟨hn1, hn2, hdis⟩ := List.nodup_append.1 hnd
  have h2lt : ∀ b ∈ Γ2.filterMap Res.blk, b < w.heap.size ∧ b ∉ Y := fun b hb => by
    obtain ⟨r, hr, e⟩ := List.mem_filterMap.1 hb
    exact ⟨Res.holds_lt (O.each r (List.mem_append_right _ hr)) e, fun hy => hdis b (hY b hy) b hb rfl⟩
  have hYr : ∀ b ∈ Y, b ∈ X ∨ w0.heap.size ≤ b := fun b hb => by
    obtain ⟨r, hr, e⟩ := List.mem_filterMap.1 (hY b hb)
    exact O.range r (List.mem_append_left _ hr) b e
  refine ⟨K.os.trans O.os, K.tape.trans O.tape, K.output.trans O.output, Nat.le_trans O.size K.size, fun i hi hX => ?_, fun r hr => ?_, ?_, fun r hr b hb => ?_⟩
  · rw [K.block i (Nat.lt_of_lt_of_le hi O.size) (fun hy => by rcases hYr i hy with h | h; exact hX h; omega)]
    exact O.block i hi hX
  · rcases List.mem_append.1 hr with h | h
    · exact K.each r h
    · refine Res.holds_keep (O.each r (List.mem_append_right _ h)) fun b hb => ?_
      obtain ⟨h1, h2⟩ := h2lt b (List.mem_filterMap.2 ⟨r, h, hb⟩)
      exact K.block b h1 h2
  · rw [List.filterMap_append]
    refine List.nodup_append.2 ⟨K.nodup, hn2, fun b hb c hc e => ?_⟩
    subst e
    obtain ⟨h1, h2⟩ := h2lt b hc
    obtain ⟨r, hr, e⟩ := List.mem_filterMap.1 hb
    rcases K.range r hr b e with h | h
    · exact h2 h
    · omega
  · rcases List.mem_append.1 hr with h | h
    · rcases K.range r h b hb with h' | h'
      · exact hYr b h'
      · exact .inr (Nat.le_trans O.size h')
    · exact O.range r (List.mem_append_right _ h) b hb
theorem Own.call0 (O : Own w0 X Γ w) (K : Own w [] Δ w') : Own w0 X (Δ ++ Γ) w' := Own.call (Γ1 := []) O K (by simp)
theorem Own.call1 {r : Res} {b : Nat} (O : Own w0 X (r :: Γ) w) (K : Own w [b] Δ w') (h : r.blk = some b) : Own w0 X (Δ ++ Γ) w' :=
  Own.call (Γ1 := [r]) O K (by simp [h])
theorem Own.call2 {r s : Res} {b c : Nat} (O : Own w0 X (r :: s :: Γ) w) (K : Own w [b, c] Δ w') (h : r.blk = some b) (h2 : s.blk = some c) : Own w0 X (Δ ++ Γ) w' :=
  Own.call (Γ1 := [r, s]) O K (by simp [h, h2])
/-- What a callee is handed: its footprint alone. -/
theorem Own.hand1 {r : Res} {b : Nat} (O : Own w0 X (r :: Γ) w) (h : r.blk = some b) : Own w [b] [r] w :=
  ⟨rfl, rfl, rfl, Nat.le_refl _, fun _ _ _ => rfl, by simpa using O.each r (by simp), by simp [h], by simp [h]⟩
theorem Own.hand2 {r s : Res} {b c : Nat} (O : Own w0 X (r :: s :: Γ) w) (h : r.blk = some b) (h2 : s.blk = some c) : Own w [b, c] [r, s] w :=
  ⟨rfl, rfl, rfl, Nat.le_refl _, fun _ _ _ => rfl, fun x hx => O.each x (by simp at hx; rcases hx with h | h <;> simp [h]), by
    have := O.nodup
    simp [h, h2] at this ⊢
    exact this.1.1, by simp [h, h2]⟩

theorem Own.alloc (O : Own w0 X Γ w) (cs : List Value) (T : TypeId) : Own w0 X (.cells w.heap.size cs T :: Γ) (w.alloc (.cells cs.toArray T)) := by
  refine Own.call0 (Δ := [.cells w.heap.size cs T]) O ⟨rfl, rfl, rfl, by simp, fun i hi _ => Below.heap_alloc w _ i hi, fun r hr => ?_, by simp [Res.blk], fun r hr b hb => ?_⟩
  · simp at hr; subst hr
    exact heap_alloc_new w _
  · simp at hr; subst hr
    simp [Res.blk] at hb
    right; omega

theorem Own.has (O : Own w0 X Γ w) {i : Nat} {r : Res} (h : Γ[i]? = some r) : r.holds w := O.each r (List.mem_of_getElem? h)
theorem Own.load (O : Own w0 X Γ w) (i : Nat) {b o : Nat} {cs : List Value} {T : TypeId} {v : Value} (h : Γ[i]? = some (.cells b cs T)) (ho : cs[o]? = some v) : w.cell? ⟨b, o, none⟩ = some v := by
  have := O.has h
  simp only [Res.holds] at this
  simp [World.cell?, this, ho]
theorem Own.loadRow (O : Own w0 X Γ w) (i : Nat) {b o c n sz E : Nat} {xs : List Value} {v : Value} (h : Γ[i]? = some (.row E sz (.slice (some ⟨b, 0, none⟩) n c) n xs)) (ho : xs[o]? = some v) : w.cell? ⟨b, o, none⟩ = some v := by
  have := World.ownsRow.cells (O.has h) (g := b) rfl o v ho
  simpa [Addr.add_lit] using this
theorem Own.old (O : Own w0 X Γ w) {b o : Nat} (hb : b < w0.heap.size) (hX : b ∉ X) : w.cell? ⟨b, o, none⟩ = w0.cell? ⟨b, o, none⟩ := World.cell?_of_block (O.block b hb hX)

theorem Own.set (O : Own w0 X Γ w) (i : Nat) {b : Nat} {cs : List Value} {T : TypeId} (h : Γ[i]? = some (.cells b cs T)) (o : Nat) (v : Value) :
    Own w0 X (Γ.set i (.cells b (cs.set o v) T)) (w.setCell ⟨b, o, none⟩ v) := by
  obtain ⟨hi, he⟩ := List.getElem?_eq_some_iff.1 h
  have hh := O.has h
  simp only [Res.holds] at hh
  have hbl : b < w.heap.size := (Array.getElem?_eq_some_iff.1 hh).1
  have hp : (Γ[i] :: Γ.eraseIdx i).Perm Γ := pullPerm hi
  have O1 : Own w0 X (.cells b cs T :: Γ.eraseIdx i) w := by rw [← he]; exact O.perm hp.symm
  have hi2 : i < (Γ.set i (.cells b (cs.set o v) T)).length := by simpa using hi
  have hp2 := pullPerm hi2
  rw [List.getElem_set_self, List.eraseIdx_set_eq] at hp2
  refine Own.perm ?_ hp2
  refine Own.call1 (Δ := [.cells b (cs.set o v) T]) O1 ⟨rfl, rfl, rfl, by simp [World.setCell], fun j hj hX => Below.heap_setCell w ⟨b, o, none⟩ v j (by simpa using hX), fun r hr => ?_, by simp [Res.blk], fun r hr c hc => ?_⟩ rfl
  · simp at hr; subst hr
    simp only [Res.holds, World.setCell, Array.getElem?_modify, hh]
    simp
  · simp at hr; subst hr
    simp [Res.blk] at hc
    simp [hc]
theorem Own.free (O : Own w0 X Γ w) (i : Nat) {b o : Nat} {cs : List Value} {T : TypeId} (h : Γ[i]? = some (.cells b cs T)) : w.frozen? ⟨b, o, none⟩ = false := by
  have := O.has h
  simp only [Res.holds] at this
  simp [World.frozen?, this]
end

/-! ### facts of a program's types, as values that compute -/
def aggB (P : Program) (t : TypeId) : Option Bool := (P.underlying t).map fun | .struct _ | .array _ _ => true | _ => false
def szB (P : Program) (t : TypeId) : Option Nat := (P.info? t).map (·.size)
def zeroC (P : Program) (t : TypeId) : Option (List Value) := ((P.info? t).bind (·.zero)).map (·.cells.toList)
def foff (P : Program) (s f : Nat) : Option Nat :=
  match P.underlying s with
  | some (.struct fs) => match fs[f]? with
    | some fd => match P.info? fd.type with
      | some i => if i.size = 0 then none else some fd.offset
      | none => none
    | none => none
  | _ => none

theorem run_isAgg {P : Program} {t : TypeId} {b : Bool} (h : aggB P t = some b) (w : World) : (isAgg t).run P w = .ok b w := by
  unfold aggB at h
  cases hu : P.underlying t with
  | none => simp [hu] at h
  | some d =>
    simp [hu] at h
    subst h
    simp only [isAgg, Sem.run_bind, run_underlying hu, Result.andThen_ok]
    cases d <;> simp
theorem run_szB {P : Program} {t : TypeId} {n : Nat} (h : szB P t = some n) (w : World) : (sizeOf t).run P w = .ok n w := by
  unfold szB at h
  cases hu : P.info? t with
  | none => simp [hu] at h
  | some d =>
    simp [hu] at h
    subst h
    simp [sizeOf, typeInfo, hu]
theorem run_zeroC {P : Program} {t : TypeId} {cs : List Value} (h : zeroC P t = some cs) (w : World) : ∃ z, (zeroValue t).run P w = .ok z w ∧ z.cells = cs.toArray := by
  unfold zeroC at h
  cases hu : P.info? t with
  | none => simp [hu] at h
  | some d =>
    simp [hu] at h
    obtain ⟨z, h1, h2⟩ := h
    refine ⟨z, by simp [zeroValue, typeInfo, hu, h1], ?_⟩
    rw [← h2]

def enters (P : Program) (f : FuncId) : Bool := match P.funcs[f]? with | some fn => fn.name != "runtime.NumGoroutine" && fn.body.isSome | none => false
theorem run_enters {P : Program} {f : FuncId} (h : enters P f = true) (args : Array Value) (w : World) : (callFunc f args).run P w = .ok (.enter f args) w := by
  unfold enters at h
  cases hf : P.funcs[f]? with
  | none => simp [hf] at h
  | some fn =>
    simp [hf] at h
    have hb : fn.body ≠ none := by cases hb : fn.body <;> simp_all
    simp [callFunc, hf, h.1, hb]

theorem plain_add (b o k : Nat) : (⟨b, o, none⟩ : Addr).add k = ⟨b, o + k, none⟩ := Addr.add_lit b o k

section
variable {P : Program} {n : Nat} {Fr : List (Nat × Value)} {a : Act} {w w0 : World} {S : World → Prop} {X : List Nat} {Γ : List Res}
variable {ops : Array Oper} {rest : List Oper} {Q : Exit → Act → World → Prop} {K : Act → World → Prop} {op : Op} {t s ty d f : Nat} {pos : String} {aft : Array Edge} {g : Option (Nat × Bool)} {v : Value} {x y : Operand}

theorem p_faddr {b o k : Nat} (h : ev Fr x = some (.pointer (some ⟨b, o, none⟩))) (hf : foff P s f = some k) : PureIf P S (.fieldAddr s x f) ty Fr (.pointer (some ⟨b, o + k, none⟩)) := fun n a w dst pos aft g F hS => by
  simp only [execOp, F.ev h]
  unfold foff at hf
  cases hu : P.underlying s with
  | none => simp [hu] at hf
  | some D =>
    cases D with
    | struct fs =>
      simp only [hu] at hf
      cases hfd : fs[f]? with
      | none => simp [hfd] at hf
      | some fd =>
        simp only [hfd] at hf
        cases hi : P.info? fd.type with
        | none => simp [hi] at hf
        | some i =>
          simp only [hi] at hf
          by_cases hz : i.size = 0
          · simp [hz] at hf
          · simp [hz] at hf
            simp [Instr.fieldAt, run_underlying hu, hfd, Instr.sureAddr, fieldPlace, sizeOf, typeInfo, hi, hz, plain_add, hf]
    | _ => simp [hu] at hf

theorem p_load {b o : Nat} (h : ev Fr x = some (.pointer (some ⟨b, o, none⟩))) (hs : aggB P t = some false) (hc : ∀ w, S w → w.cell? ⟨b, o, none⟩ = some v) : PureIf P S (.load t x) ty Fr v := fun n a w dst pos aft g F hS => by
  simp [execOp, F.ev h, Instr.loadAt, Instr.sureAddr, loadVar, run_isAgg hs, hc w hS]

theorem p_loadA {b o : Nat} {cs : List Value} (h : ev Fr x = some (.pointer (some ⟨b, o, none⟩))) (hs : aggB P t = some true) (hz : szB P t = some cs.length) (hc : ∀ w, S w → ∀ j v, cs[j]? = some v → w.cell? ⟨b, o + j, none⟩ = some v) :
    PureIf P S (.load t x) ty Fr (.agg cs.toArray) := fun n a w dst pos aft g F hS => by
  have hl := run_loadCells_list (P := P) w ⟨b, o, none⟩ cs (fun j v hj => by rw [plain_add]; exact hc w hS j v hj)
  simp [execOp, F.ev h, Instr.loadAt, Instr.sureAddr, loadVar, run_isAgg hs, run_szB hz, hl]

theorem p_not {b : Bool} (h : ev Fr x = some (.bool b)) : PureIf P S (.unOp .not t x) ty Fr (.bool (!b)) := fun n a w dst pos aft g F hS => by
  simp only [execOp, F.ev h]; simp [go_sem]
theorem p_len_s {s : ByteArray} (h : ev Fr x = some (.string s)) (ht : P.underlying t = some .string) : PureIf P S (.call { callee := .builtin .len, args := #[x], argTypes := #[t] }) ty Fr (.int .i64 s.size) := fun n a w dst pos aft g F hS => by
  simp [execOp, resolve, invoke, builtin, F.ev h, run_len_string w t ty s ht, goInt]
theorem p_len_l {p : Option Addr} {m c : Nat} {E : TypeId} (h : ev Fr x = some (.slice p m c)) (ht : P.underlying t = some (.slice E)) : PureIf P S (.call { callee := .builtin .len, args := #[x], argTypes := #[t] }) ty Fr (.int .i64 m) := fun n a w dst pos aft g F hS => by
  simp [execOp, resolve, invoke, builtin, F.ev h, Builtin.len_, run_underlying ht, goInt]

/-! effects -/
theorem o_alloc {T : TypeId} {cs : List Value} (F : Has n Fr a) (O : Own w0 X Γ w) (hz : zeroC P T = some cs) (hd : Nat.blt d n = true)
    (k : ∀ b w', Own w0 X (.cells b cs T :: Γ) w' → ∀ a', Has n ((d, .pointer (some ⟨b, 0, none⟩)) :: Fr) a' → K a' w') : Oper.wp P ⟨some d, .alloc T, ty, pos, aft, g⟩ a w K Q := by
  obtain ⟨z, hr, hc⟩ := run_zeroC hz w
  unfold Oper.wp
  simp only [execOp, Instr.alloc, Sem.run_bind, hr, Result.andThen_ok]
  simp [newVar, newRow, hc, Oper.upon]
  have := O.alloc cs T
  exact k _ _ this _ (F.put (lt_of_blt hd) _)
theorem o_box {T : TypeId} (F : Has n Fr a) (O : Own w0 X Γ w) (h : ev Fr x = some v) (hd : Nat.blt d n = true)
    (k : ∀ b w', Own w0 X (.cells b v.cells.toList T :: Γ) w' → ∀ a', Has n ((d, .pointer (some ⟨b, 0, none⟩)) :: Fr) a' → K a' w') : Oper.wp P ⟨some d, .box T x, ty, pos, aft, g⟩ a w K Q := by
  unfold Oper.wp
  simp only [execOp, Instr.box, F.ev h]
  simp [newVar, newRow, Oper.upon]
  have := O.alloc v.cells.toList T
  simp at this
  exact k _ _ this _ (F.put (lt_of_blt hd) _)
theorem o_call {fid : FuncId} {args : Array Operand} {tys : Array TypeId} {vs : Array Value} (F : Has n Fr a) (hen : enters P fid = true) (hargs : args.toList.map (ev Fr) = vs.toList.map some) (hd : Nat.blt d n = true)
    (h : Calls P fid vs w fun e w' => ∃ v, e = .returned v ∧ ∀ a', Has n ((d, v) :: Fr) a' → K a' w') : Oper.wp P ⟨some d, .call { callee := .value (.func fid), args := args, argTypes := tys }, ty, pos, aft, g⟩ a w K Q := by
  have e : args.map a.eval = vs := by
    apply Array.toList_inj.1
    rw [Array.toList_map]
    have : ∀ (l : List Operand) (m : List Value), l.map (ev Fr) = m.map some → l.map a.eval = m := by
      intro l
      induction l with
      | nil => intro m hm; cases m with
        | nil => rfl
        | cons => simp at hm
      | cons q l ih =>
        intro m hm
        cases m with
        | nil => simp at hm
        | cons u m =>
          simp at hm
          rw [List.map_cons, F.ev hm.1, ih m hm.2]
    exact this _ _ hargs
  unfold Oper.wp
  simp only [execOp, resolve, Sem.run_bind, e, Deferred.ofValue, Act.eval]
  simp [invoke, run_enters hen, Oper.upon]
  refine h.mono fun e' w' ⟨v, he, hk⟩ => ?_
  subst he
  exact hk _ (F.put (lt_of_blt hd) _)

theorem o_store {b o : Nat} {cs : List Value} {T : TypeId} (F : Has n Fr a) (O : Own w0 X Γ w) (hx : ev Fr x = some (.pointer (some ⟨b, o, none⟩))) (hy : ev Fr y = some v) (hz : szB P t = some 1) (hv : v.cells = #[v]) (h1 : v.oneCell' = true)
    (i : Nat) (hr : Γ[i]? = some (.cells b cs T)) (ho : Nat.blt o cs.length = true) (k : ∀ w', Own w0 X (Γ.set i (.cells b (cs.set o v) T)) w' → K a w') : Oper.wp P ⟨none, .store t x y, ty, pos, aft, g⟩ a w K Q := by
  obtain ⟨u, hu⟩ : ∃ u, cs[o]? = some u := ⟨_, List.getElem?_eq_getElem (lt_of_blt ho)⟩
  have hc := O.load i hr hu
  have hf := O.free i (o := o) hr
  have hs := run_store P w ⟨b, o, none⟩ v .plain h1
  unfold Oper.wp
  simp only [execOp, F.ev hx, F.ev hy]
  simp [Instr.storeAt, Instr.sureAddr, storeVar, run_szB hz, hv, storeCells, plain_add, hs, hc, hf, Oper.upon]
  exact k _ (O.set i hr o v)

theorem storeCells_own {b : Nat} {T : TypeId} (i : Nat) : ∀ (vs : List Value) (o j : Nat) (cs : List Value) (w : World) (Γ : List Res), Own w0 X Γ w → Γ[i]? = some (.cells b cs T) → (∀ v ∈ vs, v.oneCell' = true) → o + j + vs.length ≤ cs.length →
    ∃ w', (storeCells ⟨b, o, none⟩ vs j).run P w = .ok () w' ∧ Own w0 X (Γ.set i (.cells b (cs.take (o + j) ++ vs ++ cs.drop (o + j + vs.length)) T)) w'
  | [], o, j, cs, w, Γ, O, hr, _, hl => by
    refine ⟨w, by simp [storeCells], ?_⟩
    have : Γ.set i (.cells b (cs.take (o + j) ++ [] ++ cs.drop (o + j + ([] : List Value).length)) T) = Γ := by
      simp
      apply List.ext_getElem?
      intro q
      rw [List.getElem?_set]
      split
      · rename_i e; subst e
        rw [hr]
        split
        · rfl
        · rename_i h; rw [List.getElem?_eq_none (by omega)] at hr; cases hr
      · rfl
    rw [this]; exact O
  | v :: vs, o, j, cs, w, Γ, O, hr, h1, hl => by
    simp only [List.length_cons] at hl
    obtain ⟨u, hu⟩ : ∃ u, cs[o + j]? = some u := ⟨_, List.getElem?_eq_getElem (by omega)⟩
    have hc := O.load i hr hu
    have hf := O.free i (o := o + j) hr
    have hs := run_store P w ⟨b, o + j, none⟩ v .plain (h1 v (by simp))
    have hi : i < Γ.length := (List.getElem?_eq_some_iff.1 hr).1
    obtain ⟨w', hrun, O'⟩ := storeCells_own i vs o (j + 1) (cs.set (o + j) v) _ _ (O.set i hr (o + j) v) (show (Γ.set i (.cells b (cs.set (o + j) v) T))[i]? = some (.cells b (cs.set (o + j) v) T) by rw [List.getElem?_set_self hi]) (fun x hx => h1 x (by simp [hx])) (by simp; omega)
    refine ⟨w', ?_, ?_⟩
    · simp only [storeCells, plain_add, Sem.run_bind, hs, hc, hf]
      simpa using hrun
    · rw [List.set_set] at O'
      have e : (cs.set (o + j) v).take (o + (j + 1)) ++ vs ++ (cs.set (o + j) v).drop (o + (j + 1) + vs.length) = cs.take (o + j) ++ (v :: vs) ++ cs.drop (o + j + (v :: vs).length) := by
        rw [List.drop_set_of_lt (by omega), ← Nat.add_assoc, List.take_add_one, List.getElem?_set_self (by omega), List.take_set_of_le (by omega)]
        simp [Nat.add_assoc, Nat.add_comm 1]
      rw [e] at O'
      exact O'

theorem o_storeA {b o : Nat} {cs vs : List Value} {T : TypeId} (F : Has n Fr a) (O : Own w0 X Γ w) (hx : ev Fr x = some (.pointer (some ⟨b, o, none⟩))) (hy : ev Fr y = some (.agg vs.toArray)) (hz : szB P t = some vs.length) (h1 : ∀ v ∈ vs, v.oneCell' = true)
    (i : Nat) (hr : Γ[i]? = some (.cells b cs T)) (ho : Nat.ble (o + vs.length) cs.length = true) (k : ∀ w', Own w0 X (Γ.set i (.cells b (cs.take o ++ vs ++ cs.drop (o + vs.length)) T)) w' → K a w') : Oper.wp P ⟨none, .store t x y, ty, pos, aft, g⟩ a w K Q := by
  obtain ⟨w', hrun, O'⟩ := storeCells_own (P := P) i vs o 0 cs w Γ O hr h1 (by simpa using Nat.le_of_ble_eq_true ho)
  unfold Oper.wp
  simp only [execOp, F.ev hx, F.ev hy]
  simp [Instr.storeAt, Instr.sureAddr, storeVar, run_szB hz, Value.cells, hrun, Oper.upon]
  exact k _ (by simpa using O')

/-! ### control -/
theorem c_region {id : Nat} {l : List Oper} (h : wpList P l.toArray Q l a w) : (Code.region id l.toArray false).wp P Q a w := wp_region_lit h
theorem c_nil (h : Q .normal a w) : wpList P ops Q [] a w := h
theorem c_seq {A B : Code} (h : ∀ K : Act → World → Prop, (∀ a w, B.wp P Q a w → K a w) → A.wp P (Exit.then K Q) a w) : (Code.seq A B).wp P Q a w := wp_seq_k h
/-- Two pieces in a row, with what holds between them said. -/
theorem c_mid {A B : Code} (J : Act → World → Prop) (h : A.wp P (Exit.then J Q) a w) (h2 : ∀ a w, J a w → B.wp P Q a w) : (Code.seq A B).wp P Q a w :=
  wp_seq (wp_mono h fun e a w q => by cases e <;> first | exact h2 _ _ q | exact q)
theorem c_ift {c : Operand} {A B : Code} (F : Has n Fr a) (hc : ev Fr c = some (.bool true)) (h : A.wp P Q a w) : (Code.cond c A B).wp P Q a w := wp_cond_true (F.ev hc) h
theorem c_iff {c : Operand} {A B : Code} (F : Has n Fr a) (hc : ev Fr c = some (.bool false)) (h : B.wp P Q a w) : (Code.cond c A B).wp P Q a w := wp_cond_false (F.ev hc) h
theorem c_loop {c : Code} (I : Nat → Act → World → Prop) (h0 : ∃ m, I m a w) (round : ∀ m a w, I m a w → c.wp P (Exit.then (fun a' w' => ∃ m', m' < m ∧ I m' a' w') Q) a w) : (Code.loop c).wp P Q a w := by
  intro b k cs
  have key : ∀ m a w, I m a w → ∃ e a' w', Q e a' w' ∧ Arrives P (lone (b.at a (.code c :: .inLoop c :: k)) cs w) b k cs e a' w' := by
    intro m
    induction m using Nat.strongRecOn with
    | _ m ih =>
      intro a w hI
      obtain ⟨e, a₁, w₁, hq, harr⟩ := round m a w hI b (.inLoop c :: k) cs
      cases e with
      | normal =>
        obtain ⟨m', hlt, hI₁⟩ := hq
        obtain ⟨e₂, a₂, w₂, hq₂, harr₂⟩ := ih m' hlt a₁ w₁ hI₁
        exact ⟨e₂, a₂, w₂, hq₂, .of_steps (Steps.trans harr (.one step_inLoop)) harr₂⟩
      | exit id => exact ⟨_, a₁, w₁, hq, .pass (x := .inLoop c) rfl (fun _ _ => .inl (by simp)) harr⟩
      | goto l => exact ⟨_, a₁, w₁, hq, .pass (x := .inLoop c) rfl (fun _ _ => .inl (by simp)) harr⟩
      | ret => exact ⟨_, a₁, w₁, hq, .pass (x := .inLoop c) rfl (fun _ _ => .inl (by simp)) harr⟩
      | panic ch => exact ⟨_, a₁, w₁, hq, .pass (x := .inLoop c) rfl (fun _ _ => .inl (by simp)) harr⟩
      | outgrown => exact ⟨_, a₁, w₁, hq, .pass (x := .inLoop c) rfl (fun _ _ => .inl (by simp)) harr⟩
  obtain ⟨m, hm⟩ := h0
  obtain ⟨e, a', w', hq, harr⟩ := key m a w hm
  exact ⟨e, a', w', hq, .of_steps (.one step_loop) harr⟩
theorem e_here {id : Nat} (h : Q .normal a w) : Exit.inBlock id Q (.exit id) a w := by simpa [Exit.inBlock] using h
theorem e_then {id : Nat} {K : Act → World → Prop} (h : Q (.exit id) a w) : Exit.then K Q (.exit id) a w := h
theorem r_then {K : Act → World → Prop} (h : Q .ret a w) : Exit.then K Q .ret a w := h
theorem r_block {id : Nat} (h : Q .ret a w) : Exit.inBlock id Q .ret a w := h
theorem e_pass {id j : Nat} (hne : j ≠ id) (h : Q (.exit j) a w) : Exit.inBlock id Q (.exit j) a w := by simpa [Exit.inBlock, hne] using h

/-! ### entering, returning -/
theorem enter {fid : FuncId} {fn : Func} {body : Code} {args : Array Value} {R : Ending → World → Prop} (hf : P.funcs[fid]? = some fn) (hb : fn.body = some body) (hn : fn.ntmps = n) (hle : Nat.ble args.size n = true)
    (h : ∀ a, Has n ((List.range args.size).zip args.toList) a → body.wp P (bodyPost P fn R) a w) : Calls P fid args w R := by
  have hle' := Nat.le_of_ble_eq_true hle
  refine calls_of_wp hf hb (h _ ⟨rfl, by simp [hn]; omega, fun i v hv => ?_⟩)
  have key : ∀ (l : List Value) (s i : Nat) (v : Value), look ((List.range' s l.length).zip l) i = some v → s ≤ i ∧ l[i - s]? = some v := by
    intro l
    induction l with
    | nil => intro s i v h; simp [look] at h
    | cons u l ih =>
      intro s i v h
      rw [List.length_cons, List.range'_succ, List.zip_cons_cons, look_cons] at h
      by_cases e : i = s
      · subst e; simp at h; subst h; simp
      · rw [if_neg e] at h
        obtain ⟨h1, h2⟩ := ih (s + 1) i v h
        refine ⟨by omega, ?_⟩
        have : i - s = (i - (s + 1)) + 1 := by omega
        rw [this]; simpa using h2
  have hl : args.size = args.toList.length := by simp
  rw [hl, List.range_eq_range'] at hv
  obtain ⟨_, h2⟩ := key _ _ _ _ hv
  have h3 : args[i]? = some v := by simpa using h2
  show (args ++ Array.replicate (fn.ntmps - args.size) undef)[i]? = some v
  rw [Array.getElem?_append_left (Array.getElem?_eq_some_iff.1 h3).1]
  exact h3

theorem enterO {fid : FuncId} {fn : Func} {body : Code} {args : Array Value} {R : Ending → World → Prop} (hf : P.funcs[fid]? = some fn) (hb : fn.body = some body) (hn : fn.ntmps = n) (hle : Nat.ble args.size n = true) (O : Own w0 X Γ w0)
    (h : ∀ a w, Has n ((List.range args.size).zip args.toList) a → Own w0 X Γ w → body.wp P (bodyPost P fn R) a w) : Calls P fid args w0 R := enter hf hb hn hle fun a F => h a w0 F O
theorem ret1 {fn : Func} {R : Ending → World → Prop} {t : Nat} (F : Has n Fr a) (hr : fn.results = #[.tmp t]) (hv : look Fr t = some v) (h : R (.returned v) w) : bodyPost P fn R .ret a w := by
  refine ⟨F.defers, v, ?_, h⟩
  have := F.get t v hv
  simp [results, hr, Array.getD_eq_getD_getElem?, this]
theorem ret2 {fn : Func} {R : Ending → World → Prop} {t s : Nat} {u : Value} (F : Has n Fr a) (hr : fn.results = #[.tmp t, .tmp s]) (hv : look Fr t = some v) (hu : look Fr s = some u) (h : R (.returned (.tuple #[v, u])) w) : bodyPost P fn R .ret a w := by
  refine ⟨F.defers, _, ?_, h⟩
  have h1 := F.get t v hv
  have h2 := F.get s u hu
  simp [results, hr, Array.getD_eq_getD_getElem?, h1, h2]
theorem ret0 {fn : Func} {R : Ending → World → Prop} (F : Has n Fr a) (hr : fn.results = #[]) (h : R (.returned (.tuple #[])) w) : bodyPost P fn R .ret a w := ⟨F.defers, _, by simp [results, hr], h⟩
theorem retN0 {fn : Func} {R : Ending → World → Prop} (F : Has n Fr a) (hr : fn.results = #[]) (h : R (.returned (.tuple #[])) w) : bodyPost P fn R .normal a w := ⟨F.defers, _, by simp [results, hr], h⟩

theorem run_loadA {b : Nat} {cs : List Value} {T i : Nat} {t : TypeId} (O : Own w0 X Γ w) (hr : Γ[i]? = some (.cells b cs T)) (hs : aggB P t = some true) (hz : szB P t = some cs.length) : (loadVar t ⟨b, 0, none⟩).run P w = .ok (.agg cs.toArray) w := by
  have hl := run_loadCells_list (P := P) w ⟨b, 0, none⟩ cs (fun j v hj => by rw [plain_add]; exact O.load i hr (by simpa using hj))
  simp [loadVar, run_isAgg hs, run_szB hz, hl]
/-- A struct result. -/
theorem retC {fn : Func} {R : Ending → World → Prop} {t T : Nat} {T' : TypeId} {b : Nat} {cs : List Value} (F : Has n Fr a) (O : Own w0 X Γ w) (hr : fn.results = #[.cell t T']) (hv : look Fr t = some (.pointer (some ⟨b, 0, none⟩))) (i : Nat) (hi : Γ[i]? = some (.cells b cs T)) (hs : aggB P T' = some true) (hz : szB P T' = some cs.length)
    (h : R (.returned (.agg cs.toArray)) w) : bodyPost P fn R .ret a w := by
  refine ⟨F.defers, _, ?_, h⟩
  have h1 := F.get t _ hv
  simp [results, hr, Array.getD_eq_getD_getElem?, h1, asAddr, run_loadA O hi hs hz]
theorem retCT {fn : Func} {R : Ending → World → Prop} {t s T : Nat} {T' : TypeId} {b : Nat} {cs : List Value} (F : Has n Fr a) (O : Own w0 X Γ w) (hr : fn.results = #[.cell t T', .tmp s]) (hv : look Fr t = some (.pointer (some ⟨b, 0, none⟩))) (hu : look Fr s = some v) (i : Nat) (hi : Γ[i]? = some (.cells b cs T)) (hs : aggB P T' = some true) (hz : szB P T' = some cs.length)
    (h : R (.returned (.tuple #[.agg cs.toArray, v])) w) : bodyPost P fn R .ret a w := by
  refine ⟨F.defers, _, ?_, h⟩
  have h1 := F.get t _ hv
  have h2 := F.get s _ hu
  simp [results, hr, Array.getD_eq_getD_getElem?, h1, h2, asAddr, run_loadA O hi hs hz]
end

/-! ### strings as lists of bytes -/
@[reducible] def bs (l : List UInt8) : ByteArray := ⟨l.toArray⟩
theorem bs_size (l : List UInt8) : (bs l).size = l.length := rfl
theorem bs_list (l : List UInt8) : (bs l).data.toList = l := rfl
theorem bs_of (s : ByteArray) : s = bs s.data.toList := rfl
theorem bs_toList (l : List UInt8) : (bs l).toList = l := ByteArray.toList_eq (bs l)
theorem bs_append (l m : List UInt8) : bs l ++ bs m = bs (l ++ m) := by
  apply ByteArray.ext
  show (bs l ++ bs m).data = _
  rw [ByteArray.data_append]
  simp
/-- The byte at a place. -/
def byteAt (l : List UInt8) (i : Int) : Int := ((l.getD i.toNat 0).toNat : Int)
theorem byteAt_lo (l : List UInt8) (i : Int) : 0 ≤ byteAt l i := by unfold byteAt; omega
theorem byteAt_hi (l : List UInt8) (i : Int) : byteAt l i < 256 := by unfold byteAt; have := (l.getD i.toNat 0).toNat_lt; omega
/-- The bytes from one place to another. -/
def sub (l : List UInt8) (i j : Int) : List UInt8 := (l.take j.toNat).drop i.toNat
theorem sub_length (l : List UInt8) (i j : Int) (h0 : 0 ≤ i) (h1 : i ≤ j) (h2 : j ≤ l.length) : ((sub l i j).length : Int) = j - i := by
  unfold sub; rw [List.length_drop, List.length_take]; omega
theorem bs_extract (l : List UInt8) (i j : Nat) : (bs l).extract i j = bs ((l.take j).drop i) := by
  apply ByteArray.ext
  rw [ByteArray.data_extract]
  apply Array.toList_inj.1
  rw [Array.toList_extract]
  simp [List.extract_eq_take_drop, List.drop_take]
/-- A byte as a cell. -/
@[reducible] def u8v (b : UInt8) : Value := .int .u8 (b.toNat : Int)

section
variable {P : Program} {n : Nat} {Fr : List (Nat × Value)} {a : Act} {w w0 : World} {S : World → Prop} {X : List Nat} {Γ : List Res}
variable {ops : Array Oper} {rest : List Oper} {Q : Exit → Act → World → Prop} {K : Act → World → Prop} {op : Op} {t s yt ty d f : Nat} {pos : String} {aft : Array Edge} {g : Option (Nat × Bool)} {v : Value} {x y : Operand}
variable {l m : List UInt8} {i j : Int}

theorem p_len_b (h : ev Fr x = some (.string (bs l))) (ht : P.underlying t = some .string) : PureIf P S (.call { callee := .builtin .len, args := #[x], argTypes := #[t] }) ty Fr (.int .i64 (l.length : Int)) := p_len_s h ht
theorem p_index (h : ev Fr x = some (.string (bs l))) (hi : ev Fr y = some (.int .i64 i)) (ht : P.underlying t = some .string) (h0 : 0 ≤ i) (h1 : i < l.length) : PureIf P S (.index t x y) ty Fr (.int .u8 (byteAt l i)) := fun n a w dst pos aft g F hS => by
  have hlt : i.toNat < l.length := by omega
  have hi2 : 0 ≤ i ∧ i < ((bs l).size : Int) := ⟨h0, h1⟩
  have e : ((bs l)[i.toNat]'(by show i.toNat < l.length; omega)) = l.getD i.toNat 0 := by
    rw [List.getD_eq_getElem?_getD, List.getElem?_eq_getElem hlt]; rfl
  simp only [execOp, F.ev h, F.ev hi]
  rw [Sem.run_bind, run_index_string w t (bs l) .i64 i ht, dif_pos hi2, e]
  rfl
theorem p_cat (hx : ev Fr x = some (.string (bs l))) (hy : ev Fr y = some (.string (bs m))) (hl : (l.length : Int) + m.length ≤ 9223372036854775807) : PureIf P S (.binOp .add t x y yt) ty Fr (.string (bs (l ++ m))) := fun n a w dst pos aft g F hS => by
  simp only [execOp, F.ev hx, F.ev hy]
  have := run_string_add_sum (P := P) w (bs l) (bs m) (by rw [bs_size, bs_size]; omega)
  simp [eqGuard_at_string, binOp_string_add, this, bs_append]
theorem p_seq (hx : ev Fr x = some (.string (bs l))) (hy : ev Fr y = some (.string (bs m))) : PureIf P S (.binOp .eql t x y yt) ty Fr (.bool (decide (l = m))) := fun n a w dst pos aft g F hS => by
  simp only [execOp, F.ev hx, F.ev hy]
  simp only [eqGuard_at_string, binOp_string_eql, bs_toList]
  by_cases h : l = m <;> simp [h]
theorem p_sne (hx : ev Fr x = some (.string (bs l))) (hy : ev Fr y = some (.string (bs m))) : PureIf P S (.binOp .neq t x y yt) ty Fr (.bool (decide (l ≠ m))) := fun n a w dst pos aft g F hS => by
  simp only [execOp, F.ev hx, F.ev hy]
  simp only [eqGuard_at_string, binOp_string_neq, bs_toList]
  by_cases h : l = m <;> simp [h]
theorem p_seqL (hx : ev Fr x = some (.string (bs l))) (hy : ev Fr y = some (.string (bs m))) (u : Bool) (h : decide (l = m) = u) : PureIf P S (.binOp .eql t x y yt) ty Fr (.bool u) := h ▸ p_seq hx hy
theorem p_sneL (hx : ev Fr x = some (.string (bs l))) (hy : ev Fr y = some (.string (bs m))) (u : Bool) (h : decide (l ≠ m) = u) : PureIf P S (.binOp .neq t x y yt) ty Fr (.bool u) := h ▸ p_sne hx hy
theorem p_ssub {lo hi : Operand} (h : ev Fr x = some (.string (bs l))) (hlo : ev Fr lo = some (.int .i64 i)) (hhi : ev Fr hi = some (.int .i64 j)) (ht : P.underlying t = some .string) (h0 : 0 ≤ i) (h1 : i ≤ j) (h2 : j ≤ l.length) :
    PureIf P S (.slice t x (some lo) (some hi) none) ty Fr (.string (bs (sub l i j))) := fun n a w dst pos aft g F hS => by
  simp only [execOp, F.ev h, Option.map_some, F.ev hlo, F.ev hhi, Option.map_none]
  rw [Sem.run_bind, run_sliceAt_string w t _ _ _ _ ht, run_slice_string w t (bs l) .i64 .i64 i j ht h0 h1 h2, bs_extract]
  rfl
theorem p_sfrom {lo : Operand} (h : ev Fr x = some (.string (bs l))) (hlo : ev Fr lo = some (.int .i64 i)) (ht : P.underlying t = some .string) (h0 : 0 ≤ i) (h1 : i ≤ l.length) :
    PureIf P S (.slice t x (some lo) none none) ty Fr (.string (bs (l.drop i.toNat))) := fun n a w dst pos aft g F hS => by
  simp only [execOp, F.ev h, Option.map_some, F.ev hlo, Option.map_none]
  rw [Sem.run_bind, run_sliceAt_string w t _ _ _ _ ht, run_slice_string_from_if w t (bs l) .i64 i ht, if_pos ⟨h0, h1⟩, bs_extract, bs_size, List.take_of_length_le (Nat.le_refl _)]
  rfl
theorem p_sto {hi : Operand} (h : ev Fr x = some (.string (bs l))) (hhi : ev Fr hi = some (.int .i64 j)) (ht : P.underlying t = some .string) (h0 : 0 ≤ j) (h1 : j ≤ l.length) :
    PureIf P S (.slice t x none (some hi) none) ty Fr (.string (bs (l.take j.toNat))) := fun n a w dst pos aft g F hS => by
  simp only [execOp, F.ev h, Option.map_some, F.ev hhi, Option.map_none]
  rw [Sem.run_bind, run_sliceAt_string w t _ _ _ _ ht, run_slice_string_to_if w t (bs l) .i64 j ht, if_pos ⟨h0, h1⟩, bs_extract]
  rfl

/-! conversions of integers -/
theorem p_conv {K1 K2 : IntKind} {q r : Int} (h : ev Fr x = some (.int K1 q)) (hs : (P.underlying s).isSome = true) (hd : P.underlying t = some (.int K2)) (he : K2.wrap q = r) : PureIf P S (.convert s t x) ty Fr (.int K2 r) := fun n a w dst pos aft g F hS => by
  have hk : P.intKind t = K2 := by simp [Program.intKind, hd]
  have := run_convert_int (P := P) w s t K1 q hs (by rw [hk]; exact hd)
  simp only [execOp, F.ev h]
  simp [this, hk, he]
theorem p_conv64 {K1 : IntKind} {q : Int} (h : ev Fr x = some (.int K1 q)) (hs : (P.underlying s).isSome = true) (hd : P.underlying t = some (.int .i64)) (h0 : -9223372036854775808 ≤ q) (h1 : q < 9223372036854775808) : PureIf P S (.convert s t x) ty Fr (.int .i64 q) :=
  p_conv h hs hd (by rw [IntKind.wrap_i64]; omega)
theorem p_convu8 {K1 : IntKind} {q : Int} (h : ev Fr x = some (.int K1 q)) (hs : (P.underlying s).isSome = true) (hd : P.underlying t = some (.int .u8)) : PureIf P S (.convert s t x) ty Fr (.int .u8 (q % 256)) :=
  p_conv h hs hd (by rw [IntKind.wrap_u8])
theorem p_convu8s {K1 : IntKind} {q : Int} (h : ev Fr x = some (.int K1 q)) (hs : (P.underlying s).isSome = true) (hd : P.underlying t = some (.int .u8)) (h0 : 0 ≤ q) (h1 : q < 256) : PureIf P S (.convert s t x) ty Fr (.int .u8 q) :=
  p_conv h hs hd (by rw [IntKind.wrap_u8]; omega)
theorem p_neg {q : Int} (h : ev Fr x = some (.int .i64 q)) (h0 : -9223372036854775808 < q) (h1 : q < 9223372036854775808) : PureIf P S (.unOp .neg t x) ty Fr (.int .i64 (-q)) := fun n a w dst pos aft g F hS => by
  have e : IntKind.i64.wrap (-q) = -q := by rw [IntKind.wrap_i64]; omega
  simp only [execOp, F.ev h]; simp [go_sem, e]

/-! slices -/
theorem p_iaddr {b o sz : Nat} {q c : Nat} {E : TypeId} (h : ev Fr x = some (.slice (some ⟨b, o, none⟩) q c)) (hi : ev Fr y = some (.int .i64 i)) (ht : P.underlying t = some (.slice E)) (hz : szB P E = some sz) (h0 : 0 ≤ i) (h1 : i < q) :
    PureIf P S (.indexAddr t x y) ty Fr (.pointer (some ⟨b, o + i.toNat * sz, none⟩)) := fun n a w dst pos aft g F hS => by
  simp only [execOp, F.ev h, F.ev hi]
  simp [Instr.indexAt, run_underlying ht, asIntOf, h0, h1, run_szB hz, plain_add]
theorem p_slto {hi : Operand} {p : Option Addr} {q c sz : Nat} {E : TypeId} (h : ev Fr x = some (.slice p q c)) (hhi : ev Fr hi = some (.int .i64 j)) (ht : P.underlying t = some (.slice E)) (hz : szB P E = some sz) (h0 : 0 ≤ j) (h1 : j ≤ c) :
    PureIf P S (.slice t x none (some hi) none) ty Fr (.slice p j.toNat c) := fun n a w dst pos aft g F hS => by
  have e : (if c = 0 then p else p.map fun z => z.add 0) = p := by cases p <;> simp [Addr.add_zero']
  simp only [execOp, F.ev h, Option.map_some, F.ev hhi, Option.map_none]
  simp [Instr.sliceAt, Instr.slice, Instr.sliceBounds, Instr.sliceBound, asIntOf, run_underlying ht, h0, h1, run_szB hz, e]
end

/-! ### values that are built out of parts -/
def lfill (place : Nat → Option (Nat × Nat)) : List Value → List (Nat × Value) → Option (List Value)
  | cs, [] => some cs
  | cs, (i, v) :: rest =>
    match place i with
    | none => none
    | some (off, size) => cond (Nat.beq v.cells.size size && Nat.ble (off + size) cs.length) (lfill place (cs.take off ++ v.cells.toList ++ cs.drop (off + size)) rest) none

theorem fold_set (vs : List Value) : ∀ (k off : Nat) (cs : Array Value), off + k + vs.length ≤ cs.size → ((vs.zipIdx k).foldl (fun cs (q : Value × Nat) => cs.setIfInBounds (off + q.2) q.1) cs).toList = cs.toList.take (off + k) ++ vs ++ cs.toList.drop (off + k + vs.length) := by
  induction vs with
  | nil => intro k off cs h; simp
  | cons v vs ih =>
    intro k off cs h
    simp only [List.length_cons] at h
    rw [List.zipIdx_cons, List.foldl_cons, ih (k + 1) off _ (by simp; omega)]
    simp only [Array.toList_setIfInBounds]
    rw [List.drop_set_of_lt (by omega), ← Nat.add_assoc, List.take_add_one, List.getElem?_set_self (by simpa using (by omega : off + k < cs.size)), List.take_set_of_le (by omega)]
    simp [Nat.add_assoc, Nat.add_comm 1]

theorem lfill_fill {place : Nat → Option (Nat × Nat)} : ∀ {parts : List (Nat × Value)} {cs cs' : List Value}, lfill place cs parts = some cs' → Instr.fill place cs.toArray parts = some cs'.toArray
  | [], cs, cs', h => by simp [lfill] at h; simp [Instr.fill, h]
  | (i, v) :: rest, cs, cs', h => by
    unfold lfill at h
    unfold Instr.fill
    cases hp : place i with
    | none => simp [hp] at h
    | some q =>
      obtain ⟨off, size⟩ := q
      simp only [hp] at h ⊢
      cases hc : (Nat.beq v.cells.size size && Nat.ble (off + size) cs.length) with
      | false => rw [hc] at h; simp at h
      | true =>
        rw [hc] at h
        simp only [Bool.and_eq_true] at hc
        have e1 : v.cells.size = size := Nat.eq_of_beq_eq_true hc.1
        have e2 : off + size ≤ cs.length := Nat.le_of_ble_eq_true hc.2
        have ih := lfill_fill (cs := cs.take off ++ v.cells.toList ++ cs.drop (off + size)) (parts := rest) (cs' := cs') h
        rw [if_neg (by simp [e1]; omega)]
        have hf := fold_set v.cells.toList 0 off cs.toArray (by simp; omega)
        have e3 : v.cells.zipIdx.foldl (fun cs (q : Value × Nat) => cs.setIfInBounds (off + q.2) q.1) cs.toArray = (cs.take off ++ v.cells.toList ++ cs.drop (off + size)).toArray := by
          apply Array.toList_inj.1
          rw [← Array.foldl_toList, Array.toList_zipIdx, hf]
          simp [e1]
        rw [← ih]
        exact congrArg (fun z => Instr.fill place z rest) e3

def placesB (P : Program) (t : TypeId) : Option (List Value × List (Nat × Nat)) :=
  match P.info? t, P.underlying t with
  | some it, some (.struct fields) =>
    match it.zero, fields.toList.mapM (fun f => (P.info? f.type).map fun i => (f.offset, i.size)) with
    | some z, some places => some (z.cells.toList, places)
    | _, _ => none
  | _, _ => none

theorem built_of {P : Program} {t : TypeId} {z : List Value} {pl : List (Nat × Nat)} {parts : List (Nat × Value)} {cs : List Value} (h : placesB P t = some (z, pl)) (hf : lfill (fun i => pl[i]?) z parts = some cs) : P.built t parts = some cs.toArray := by
  unfold placesB at h
  unfold Program.built
  cases h1 : P.info? t with
  | none => simp [h1] at h
  | some it =>
    cases h2 : P.underlying t with
    | none => simp [h1, h2] at h
    | some D =>
      cases D with
      | struct fields =>
        simp only [h1, h2] at h ⊢
        cases h3 : it.zero with
        | none => simp [h3] at h
        | some zz =>
          cases h4 : fields.toList.mapM (fun f => (P.info? f.type).map fun i => (f.offset, i.size)) with
          | none => simp [h3, h4] at h
          | some places =>
            simp only [h3, h4] at h ⊢
            simp at h
            obtain ⟨rfl, rfl⟩ := h
            have := lfill_fill hf
            simpa using this
      | _ => simp [h1, h2] at h

def evP (Fr : List (Nat × Value)) : List (Nat × Operand) → Option (List (Nat × Value))
  | [] => some []
  | (i, x) :: r => match ev Fr x, evP Fr r with
    | some v, some vs => some ((i, v) :: vs)
    | _, _ => none
theorem evP_spec {n : Nat} {Fr : List (Nat × Value)} {a : Act} (F : Has n Fr a) : ∀ {ps : List (Nat × Operand)} {vs : List (Nat × Value)}, evP Fr ps = some vs → ps.map (fun (q : Nat × Operand) => (q.1, a.eval q.2)) = vs
  | [], vs, h => by simp [evP] at h; simp [h]
  | (i, x) :: r, vs, h => by
    unfold evP at h
    cases h1 : ev Fr x with
    | none => simp [h1] at h
    | some v =>
      cases h2 : evP Fr r with
      | none => simp [h1, h2] at h
      | some us =>
        simp [h1, h2] at h
        subst h
        simp [F.ev h1, evP_spec F h2]

section
variable {P : Program} {n : Nat} {Fr : List (Nat × Value)} {a : Act} {w w0 : World} {S : World → Prop} {X : List Nat} {Γ : List Res}
variable {ops : Array Oper} {rest : List Oper} {Q : Exit → Act → World → Prop} {K : Act → World → Prop} {op : Op} {t s yt ty d f : Nat} {pos : String} {aft : Array Edge} {g : Option (Nat × Bool)} {v : Value} {x y : Operand}

theorem p_build {parts : Array (Nat × Operand)} {vs : List (Nat × Value)} {z cs : List Value} {pl : List (Nat × Nat)} (he : evP Fr parts.toList = some vs) (hp : placesB P t = some (z, pl)) (hf : lfill (fun i => pl[i]?) z vs = some cs) :
    PureIf P S (.build t parts) ty Fr (.agg cs.toArray) := fun n a w dst pos aft g F hS => by
  have h1 := evP_spec F he
  have h2 : (parts.map fun (q : Nat × Operand) => (q.1, a.eval q.2)).toList = vs := by rw [Array.toList_map]; exact h1
  have h3 := run_build (P := P) w t (parts.map fun (q : Nat × Operand) => (q.1, a.eval q.2)) cs.toArray (by rw [h2]; exact built_of hp hf)
  show ((Instr.build t (parts.map fun (q : Nat × Operand) => (q.1, a.eval q.2)))   >>= fun v => pure (Next.value v)).run P w = _
  rw [Sem.run_bind, h3]
  rfl

theorem o_bslice {parts : Array (Nat × Operand)} {vs : List (Nat × Value)} {z cs : List Value} {len sz : Nat} {E : TypeId} (F : Has n Fr a) (O : Own w0 X Γ w) (he : evP Fr parts.toList = some vs) (ht : P.underlying t = some (.slice E)) (hz : szB P E = some sz) (hzc : zeroC P E = some z) (hlen : Nat.ble (len * sz) 16777216 = true)
    (hf : lfill (fun i => some (i * sz, sz)) ((List.range (len * sz)).map fun q => z.getD (q % z.length) default) vs = some cs) (hd : Nat.blt d n = true)
    (k : ∀ b w', Own w0 X (.cells b cs E :: Γ) w' → ∀ a', Has n ((d, .slice (some ⟨b, 0, none⟩) len len) :: Fr) a' → K a' w') : Oper.wp P ⟨some d, .buildSlice t len parts, ty, pos, aft, g⟩ a w K Q := by
  have h1 := evP_spec F he
  have h2 : (parts.map fun (q : Nat × Operand) => (q.1, a.eval q.2)).toList = vs := by rw [Array.toList_map]; exact h1
  obtain ⟨zv, hzr, hzz⟩ := run_zeroC hzc w
  have hl : ¬ 2 ^ 24 < len * sz := by have := Nat.le_of_ble_eq_true hlen; omega
  have hini : ∀ (zz : Array Value), (len * sz = 0 ∨ zz = z.toArray) → (Array.range (len * sz)).map (fun q => zz[q % zz.size]!) = ((List.range (len * sz)).map fun q => z.getD (q % z.length) default).toArray := by
    intro zz hzz
    rcases hzz with h0 | h0
    · rw [h0]; simp
    · subst h0
      apply Array.toList_inj.1
      simp [List.getD_eq_getElem?_getD]
  have hfin : ∀ (zz : Array Value), (len * sz = 0 ∨ zz = z.toArray) → Instr.fill (fun i => some (i * sz, sz)) ((Array.range (len * sz)).map (fun q => zz[q % zz.size]!)) vs = some cs.toArray := fun zz hh => by
    rw [hini zz hh]; exact lfill_fill hf
  have hrun : (Instr.buildSlice t len (parts.map fun (q : Nat × Operand) => (q.1, a.eval q.2))).run P w = .ok (.slice (some ⟨w.heap.size, 0, none⟩) len len) (w.alloc (.cells cs.toArray E)) := by
    by_cases h0 : len * sz = 0
    · have := hfin #[] (.inl h0)
      have hl0 : ¬ ((0 : Nat) > 2 ^ 24) := by decide
      simp only [Instr.buildSlice, Sem.run_bind, run_underlying ht, Result.andThen_ok, run_szB hz, h0, if_neg hl0, if_true, Sem.run_pure, h2]
      rw [h0] at this
      simp only [this, newRow, Sem.run_bind, run_newObj_alloc, Result.andThen_ok, Sem.run_pure]
    · have := hfin zv.cells (.inr hzz)
      simp only [Instr.buildSlice, Sem.run_bind, run_underlying ht, Result.andThen_ok, run_szB hz, if_neg hl, if_neg h0, hzr, Sem.run_pure, h2]
      simp only [this, newRow, Sem.run_bind, run_newObj_alloc, Result.andThen_ok, Sem.run_pure]
  unfold Oper.wp
  show Oper.upon P _ a K Q (((Instr.buildSlice t len (parts.map fun (q : Nat × Operand) => (q.1, a.eval q.2)))   >>= fun v => pure (Next.value v)).run P w)
  rw [Sem.run_bind, hrun]
  exact k _ _ (O.alloc cs E) _ (F.put (lt_of_blt hd) _)

/-- A block of the call's own, read as a slice that may grow. -/
theorem Own.asRow (O : Own w0 X Γ w) (i : Nat) {b q sz : Nat} {cs : List Value} {E : TypeId} (h : Γ[i]? = some (.cells b cs E)) (hq : cs.length = q * sz) (hm : q ≤ maxLen) : Own w0 X (Γ.set i (.row E sz (.slice (some ⟨b, 0, none⟩) q q) q cs)) w := by
  obtain ⟨hi, he⟩ := List.getElem?_eq_some_iff.1 h
  have hh := O.has h
  simp only [Res.holds] at hh
  have hr : (Res.row E sz (.slice (some ⟨b, 0, none⟩) q q) q cs).holds w := by
    refine ⟨hq, .inr ⟨b, q, cs.toArray, rfl, Nat.zero_le _, hh, Nat.le_refl _, hm, by simp [hq], ?_⟩⟩
    rw [← hq]; simp
  have e : (Γ.set i (.row E sz (.slice (some ⟨b, 0, none⟩) q q) q cs)).filterMap Res.blk = Γ.filterMap Res.blk := by
    have : (Γ.set i (.row E sz (.slice (some ⟨b, 0, none⟩) q q) q cs)).map Res.blk = Γ.map Res.blk := by
      rw [List.map_set]
      apply List.ext_getElem?
      intro j
      rw [List.getElem?_set]
      split
      · rename_i e; subst e; simp [hi, he, Res.blk, Value.ownBlock]
      · rfl
    have e2 : ∀ l : List Res, l.filterMap Res.blk = (l.map Res.blk).filterMap id := fun l => by rw [List.filterMap_map]; rfl
    rw [e2, e2, this]
  refine ⟨O.os, O.tape, O.output, O.size, O.block, fun r hr' => ?_, by rw [e]; exact O.nodup, fun r hr' c hc => ?_⟩
  · rcases List.mem_or_eq_of_mem_set hr' with h' | h'
    · exact O.each r h'
    · rw [h']; exact hr
  · rcases List.mem_or_eq_of_mem_set hr' with h' | h'
    · exact O.range r h' c hc
    · subst h'
      exact O.range (.cells b cs E) (List.mem_of_getElem? h) c (by simpa [Res.blk, Value.ownBlock] using hc)
theorem Own.addNil (O : Own w0 X Γ w) (E sz : Nat) : Own w0 X (.row E sz (.slice none 0 0) 0 [] :: Γ) w :=
  ⟨O.os, O.tape, O.output, O.size, O.block, fun r hr => by
    rcases List.mem_cons.1 hr with h | h
    · rw [h]; exact World.ownsRow_nil w 0 E sz
    · exact O.each r h, by
    have : (Res.row E sz (.slice none 0 0) 0 []).blk = none := rfl
    rw [List.filterMap_cons_none this]; exact O.nodup, fun r hr b hb => by
    rcases List.mem_cons.1 hr with h | h
    · rw [h] at hb; cases hb
    · exact O.range r h b hb⟩
/-- The same, said otherwise. -/
theorem Own.setR (O : Own w0 X Γ w) (i : Nat) {r r' : Res} (h : Γ[i]? = some r) (e : r = r') : Own w0 X (Γ.set i r') w := by
  subst e
  have : Γ.set i r = Γ := by
    apply List.ext_getElem?
    intro j
    rw [List.getElem?_set]
    split
    · rename_i e; subst e; rw [h]; split
      · rfl
      · rename_i h'; rw [List.getElem?_eq_none (by omega)] at h; cases h
    · rfl
  rw [this]; exact O
/-- What a builtin that grows one row leaves. -/
theorem Own.grown {Γ : List Res} (O : Own w0 X Γ w) (i : Nat) {r r' : Res} (h : Γ[i]? = some r) {w' : World} (hg : w.grownBy w' r.blk) (hr : r'.holds w') (hb : r'.blk = r.blk ∨ r'.blk = some w.heap.size) : Own w0 X (Γ.set i r') w' := by
  obtain ⟨hi, he⟩ := List.getElem?_eq_some_iff.1 h
  have hp : (Γ[i] :: Γ.eraseIdx i).Perm Γ := pullPerm hi
  have O1 : Own w0 X (r :: Γ.eraseIdx i) w := by rw [← he]; exact O.perm hp.symm
  have hi2 : i < (Γ.set i r').length := by simpa using hi
  have hp2 := pullPerm hi2
  rw [List.getElem_set_self, List.eraseIdx_set_eq] at hp2
  refine Own.perm ?_ hp2
  have hnd : [r'].filterMap Res.blk |>.Nodup := by
    cases hq : r'.blk <;> simp [hq]
  cases hrb : r.blk with
  | none =>
    have O2 := O1.drop
    refine Own.call0 (Δ := [r']) O2 ⟨hg.os, hg.tape, hg.output, hg.size, fun j hj _ => hg.block j hj (by rw [hrb]; simp), fun z hz => by simp at hz; rw [hz]; exact hr, hnd, fun z hz c hc => ?_⟩
    simp at hz; subst hz
    rw [hrb] at hb
    rcases hb with hb | hb
    · rw [hb] at hc; cases hc
    · rw [hb] at hc; cases hc; exact .inr (Nat.le_refl _)
  | some bb =>
    refine Own.call1 (Δ := [r']) (b := bb) O1 ⟨hg.os, hg.tape, hg.output, hg.size, fun j hj hX => hg.block j hj (by rw [hrb]; simpa using hX), fun z hz => by simp at hz; rw [hz]; exact hr, hnd, fun z hz c hc => ?_⟩ hrb
    simp at hz; subst hz
    rw [hrb] at hb
    rcases hb with hb | hb
    · rw [hb] at hc; cases hc; exact .inl (by simp)
    · rw [hb] at hc; cases hc; exact .inr (Nat.le_refl _)

def elemB (P : Program) (E : TypeId) : Option (Nat × Nat × Nat) := (P.info? E).bind fun i => i.zero.map fun z => (i.size, i.bytes, z.cells.size)

theorem o_append {p : Option Addr} {q c b2 r c2 sz by' : Nat} {xs ys : List Value} {E T2 : TypeId} (F : Has n Fr a) (O : Own w0 X Γ w) (hx : ev Fr x = some (.slice p q c)) (hy : ev Fr y = some (.slice (some ⟨b2, 0, none⟩) r c2))
    (ht : P.underlying t = some (.slice E)) (hE : elemB P E = some (sz, by', sz)) (hsz : 0 < sz) (i j : Nat) (hr : Γ[i]? = some (.row E sz (.slice p q c) q xs)) (hr2 : Γ[j]? = some (.cells b2 ys T2)) (hl : ys.length = r * sz) (h1 : ys.all (·.oneCell') = true)
    (h63 : q + r ≤ maxLen) (hby : (q + r) * by' ≤ 140737488355328) (hd : Nat.blt d n = true)
    (k : ∀ p' c' w', Own w0 X (Γ.set i (.row E sz (.slice p' (q + r) c') (q + r) (xs ++ ys))) w' → ∀ a', Has n ((d, .slice p' (q + r) c') :: Fr) a' → K a' w') :
    Oper.wp P ⟨some d, .call { callee := .builtin .append, args := #[x, y], argTypes := #[t, t] }, ty, pos, aft, g⟩ a w K Q := by
  unfold elemB at hE
  cases hi : P.info? E with
  | none => simp [hi] at hE
  | some info =>
    cases hzz : info.zero with
    | none => simp [hi, hzz] at hE
    | some z =>
      simp [hi, hzz] at hE
      obtain ⟨e1, e2, e3⟩ := hE
      have hown := O.has hr
      simp only [Res.holds] at hown
      have hnews : ∀ jj u, ys[jj]? = some u → w.cell? ((⟨b2, 0, none⟩ : Addr).add jj) = some u := fun jj u hu => by rw [plain_add, Nat.zero_add]; exact O.load j hr2 hu
      obtain ⟨v', w', hrun, h2, h3, h4, h5⟩ := run_append_own_at (P := P) w 0 t ty E info z sz by' ht hi hzz e1 e2 e3 hsz (.slice p q c) q xs hown ⟨b2, 0, none⟩ r c2 ys hl hnews (fun u hu => by simpa using (List.all_eq_true.1 h1) u hu) h63 hby (Nat.zero_le _)
      have hform : ∃ p' c', v' = .slice p' (q + r) c' := by
        rcases h2.2 with ⟨hv, hn⟩ | ⟨g', cap, cur, hv, _⟩
        · exact ⟨none, 0, by rw [hv, hn]⟩
        · exact ⟨_, _, hv⟩
      obtain ⟨p', c', rfl⟩ := hform
      unfold Oper.wp
      simp only [execOp, resolve, invoke, builtin, Sem.run_bind, Sem.run_pure, Result.andThen_ok, List.map_toArray, List.map_cons, List.map_nil, F.ev hx, F.ev hy, hrun]
      exact k p' c' w' (O.grown i hr h3 h2 h5) _ (F.put (lt_of_blt hd) _)
end

/-! ### a statement whose order is open -/
def Qn (J : Act → World → Prop) : Exit → Act → World → Prop
  | .normal, a, w => J a w
  | _, _, _ => False
/-- Cells that hold values. -/
def SC (L : List (Nat × Nat × Value)) (w : World) : Prop := ∀ q ∈ L, w.cell? ⟨q.1, q.2.1, none⟩ = some q.2.2
theorem SC.nil {w : World} : SC [] w := by simp [SC]
theorem SC.cons {b o : Nat} {v : Value} {L : List (Nat × Nat × Value)} {w : World} (h : w.cell? ⟨b, o, none⟩ = some v) (k : SC L w) : SC ((b, o, v) :: L) w := fun q hq => by
  rcases List.mem_cons.1 hq with e | e
  · rw [e]; exact h
  · exact k q e
theorem SC.get {L : List (Nat × Nat × Value)} {w : World} (h : SC L w) (i : Nat) {b o : Nat} {v : Value} (hi : L[i]? = some (b, o, v)) : w.cell? ⟨b, o, none⟩ = some v := h _ (List.mem_of_getElem? hi)

section
variable {P : Program} {n : Nat} {Fr : List (Nat × Value)} {a : Act} {w w0 : World} {S : World → Prop} {X : List Nat} {Γ : List Res} {J : Act → World → Prop}
variable {ops : Array Oper} {Q : Exit → Act → World → Prop} {K : Act → World → Prop} {op : Op} {ty d fuel : Nat} {pos : String} {aft : Array Edge} {g : Option (Nat × Bool)} {v : Value} {x y : Operand} {listed : Array Bool}

/-- Whatever order is picked from here on, and S holds behind every operation that is carried out, but for those of a list. -/
def wpAnyN (P : Program) (ops : Array Oper) (Q : Exit → Act → World → Prop) (S : World → Prop) (ex : List Nat) : Nat → Array Bool → Act → World → Prop
  | 0, listed, a, w => Region.ready .any ops listed = [] ∧ Q .normal a w
  | fuel + 1, listed, a, w =>
    (Region.ready .any ops listed = [] → Q .normal a w) ∧
    ∀ i ∈ Region.ready .any ops listed, wpOp P ops Q i (fun a' w' => (ex.contains i = false → S w') ∧ wpAnyN P ops Q S ex fuel (listed.setIfInBounds i true) a' w') a w
theorem wpAny_of_N {ex : List Nat} : ∀ (fuel : Nat) (listed : Array Bool) (a : Act) (w : World), wpAnyN P ops Q S ex fuel listed a w → wpAny P .any ops Q fuel listed a w
  | 0, _, _, _, h => h
  | fuel + 1, _, _, _, h => ⟨h.1, fun i hi => wpOp_mono (fun a' w' h' => wpAny_of_N fuel _ a' w' h'.2) (h.2 i hi)⟩
theorem wpAnyN_first {ex : List Nat} {i : Nat} {oi : Oper} {v : Value} (hi : ops[i]? = some oi) (hsel : ∀ (j : Nat) (o : Oper) cs b, ops[j]? = some o → o.op ≠ .select cs b)
    (hQ : ∀ c a w, Q (.panic c) (a.put oi.dst v) w → Q (.panic c) a w) (hex : ∀ j oj, ops[j]? = some oj → ex.contains j = true → ∃ e ∈ oj.after, Region.binds .any e = true ∧ e.on = i) :
    ∀ (fuel : Nat) (listed : Array Bool) (a : Act) (w : World),
      (∀ j oj, ops[j]? = some oj → j ≠ i → listed.getD j true = false → (∀ e ∈ oj.after, Region.binds .any e = true → e.on ≠ i) → oi.apart ops oj = true) →
      i ∈ Region.ready .any ops listed → YieldsIf P ops S oi v a → S w →
      wpAnyN P ops Q S ex fuel (listed.setIfInBounds i true) (a.put oi.dst v) w → wpAnyN P ops Q S ex (fuel + 1) listed a w := by
  intro fuel
  induction fuel with
  | zero =>
    intro listed a w _ hr hy hS H
    refine ⟨fun h => (by rw [h] at hr; cases hr), fun j hj => ?_⟩
    by_cases hji : j = i
    · subst hji; exact hy.wpOp hi hS ⟨fun _ => hS, H⟩
    · have := ready_mono hj hji
      rw [H.1] at this
      cases this
  | succ fuel ih =>
    intro listed a w hfree hr hy hS H
    refine ⟨fun h => (by rw [h] at hr; cases hr), fun j hj => ?_⟩
    by_cases hji : j = i
    · subst hji; exact hy.wpOp hi hS ⟨fun _ => hS, H⟩
    · have h1 := H.2 j (ready_mono hj hji)
      obtain ⟨hjun, oj, hoj, hall⟩ := mem_ready.1 hj
      have hnot : ∀ e ∈ oj.after, Region.binds .any e = true → e.on ≠ i := fun e he hb heq => by
        have h1 := hall e he hb
        have h0 := (mem_ready.1 hr).1
        rw [heq] at h1
        rcases Nat.lt_or_ge i listed.size with h' | h'
        · simp [h'] at h0 h1; rw [h0] at h1; cases h1
        · simp [Array.getElem?_eq_none h'] at h1
      have hne : ex.contains j = false := by
        rw [Bool.eq_false_iff]
        intro hc
        obtain ⟨e, he, hb, heq⟩ := hex j oj hoj hc
        exact hnot e he hb heq
      have h2 := wpOp_putIf hoj (hfree j oj hoj hji hjun hnot) (fun cs b => hsel i oi cs b hi) (fun cs b => hsel j oj cs b hoj) hQ hy h1
      have hfree' : ∀ k ok, ops[k]? = some ok → k ≠ i → (listed.setIfInBounds j true).getD k true = false →
          (∀ e ∈ ok.after, Region.binds .any e = true → e.on ≠ i) → oi.apart ops ok = true := fun k ok hk hki hun hno => by
        refine hfree k ok hk hki ?_ hno
        by_cases hjk : j = k
        · subst hjk; exact hjun
        · rw [getD_set_ne true hjk] at hun; exact hun
      refine wpOp_mono (fun a' w' h3 => ⟨fun _ => h3.2.1 hne, ih (listed.setIfInBounds j true) a' w' hfree' (ready_mono hr (Ne.symm hji)) h3.1 (h3.2.1 hne) ?_⟩) h2
      rw [Array.setIfInBounds_comm _ _ hji]
      exact h3.2.2
/-- The exempt operations wait for number i. -/
def exOk (ops : Array Oper) (ex : List Nat) (i : Nat) : Bool := ex.all fun j => match ops[j]? with | some o => o.after.toList.any fun e => Region.binds .any e && e.on == i | none => true
theorem exOk_spec {ops : Array Oper} {ex : List Nat} {i : Nat} (h : exOk ops ex i = true) (j : Nat) (oj : Oper) (hj : ops[j]? = some oj) (hc : ex.contains j = true) : ∃ e ∈ oj.after, Region.binds .any e = true ∧ e.on = i := by
  have := (List.all_eq_true.1 h) j (by simpa using hc)
  simp only [hj, List.any_eq_true, Bool.and_eq_true, beq_iff_eq] at this
  obtain ⟨e, he, h1, h2⟩ := this
  exact ⟨e, by simpa using he, h1, h2⟩

variable {ex : List Nat}
theorem c_draw {id : Nat} (hm : P.follows .mixedOrders = true) (S : World → Prop) (ex : List Nat) (J : Act → World → Prop) (h2 : ∀ a w, J a w → Q .normal a w) (h : wpAnyN P ops (Qn J) S ex ops.size (Array.replicate ops.size false) a { w with drawn := w.drawn + 1 }) : (Code.region id ops true).wp P Q a w :=
  wp_mono (wp_region_any hm (wpAny_of_N _ _ _ _ h)) fun e a w q => by cases e <;> first | exact h2 _ _ q | exact q.elim

theorem d_take (i : Nat) (hi : ops[i]? = some ⟨some d, op, ty, pos, aft, g⟩) (hc : (Region.noSelect ops && Region.free .any ops listed i && (Region.ready .any ops listed).contains i && exOk ops ex i) = true) (F : Has n Fr a) (hp : PureIf P S op ty Fr v) (hw : wants ops Fr g = some true) (hd : Nat.blt d n = true) (hS : S w)
    (k : ∀ a', Has n ((d, v) :: Fr) a' → wpAnyN P ops (Qn J) S ex fuel (listed.setIfInBounds i true) a' w) : wpAnyN P ops (Qn J) S ex (fuel + 1) listed a w := by
  simp only [Bool.and_eq_true] at hc
  exact wpAnyN_first hi (Region.noSelect_spec hc.1.1.1) (fun c a w h => h.elim) (exOk_spec hc.2) fuel listed a w (Region.free_spec hi hc.1.1.2) (by simpa using hc.1.2) (.inl ⟨wanted_of F hw, fun w hS => hp n a w _ _ _ _ F hS⟩) hS (k _ (F.put (lt_of_blt hd) v))
theorem d_skip (i : Nat) (hi : ops[i]? = some ⟨some d, op, ty, pos, aft, g⟩) (hc : (Region.noSelect ops && Region.free .any ops listed i && (Region.ready .any ops listed).contains i && exOk ops ex i) = true) (F : Has n Fr a) (hw : wants ops Fr g = some false) (hd : Nat.blt d n = true) (hS : S w)
    (k : ∀ a', Has n ((d, undef) :: Fr) a' → wpAnyN P ops (Qn J) S ex fuel (listed.setIfInBounds i true) a' w) : wpAnyN P ops (Qn J) S ex (fuel + 1) listed a w := by
  simp only [Bool.and_eq_true] at hc
  exact wpAnyN_first hi (Region.noSelect_spec hc.1.1.1) (fun c a w h => h.elim) (exOk_spec hc.2) fuel listed a w (Region.free_spec hi hc.1.1.2) (by simpa using hc.1.2) (.inr ⟨wanted_of F hw, rfl⟩) hS (k _ (F.put (lt_of_blt hd) undef))
theorem d_all (rs : List Nat) (hr : Region.ready .any ops listed = rs) (hne : rs ≠ []) (h : ∀ i ∈ rs, wpOp P ops (Qn J) i (fun a' w' => (ex.contains i = false → S w') ∧ wpAnyN P ops (Qn J) S ex fuel (listed.setIfInBounds i true) a' w') a w) : wpAnyN P ops (Qn J) S ex (fuel + 1) listed a w :=
  ⟨fun h0 => absurd (hr ▸ h0) hne, hr ▸ h⟩
theorem d_one (i : Nat) (hr : Region.ready .any ops listed = [i]) (h : wpOp P ops (Qn J) i (fun a' w' => (ex.contains i = false → S w') ∧ wpAnyN P ops (Qn J) S ex fuel (listed.setIfInBounds i true) a' w') a w) : wpAnyN P ops (Qn J) S ex (fuel + 1) listed a w :=
  d_all [i] hr (by simp) fun j hj => by simp at hj; subst hj; exact h
theorem d_two (i j : Nat) (hr : Region.ready .any ops listed = [i, j]) (h : wpOp P ops (Qn J) i (fun a' w' => (ex.contains i = false → S w') ∧ wpAnyN P ops (Qn J) S ex fuel (listed.setIfInBounds i true) a' w') a w)
    (h' : wpOp P ops (Qn J) j (fun a' w' => (ex.contains j = false → S w') ∧ wpAnyN P ops (Qn J) S ex fuel (listed.setIfInBounds j true) a' w') a w) : wpAnyN P ops (Qn J) S ex (fuel + 1) listed a w :=
  d_all [i, j] hr (by simp) fun q hq => by simp at hq; rcases hq with rfl | rfl <;> assumption
theorem d_op {i : Nat} {dst : Option Tmp} (hi : ops[i]? = some ⟨dst, op, ty, pos, aft, g⟩) (F : Has n Fr a) (hw : wants ops Fr g = some true) (h : Oper.wp P ⟨dst, op, ty, pos, aft, g⟩ a w K Q) : wpOp P ops Q i K a w := by
  unfold wpOp
  simp only [hi]
  rw [if_pos (wanted_of F (o := ⟨dst, op, ty, pos, aft, g⟩) hw)]
  exact .inl h
theorem d_done (hr : Region.ready .any ops listed = []) (h : J a w) : wpAnyN P ops (Qn J) S ex fuel listed a w := by
  cases fuel with
  | zero => exact ⟨hr, h⟩
  | succ f => exact ⟨fun _ => h, by rw [hr]; simp⟩
end

/-! ### frames and memory as they are wanted -/
def allLook (Fr : List (Nat × Value)) : List (Nat × Value) → Prop
  | [] => True
  | (k, v) :: r => look Fr k = some v ∧ allLook Fr r
theorem Has.pick {n : Nat} {Fr Fr' : List (Nat × Value)} {a : Act} (F : Has n Fr a) (h : allLook Fr Fr') : Has n Fr' a := by
  refine F.keep ?_
  induction Fr' with
  | nil => simp
  | cons q r ih =>
    obtain ⟨k, v⟩ := q
    intro p hp
    rcases List.mem_cons.1 hp with e | e
    · rw [e]; exact h.1
    · exact ih h.2 p e
theorem vint {k : IntKind} {a b : Int} (h : a = b) : Value.int k a = Value.int k b := by rw [h]
theorem vstr {a b : List UInt8} (h : a = b) : Value.string (bs a) = Value.string (bs b) := by rw [h]
theorem vsl {p : Option Addr} {a b c : Nat} (h : a = b) : Value.slice p a c = Value.slice p b c := by rw [h]
theorem Own.take {w0 w : World} {X : List Nat} {Γ : List Res} (O : Own w0 X Γ w) (k : Nat) : Own w0 X (Γ.take k) w := O.sub (List.take_sublist k Γ)


/-! ### cells of a struct in a row -/
theorem ld1 {w w' : World} {a : Addr} {v : Value} (h : w.cell? a = some v) (e : w' = w) : w'.cell? a = some v := e ▸ h
def CA (w : World) (b o : Nat) (cs : List Value) : Prop := ∀ j v, cs[j]? = some v → w.cell? ⟨b, o + j, none⟩ = some v
theorem CA.nil {w : World} {b o : Nat} : CA w b o [] := fun j v h => by simp at h
theorem CA.cons {w : World} {b o : Nat} {v : Value} {vs : List Value} (h : w.cell? ⟨b, o, none⟩ = some v) (k : CA w b (o + 1) vs) : CA w b o (v :: vs) := fun j u hj => by
  cases j with
  | zero => simp at hj; subst hj; exact h
  | succ j => simp at hj; have := k j u hj; rwa [Nat.add_right_comm, Nat.add_assoc] at this
theorem p_loadC {P : Program} {S : World → Prop} {Fr : List (Nat × Value)} {x : Operand} {b o t ty : Nat} {cs : List Value} (h : ev Fr x = some (.pointer (some ⟨b, o, none⟩))) (hs : aggB P t = some true) (hz : szB P t = some cs.length) (hc : ∀ w, S w → CA w b o cs) :
    PureIf P S (.load t x) ty Fr (.agg cs.toArray) := p_loadA h hs hz hc

/-! ### elements of slices -/
theorem get_some {α : Type} {l : List α} {i : Int} (h0 : 0 ≤ i) (h1 : i < l.length) : ∃ e, l[i.toNat]? = some e := ⟨_, List.getElem?_eq_getElem (by omega)⟩
def encInt (n : Int) : List Value := [.int .i64 n]
def encStr (l : List UInt8) : List Value := [.string (bs l)]
def encU8 (b : UInt8) : List Value := [.int .u8 (b.toNat : Int)]
theorem encInt_len (e : Int) : (encInt e).length = 1 := rfl
theorem encStr_len (e : List UInt8) : (encStr e).length = 1 := rfl
theorem encU8_len (e : UInt8) : (encU8 e).length = 1 := rfl
/-- A slice that lies in memory. -/
def Arr {α : Type} (w : World) (enc : α → List Value) (sz : Nat) (p : Option Addr) (es : List α) : Prop :=
  0 < es.length → ∃ b o, p = some ⟨b, o, none⟩ ∧ b < w.heap.size ∧ ∀ k e, es[k]? = some e → ∀ j v, (enc e)[j]? = some v → w.cell? ⟨b, o + k * sz + j, none⟩ = some v
theorem Arr.out {α : Type} {w : World} {enc : α → List Value} {sz : Nat} {p : Option Addr} {es : List α} (h : Arr w enc sz p es) (h0 : 0 < es.length) :
    ∃ b o, p = some ⟨b, o, none⟩ ∧ b < w.heap.size ∧ ∀ k e, es[k]? = some e → ∀ j v, (enc e)[j]? = some v → w.cell? ⟨b, o + k * sz + j, none⟩ = some v := h h0
theorem elem_at {α : Type} {enc : α → List Value} {es : List α} {k sz o : Nat} {e : α} {f : Nat → Option Value} (h : ∀ k e, es[k]? = some e → ∀ j v, (enc e)[j]? = some v → f (o + k * sz + j) = some v) (he : es[k]? = some e) {j : Nat} {v : Value} (hj : (enc e)[j]? = some v) : f (o + k * sz + j) = some v := h k e he j v hj
theorem flat_get {α : Type} {enc : α → List Value} {sz : Nat} (hl : ∀ e, (enc e).length = sz) : ∀ {es : List α} {k : Nat} {e : α} (_ : es[k]? = some e) {j : Nat} {v : Value} (_ : (enc e)[j]? = some v), (es.flatMap enc)[0 + k * sz + j]? = some v
  | [], k, e, h, _, _, _ => by simp at h
  | a :: es, 0, e, h, j, v, hj => by
    simp at h; subst h
    have : j < (enc a).length := (List.getElem?_eq_some_iff.1 hj).1
    simp [List.flatMap_cons, List.getElem?_append_left this, hj]
  | a :: es, k + 1, e, h, j, v, hj => by
    simp at h
    have := flat_get hl h hj
    rw [List.flatMap_cons, List.getElem?_append_right (by rw [hl, Nat.add_mul]; omega), hl]
    rw [← this]
    congr 1
    rw [Nat.add_mul]; omega
theorem flat_get0 {α : Type} {enc : α → List Value} {sz : Nat} (hl : ∀ e, (enc e).length = sz) {es : List α} {k : Nat} {e : α} (h : es[k]? = some e) {v : Value} (hj : (enc e)[0]? = some v) : (es.flatMap enc)[0 + k * sz]? = some v := flat_get hl h hj
theorem flat_len {α : Type} {enc : α → List Value} {sz : Nat} (hl : ∀ e, (enc e).length = sz) (es : List α) : (es.flatMap enc).length = es.length * sz := by
  induction es with
  | nil => simp
  | cons a es ih => rw [List.flatMap_cons, List.length_append, hl, ih, List.length_cons, Nat.add_mul]; omega

section
variable {w0 w : World} {X : List Nat} {Γ : List Res}
theorem Own.rowSome (O : Own w0 X Γ w) (i : Nat) {E sz q c : Nat} {p : Option Addr} {xs : List Value} (h : Γ[i]? = some (.row E sz (.slice p q c) q xs)) (hq : 0 < q) : ∃ b, p = some ⟨b, 0, none⟩ := by
  have := O.has h
  rcases this.2 with ⟨_, h2⟩ | ⟨g, cap, cur, hv, _⟩
  · omega
  · injection hv with hv; exact ⟨g, hv⟩
theorem Own.loadPart (O : Own w0 X Γ w) (i : Nat) {b o : Nat} {xs : List Value} {v : Value} (h : Γ[i]? = some (.part b xs)) (ho : xs[o]? = some v) : w.cell? ⟨b, o, none⟩ = some v := by
  obtain ⟨cur, E, f, hh, hc, _⟩ := O.has h
  simp [World.cell?, hh, hc o v ho]
theorem Own.rowLen (O : Own w0 X Γ w) (i : Nat) {E sz q : Nat} {v : Value} {xs : List Value} (h : Γ[i]? = some (.row E sz v q xs)) : xs.length = q * sz := (O.has h).1
/-- What a callee may read: a row of the caller's own. -/
theorem Own.arr {α : Type} {enc : α → List Value} (O : Own w0 X Γ w) (i : Nat) {E sz q c : Nat} {p : Option Addr} {es : List α} (h : Γ[i]? = some (.row E sz (.slice p q c) q (es.flatMap enc))) (hl : ∀ e, (enc e).length = sz) (hs : 0 < sz) : Arr w enc sz p es := fun h0 => by
  have hlen := O.rowLen i h
  rw [flat_len hl] at hlen
  have hq : 0 < q := by
    have := Nat.eq_of_mul_eq_mul_right hs hlen
    omega
  obtain ⟨b, rfl⟩ := O.rowSome i h hq
  refine ⟨b, 0, rfl, (O.has h).lt b rfl |>.2, fun k e he j v hj => O.loadRow i h (flat_get hl he hj)⟩
theorem Arr.keep {α : Type} {enc : α → List Value} {sz : Nat} {p : Option Addr} {es : List α} (h : Arr w0 enc sz p es) (O : Own w0 [] Γ w) : Arr w enc sz p es := fun h0 => by
  obtain ⟨b, o, e, hb, hc⟩ := h h0
  exact ⟨b, o, e, Nat.lt_of_lt_of_le hb O.size, fun k x hx j v hj => (O.old hb (by simp)).trans (hc k x hx j v hj)⟩
end

theorem vbt {p : Prop} [Decidable p] (h : p) : Value.bool true = .bool (decide p) := by rw [decide_eq_true h]
theorem vbf {p : Prop} [Decidable p] (h : ¬ p) : Value.bool false = .bool (decide p) := by rw [decide_eq_false h]
theorem vbi {p q : Prop} [Decidable p] [Decidable q] (h : p ↔ q) : Value.bool (decide p) = .bool (decide q) := by rw [decide_eq_decide.2 h]
theorem ret_v {a b : Value} (h : a = b) : Ending.returned a = Ending.returned b := by rw [h]

/-! ### bytes and strings -/
section
variable {P : Program} {n : Nat} {Fr : List (Nat × Value)} {a : Act} {w w0 : World} {S : World → Prop} {X : List Nat} {Γ : List Res} {x : Operand} {s t u8 ty : Nat} {l : List UInt8}
theorem p_cbs0 {q c : Nat} (h : ev Fr x = some (.slice none q c)) (hs : P.underlying s = some (.slice u8)) (he : P.underlying u8 = some (.int .u8)) (hd : P.underlying t = some .string) : PureIf P S (.convert s t x) ty Fr (.string (bs [])) := fun n a w dst pos aft g F hS => by
  simp only [execOp, F.ev h]
  rw [Sem.run_bind, run_convert_bytes_nil w s u8 hs he q c t hd]
  rfl
theorem p_cbs {b o q c : Nat} (h : ev Fr x = some (.slice (some ⟨b, o, none⟩) q c)) (hs : P.underlying s = some (.slice u8)) (he : P.underlying u8 = some (.int .u8)) (hd : P.underlying t = some .string) (hq : q = l.length)
    (hc : ∀ w, S w → ∀ j (hj : j < l.length), w.cell? ⟨b, o + j, none⟩ = some (.int .u8 (l[j].toNat : Int))) : PureIf P S (.convert s t x) ty Fr (.string (bs l)) := fun n a w dst pos aft g F hS => by
  subst hq
  simp only [execOp, F.ev h]
  rw [Sem.run_bind, run_convert_bytes_back w s t u8 ⟨b, o, none⟩ c l hs he hd (fun j hj => by rw [plain_add]; exact hc w hS j hj)]
  rfl
theorem p_cbsRow {q c E : Nat} {p : Option Addr} (h : ev Fr x = some (.slice p q c)) (hs : P.underlying s = some (.slice u8)) (he : P.underlying u8 = some (.int .u8)) (hd : P.underlying t = some .string) (i : Nat) (O : Own w0 X Γ w) (hr : Γ[i]? = some (.row E 1 (.slice p q c) q (l.flatMap encU8))) :
    PureIf P (fun w' => w' = w) (.convert s t x) ty Fr (.string (bs l)) := by
  have hlen := O.rowLen i hr
  rw [flat_len encU8_len] at hlen
  cases l with
  | nil =>
    have hq : q = 0 := by simp at hlen; omega
    have hh := O.has hr
    rcases hh.2 with ⟨hv, _⟩ | ⟨g, cap, cur, hv, _⟩
    · injection hv with hv1 hv2 hv3; subst hv1; exact p_cbs0 h hs he hd
    · injection hv with hv1 hv2 hv3; subst hv1; exact p_cbs h hs he hd (by simp [hq]) (fun w' hw j hj => by simp at hj)
  | cons z l =>
    obtain ⟨b, rfl⟩ := O.rowSome i hr (by simp at hlen; omega)
    refine p_cbs h hs he hd (by omega) (fun w' hw j hj => ?_)
    subst hw
    have hg : (z :: l)[j]? = some (z :: l)[j] := List.getElem?_eq_getElem hj
    have := O.loadRow i hr (flat_get0 encU8_len hg (v := .int .u8 ((z :: l)[j].toNat : Int)) rfl)
    simpa using this
end

section
variable {P : Program} {n : Nat} {Fr : List (Nat × Value)} {a : Act} {w w0 : World} {S : World → Prop} {X : List Nat} {Γ : List Res} {x : Operand} {s t u8 ty d : Nat} {l : List UInt8} {K : Act → World → Prop} {Q : Exit → Act → World → Prop} {op : Op} {pos : String} {aft : Array Edge} {g : Option (Nat × Bool)} {v : Value}
/-- One byte, made a text. -/
theorem p_cbs1 {b c : Nat} {q : Int} (h : ev Fr x = some (.slice (some ⟨b, 0, none⟩) 1 c)) (hs : P.underlying s = some (.slice u8)) (he : P.underlying u8 = some (.int .u8)) (hd : P.underlying t = some .string) (h0 : 0 ≤ q) (h1 : q < 256)
    (hc : ∀ w, S w → w.cell? ⟨b, 0, none⟩ = some (.int .u8 q)) : PureIf P S (.convert s t x) ty Fr (.string (bs [UInt8.ofNat q.toNat])) :=
  p_cbs h hs he hd rfl (fun w hS j hj => by
    obtain rfl : j = 0 := by simp at hj; omega
    have e : (([UInt8.ofNat q.toNat] : List UInt8)[0].toNat : Int) = q := by
      show ((UInt8.ofNat q.toNat).toNat : Int) = q
      rw [UInt8.toNat_ofNat']; omega
    rw [e]; exact hc w hS)
/-- An operation that only yields a value, at its turn. -/
theorem o_pure (F : Has n Fr a) (hp : PureIf P (fun w' => w' = w) op ty Fr v) (hd : Nat.blt d n = true) (k : ∀ a', Has n ((d, v) :: Fr) a' → K a' w) : Oper.wp P ⟨some d, op, ty, pos, aft, g⟩ a w K Q := by
  unfold Oper.wp
  rw [hp n a w (some d) pos aft g F rfl]
  exact k _ (F.put (lt_of_blt hd) v)

/-- A text, made a slice of bytes. -/
theorem o_csb (F : Has n Fr a) (O : Own w0 X Γ w) (h : ev Fr x = some (.string (bs l))) {D : TypeDesc} (hs : P.underlying s = some D) (hd' : P.underlying t = some (.slice u8)) (he : P.underlying u8 = some (.int .u8)) (hd : Nat.blt d n = true)
    (k : ∀ b c w', Own w0 X (.part b (l.flatMap encU8) :: Γ) w' → l.length ≤ c → ∀ a', Has n ((d, .slice (some ⟨b, 0, none⟩) l.length c) :: Fr) a' → K a' w') : Oper.wp P ⟨some d, .convert s t x, ty, pos, aft, g⟩ a w K Q := by
  have hrun := Lib.run_convert_string_bytes (P := P) w s t u8 (bs l) hs hd' he
  unfold Oper.wp
  simp only [execOp, F.ev h]
  rw [Sem.run_bind, hrun]
  have hsz : l.length ≤ (Lib.bytesCells w u8 (bs l)).size := by
    unfold Lib.bytesCells
    rw [Array.size_append, Array.size_map]
    show l.length ≤ l.toArray.size + _
    simp
  have hcap : l.length ≤ grownCap w (bs l).size 0 u8 := grownCap_ge w (bs l).size 0 u8
  refine k w.heap.size _ (Lib.bytesWorld w u8 (bs l)) (Own.call0 (Δ := [.part w.heap.size (l.flatMap encU8)]) O ?_) hcap _ (F.put (lt_of_blt hd) _)
  refine ⟨rfl, rfl, rfl, by rw [Lib.bytesWorld_size]; omega, fun i hi _ => Lib.bytesWorld_at_old _ _ _ _ hi, fun r hr => ?_, by simp [Res.blk], fun r hr b hb => ?_⟩
  · simp at hr; subst hr
    refine ⟨_, _, _, Lib.bytesWorld_at_new w u8 (bs l), fun j v hj => ?_, fun o ho hh => ?_⟩
    · have hj' : j < l.length := by
        have := (List.getElem?_eq_some_iff.1 hj).1
        rwa [flat_len encU8_len, Nat.mul_one] at this
      have hlj : l[j]? = some l[j] := List.getElem?_eq_getElem hj'
      have h1 := flat_get0 encU8_len hlj (v := .int .u8 (l[j].toNat : Int)) rfl
      simp only [Nat.zero_add, Nat.mul_one] at h1
      rw [h1] at hj
      injection hj with hj
      subst hj
      unfold Lib.bytesCells
      rw [Array.getElem?_append_left (by rw [Array.size_map]; simpa using hj')]
      simp [hlj]
    · rw [flat_len encU8_len, Nat.mul_one] at ho
      simp only at hh
      omega
  · simp at hr; subst hr
    simp [Res.blk] at hb
    right; omega
theorem Own.setPart (O : Own w0 X Γ w) (i : Nat) {b : Nat} {xs : List Value} (h : Γ[i]? = some (.part b xs)) (o : Nat) (ho : o < xs.length) (v : Value) :
    Own w0 X (Γ.set i (.part b (xs.set o v))) (w.setCell ⟨b, o, none⟩ v) := by
  obtain ⟨cur, E, f, hh, hc, hf⟩ := O.has h
  have hbl : b < w.heap.size := (Array.getElem?_eq_some_iff.1 hh).1
  refine Own.grown O i h ⟨rfl, rfl, rfl, by simp [World.setCell], fun j hj hX => Below.heap_setCell w ⟨b, o, none⟩ v j (by simp [Res.blk] at hX; exact hX)⟩ ?_ (.inl rfl)
  have hcur : o < cur.size := by
    have := hc o _ (List.getElem?_eq_getElem ho)
    exact (Array.getElem?_eq_some_iff.1 this).1
  refine ⟨cur.setIfInBounds o v, E, f, ?_, fun j u hj => ?_, fun q hq => hf q (by simpa using hq)⟩
  · simp only [World.setCell, Array.getElem?_modify, hh]
    simp
  · rw [List.getElem?_set] at hj
    by_cases e : o = j
    · subst e
      simp [ho] at hj
      subst hj
      simp [hcur]
    · rw [if_neg e] at hj
      rw [Array.getElem?_setIfInBounds_ne e]
      exact hc j u hj
theorem Own.freePart (O : Own w0 X Γ w) (i : Nat) {b o : Nat} {xs : List Value} (h : Γ[i]? = some (.part b xs)) (ho : o < xs.length) : w.frozen? ⟨b, o, none⟩ = false := by
  obtain ⟨cur, E, f, hh, hc, hf⟩ := O.has h
  have := hf o ho
  simp only [World.frozen?, hh]
  simp only [Bool.and_eq_false_imp, decide_eq_true_eq, decide_eq_false_iff_not]
  omega
/-- A byte is stored into a slice of bytes. -/
theorem o_storePart {y : Operand} {b o : Nat} {xs : List Value} (F : Has n Fr a) (O : Own w0 X Γ w) (hx : ev Fr x = some (.pointer (some ⟨b, o, none⟩))) (hy : ev Fr y = some v) (hz : szB P t = some 1) (hv : v.cells = #[v]) (h1 : v.oneCell' = true)
    (i : Nat) (hr : Γ[i]? = some (.part b xs)) (ho : o < xs.length) (k : ∀ w', Own w0 X (Γ.set i (.part b (xs.set o v))) w' → K a w') : Oper.wp P ⟨none, .store t x y, ty, pos, aft, g⟩ a w K Q := by
  have hc := O.loadPart i hr (List.getElem?_eq_getElem ho)
  have hf := O.freePart i hr ho
  have hs := run_store P w ⟨b, o, none⟩ v .plain h1
  unfold Oper.wp
  simp only [execOp, F.ev hx, F.ev hy]
  simp [Instr.storeAt, Instr.sureAddr, storeVar, run_szB hz, hv, storeCells, plain_add, hs, hc, hf, Oper.upon]
  exact k _ (O.setPart i hr o ho v)
end

section
variable {P : Program} {n : Nat} {Fr : List (Nat × Value)} {w w0 : World} {X : List Nat} {Γ : List Res} {x : Operand} {s t u8 ty : Nat} {l : List UInt8}
theorem p_cbsPart {b q c : Nat} (h : ev Fr x = some (.slice (some ⟨b, 0, none⟩) q c)) (hs : P.underlying s = some (.slice u8)) (he : P.underlying u8 = some (.int .u8)) (hd : P.underlying t = some .string) (i : Nat) (O : Own w0 X Γ w) (hr : Γ[i]? = some (.part b (l.flatMap encU8))) (hq : q = l.length) :
    PureIf P (fun w' => w' = w) (.convert s t x) ty Fr (.string (bs l)) :=
  p_cbs h hs he hd hq (fun w' hw j hj => by
    subst hw
    have hg : l[j]? = some l[j] := List.getElem?_eq_getElem hj
    have := O.loadPart i hr (flat_get0 encU8_len hg (v := .int .u8 (l[j].toNat : Int)) rfl)
    simpa using this)
theorem flat_setU8 {l : List UInt8} {k : Nat} {q : Int} (h0 : 0 ≤ q) (h1 : q < 256) : (l.flatMap encU8).set (0 + k * 1) (.int .u8 q) = (l.set k (UInt8.ofNat q.toNat)).flatMap encU8 := by
  have e : Value.int .u8 q = u8v (UInt8.ofNat q.toNat) := by
    unfold u8v
    congr 1
    rw [UInt8.toNat_ofNat']; omega
  have f : ∀ m : List UInt8, m.flatMap encU8 = m.map u8v := fun m => by
    induction m with
    | nil => rfl
    | cons a m ih => rw [List.flatMap_cons, ih]; rfl
  rw [f, f, List.map_set, e, Nat.zero_add, Nat.mul_one]
end

/-- A field's place, where the field is no struct. -/
def ftyB (P : Program) (s f : Nat) : Option Nat :=
  match P.underlying s with
  | some (.struct fs) => match fs[f]? with
    | some fd => match aggB P fd.type with
      | some false => some fd.offset
      | _ => none
    | none => none
  | _ => none
theorem p_fieldv {P : Program} {S : World → Prop} {Fr : List (Nat × Value)} {x : Operand} {t f off ty : Nat} {cs : Array Value} {v : Value} (h : ev Fr x = some (.agg cs)) (hf : ftyB P t f = some off) (hv : cs[off]? = some v) : PureIf P S (.field t x f) ty Fr v := fun n a w dst pos aft g F hS => by
  simp only [execOp, F.ev h]
  unfold ftyB at hf
  cases hu : P.underlying t with
  | none => simp [hu] at hf
  | some D =>
    cases D with
    | struct fs =>
      simp only [hu] at hf
      cases hfd : fs[f]? with
      | none => simp [hfd] at hf
      | some fd =>
        simp only [hfd] at hf
        cases ha : aggB P fd.type with
        | none => simp [ha] at hf
        | some b =>
          cases b with
          | true => simp [ha] at hf
          | false =>
            simp [ha] at hf
            subst hf
            simp [Instr.field, run_underlying hu, hfd, asAgg, part, run_isAgg ha, hv]
    | _ => simp [hu] at hf

/-! ### equality of bools, and of structs of a text and a number -/
section
variable {P : Program} {S : World → Prop} {Fr : List (Nat × Value)} {x y : Operand} {t yt ty : Nat} {b c : Bool}
theorem p_beq (hx : ev Fr x = some (.bool b)) (hy : ev Fr y = some (.bool c)) (ht : P.underlying t = some .bool) : PureIf P S (.binOp .eql t x y yt) ty Fr (.bool (decide (b = c))) := fun n a w dst pos aft g F hS => by
  have e : (Op.equal t (.bool b) (.bool c)).run P w = .ok (b == c) w := by
    have := run_equalIn_bool' w 9999 t b c ht
    simpa [Op.equal, Op.maxDepth] using this
  simp only [execOp, F.ev hx, F.ev hy]; simp [eqGuard_at_bool, binOp, e]; try (cases b <;> cases c <;> rfl)
theorem p_bne (hx : ev Fr x = some (.bool b)) (hy : ev Fr y = some (.bool c)) (ht : P.underlying t = some .bool) : PureIf P S (.binOp .neq t x y yt) ty Fr (.bool (decide (b ≠ c))) := fun n a w dst pos aft g F hS => by
  have e : (Op.equal t (.bool b) (.bool c)).run P w = .ok (b == c) w := by
    have := run_equalIn_bool' w 9999 t b c ht
    simpa [Op.equal, Op.maxDepth] using this
  simp only [execOp, F.ev hx, F.ev hy]; simp [eqGuard_at_bool, binOp, e]; try (cases b <;> cases c <;> rfl)
theorem p_beqL (hx : ev Fr x = some (.bool b)) (hy : ev Fr y = some (.bool c)) (ht : P.underlying t = some .bool) (u : Bool) (h : decide (b = c) = u) : PureIf P S (.binOp .eql t x y yt) ty Fr (.bool u) := h ▸ p_beq hx hy ht
theorem p_bneL (hx : ev Fr x = some (.bool b)) (hy : ev Fr y = some (.bool c)) (ht : P.underlying t = some .bool) (u : Bool) (h : decide (b ≠ c) = u) : PureIf P S (.binOp .neq t x y yt) ty Fr (.bool u) := h ▸ p_bne hx hy ht

def siB (P : Program) (t : TypeId) : Bool :=
  match P.underlying t with
  | some (.struct fs) =>
    match fs.toList with
    | [f0, f1] => f0.name != "_" && f1.name != "_" && f0.offset == 0 && f1.offset == 1 && (match P.underlying f0.type with | some .string => true | _ => false) && (match P.underlying f1.type with | some (.int .i64) => true | _ => false) && !P.stoodInHeld t && !P.eqGuardType P.depth t
    | _ => false
  | _ => false
theorem siB_spec {P : Program} {t : TypeId} (h : siB P t = true) : ∃ f0 f1 : Field, P.underlying t = some (.struct #[f0, f1]) ∧ f0.name ≠ "_" ∧ f1.name ≠ "_" ∧ f0.offset = 0 ∧ f1.offset = 1 ∧ P.underlying f0.type = some .string ∧ P.underlying f1.type = some (.int .i64) ∧ P.stoodInHeld t = false ∧ P.eqGuardType P.depth t = false := by
  unfold siB at h
  cases hu : P.underlying t with
  | none => simp [hu] at h
  | some D =>
    cases D with
    | struct fs =>
      simp only [hu] at h
      obtain ⟨l⟩ := fs
      simp only at h
      match l, h with
      | [f0, f1], h =>
        simp only [Bool.and_eq_true, bne_iff_ne, ne_eq, beq_iff_eq, Bool.not_eq_true'] at h
        obtain ⟨⟨⟨⟨⟨⟨⟨h1, h2⟩, h3⟩, h4⟩, h5⟩, h6⟩, h7⟩, h8⟩ := h
        refine ⟨f0, f1, rfl, h1, h2, h3, h4, ?_, ?_, h7, h8⟩
        · cases hq : P.underlying f0.type with
          | none => simp [hq] at h5
          | some D => cases D <;> simp [hq] at h5 <;> rfl
        · cases hq : P.underlying f1.type with
          | none => simp [hq] at h6
          | some D =>
            cases D with
            | int k => cases k <;> simp [hq] at h6 <;> rfl
            | _ => simp [hq] at h6
    | _ => simp [hu] at h

variable {l m : List UInt8} {i j : Int}
theorem run_si {P : Program} {t : TypeId} (h : siB P t = true) (w : World) : (Op.equalIn 10000 t (.agg #[.string (bs l), .int .i64 i]) (.agg #[.string (bs m), .int .i64 j])).run P w = .ok (decide (l = m ∧ i = j)) w := by
  obtain ⟨f0, f1, hu, n0, n1, o0, o1, u0, u1, hs, _⟩ := siB_spec h
  have hf : P.fieldsOf t = #[f0, f1] := by unfold Program.fieldsOf; rw [hu]
  have a0 : aggB P f0.type = some false := by unfold aggB; rw [u0]; rfl
  have a1 : aggB P f1.type = some false := by unfold aggB; rw [u1]; rfl
  rw [run_equalIn_struct w 9999 t _ _ (by rw [hf]; exact hu) hs, hf]
  simp only [Op.eqFields, n0, n1, o0, o1, ne_eq, not_false_eq_true, if_true, Sem.run_bind, part, run_isAgg a0, run_isAgg a1, Result.andThen_ok]
  by_cases e : l = m
  · by_cases e2 : i = j <;> simp [run_equalIn_string w 9998 f0.type _ _ u0, run_equalIn_int w 9998 f1.type _ _ _ _ u1, bs_toList, e, e2, run_isAgg a1]
  · simp [run_equalIn_string w 9998 f0.type _ _ u0, bs_toList, e]
theorem p_eqsi (hx : ev Fr x = some (.agg #[.string (bs l), .int .i64 i])) (hy : ev Fr y = some (.agg #[.string (bs m), .int .i64 j])) (h : siB P t = true) : PureIf P S (.binOp .eql t x y yt) ty Fr (.bool (decide (l = m ∧ i = j))) := fun n a w dst pos aft g F hS => by
  obtain ⟨f0, f1, hu, n0, n1, o0, o1, u0, u1, hs, hg⟩ := siB_spec h
  simp only [execOp, F.ev hx, F.ev hy, Sem.run_bind, run_eqGuard_agg w _ _ _ _ _ _ hg, Result.andThen_ok, run_eql_struct, run_si h]
  rfl
theorem p_nesi (hx : ev Fr x = some (.agg #[.string (bs l), .int .i64 i])) (hy : ev Fr y = some (.agg #[.string (bs m), .int .i64 j])) (h : siB P t = true) : PureIf P S (.binOp .neq t x y yt) ty Fr (.bool (decide (¬ (l = m ∧ i = j)))) := fun n a w dst pos aft g F hS => by
  obtain ⟨f0, f1, hu, n0, n1, o0, o1, u0, u1, hs, hg⟩ := siB_spec h
  simp only [execOp, F.ev hx, F.ev hy, Sem.run_bind, run_eqGuard_agg w _ _ _ _ _ _ hg, Result.andThen_ok, run_neq_struct, run_si h]
  by_cases e : l = m ∧ i = j <;> simp [e]
theorem p_eqsiL (hx : ev Fr x = some (.agg #[.string (bs l), .int .i64 i])) (hy : ev Fr y = some (.agg #[.string (bs m), .int .i64 j])) (h : siB P t = true) (u : Bool) (hu : decide (l = m ∧ i = j) = u) : PureIf P S (.binOp .eql t x y yt) ty Fr (.bool u) := hu ▸ p_eqsi hx hy h
theorem p_nesiL (hx : ev Fr x = some (.agg #[.string (bs l), .int .i64 i])) (hy : ev Fr y = some (.agg #[.string (bs m), .int .i64 j])) (h : siB P t = true) (u : Bool) (hu : decide (¬ (l = m ∧ i = j)) = u) : PureIf P S (.binOp .neq t x y yt) ty Fr (.bool u) := hu ▸ p_nesi hx hy h
end

end Go.Proofs.Ytbhidkcljekobaa
