/- Entries of packs in memory, chains of bases, and their plain laws. No conditions but those said. -/
import Derived.Test.YtbhidkcljekobaaDelA
namespace Go.Proofs.Ytbhidkcljekobaa
set_option linter.unusedVariables false
set_option linter.unusedSimpArgs false
open Go.ChangeShapes Go.WideShapes Go.ChangeAt Go.RowKit
set_option linter.unusedVariables false

abbrev PE := Int × List Int × Int × List (Int × Int × List UInt8)
abbrev Ent := Int × (Option Addr × Nat × Nat) × Int × (Option Addr × Nat × Nat)
instance decA : DecidableEq (Int × List (Int × Int × List UInt8)) := inferInstance
instance decB : DecidableEq (List Int × Int × List (Int × Int × List UInt8)) := @instDecidableEqProd _ _ inferInstance decA
instance decPE : DecidableEq PE := @instDecidableEqProd _ _ inferInstance decB
def encEnt (e : Ent) : List Value := [.int .i64 e.1, .slice e.2.1.1 e.2.1.2.1 e.2.1.2.2, .int .i64 e.2.2.1, .slice e.2.2.2.1 e.2.2.2.2.1 e.2.2.2.2.2]
theorem encEnt_len (e : Ent) : (encEnt e).length = 4 := rfl
def encPtr (b : Nat) : List Value := [.pointer (some ⟨b, 0, none⟩)]
theorem encPtr_len (b : Nat) : (encPtr b).length = 1 := rfl
def EntRel (e : Ent) (p : PE) : Prop := (e.1 = p.1 ∧ e.2.2.1 = p.2.2.1) ∧ (e.2.1.2.1 : Int) = p.2.1.length ∧ (e.2.2.2.2.1 : Int) = p.2.2.2.length
def Ents (w : World) (es : List Ent) (L : List PE) : Prop := es.length = L.length ∧ ∀ (i : Nat) e p, es[i]? = some e → L[i]? = some p → EntRel e p ∧ Arr w encInt 1 e.2.1.1 p.2.1 ∧ Arr w encOp 3 e.2.2.2.1 p.2.2.2
def BndL (L : List PE) : Prop := ∀ p ∈ L, (p.2.1.length : Int) ≤ 9223372036854775807 ∧ (p.2.2.2.length : Int) ≤ 9223372036854775807 ∧ ∀ o ∈ p.2.2.2, (o.2.2.length : Int) ≤ 9223372036854775807
def SmallTo (L : List PE) (k : Int) : Prop := ∀ (i : Nat) p, (i : Int) < k → L[i]? = some p → (p.2.1.length : Int) ≤ 1048576 ∧ (p.2.2.2.length : Int) ≤ 1048576
def SmallL (L : List PE) : Prop := ∀ (i : Nat) p, L[i]? = some p → (p.2.1.length : Int) ≤ 1048576 ∧ (p.2.2.2.length : Int) ≤ 1048576
def entR : List (Ent × PE) → List Res
  | [] => []
  | z :: Z => .row 3 1 (.slice z.1.2.1.1 z.1.2.1.2.1 z.1.2.1.2.2) z.1.2.1.2.1 (z.2.2.1.flatMap encInt) :: .row 43 3 (.slice z.1.2.2.2.1 z.1.2.2.2.2.1 z.1.2.2.2.2.2) z.1.2.2.2.2.1 (z.2.2.2.2.flatMap encOp) :: entR Z
def FillTo (es1 : List Ent) (L : List PE) (Z : List (Ent × PE)) (k : Int) : Prop := ((Z.length : Int) = k ∧ ∀ z ∈ Z, EntRel z.1 z.2) ∧ (∀ i : Nat, (i : Int) < k → es1[i]? = (Z.reverse.map (·.1))[i]?) ∧ Z.reverse.map (·.2) = L.take k.toNat
def Filled (es1 : List Ent) (L : List PE) (Z : List (Ent × PE)) : Prop := (es1 = Z.reverse.map (·.1) ∧ L = Z.reverse.map (·.2)) ∧ ∀ z ∈ Z, EntRel z.1 z.2
section
variable {w w0 : World} {es es1 : List Ent} {L : List PE} {Z : List (Ent × PE)} {k : Int} {e : Ent} {p : PE} {X : List Nat} {Γ : List Res}
theorem Ents.keep (h : Ents w0 es L) (O : Own w0 [] Γ w) : Ents w es L := ⟨h.1, fun i e p he hp => by
  obtain ⟨h1, h2, h3⟩ := h.2 i e p he hp
  exact ⟨h1, h2.keep O, h3.keep O⟩⟩
theorem Ents.at (h : Ents w es L) {i : Nat} (he : es[i]? = some e) : ∃ p, L[i]? = some p ∧ ((e.1 = p.1 ∧ e.2.2.1 = p.2.2.1) ∧ (e.2.1.2.1 : Int) = p.2.1.length ∧ (e.2.2.2.2.1 : Int) = p.2.2.2.length) ∧ Arr w encInt 1 e.2.1.1 p.2.1 ∧ Arr w encOp 3 e.2.2.2.1 p.2.2.2 := by
  have hl := (List.getElem?_eq_some_iff.1 he).1
  have hp : L[i]? = some (L[i]'(by rw [← h.1]; exact hl)) := List.getElem?_eq_getElem _
  obtain ⟨h1, h2, h3⟩ := h.2 i e _ he hp
  exact ⟨_, hp, h1, h2, h3⟩
theorem smallTo_zero : SmallTo L 0 := fun i p h => by omega
theorem smallTo_step (h : SmallTo L k) (h0 : 0 ≤ k) (hp : L[k.toNat]? = some p) (h1 : (p.2.1.length : Int) ≤ 1048576) (h2 : (p.2.2.2.length : Int) ≤ 1048576) : SmallTo L (k + 1) := fun i q hi hq => by
  by_cases hik : (i : Int) < k
  · exact h i q hik hq
  · have : i = k.toNat := by omega
    subst this
    rw [hp] at hq; injection hq with hq; subst hq
    exact ⟨h1, h2⟩
theorem smallTo_all (h : SmallTo L k) (hk : (L.length : Int) ≤ k) : SmallL L := fun i p hp => h i p (by have := (List.getElem?_eq_some_iff.1 hp).1; omega) hp
theorem fill_zero : FillTo es1 L [] 0 := ⟨⟨rfl, fun z h => by simp at h⟩, fun i h => by omega, by simp⟩
theorem fill_step (h : FillTo es1 L Z k) (h0 : 0 ≤ k) (hl : k < es1.length) (hp : L[k.toNat]? = some p) (hr : EntRel e p) : FillTo (es1.set k.toNat e) L ((e, p) :: Z) (k + 1) := by
  obtain ⟨⟨h1, h2⟩, h3, h4⟩ := h
  refine ⟨⟨by simp only [List.length_cons]; omega, fun z hz => ?_⟩, fun i hi => ?_, ?_⟩
  · rcases List.mem_cons.1 hz with rfl | hz
    · exact hr
    · exact h2 z hz
  · rw [List.reverse_cons, List.map_append]
    have hm : (Z.reverse.map (·.1)).length = k.toNat := by simp; omega
    by_cases hik : i = k.toNat
    · subst hik
      rw [List.getElem?_set_self (by omega), List.getElem?_append_right (by omega), hm]; simp
    · rw [List.getElem?_set_ne (by omega), List.getElem?_append_left (by omega)]
      exact h3 i (by omega)
  · rw [List.reverse_cons, List.map_append, h4, show (k + 1).toNat = k.toNat + 1 by omega, List.take_add_one, hp]; rfl
theorem fill_end (h : FillTo es1 L Z k) (h1 : (es1.length : Int) = k) (h2 : (L.length : Int) = k) : Filled es1 L Z := by
  obtain ⟨⟨g1, g2⟩, g3, g4⟩ := h
  refine ⟨⟨?_, ?_⟩, g2⟩
  · apply List.ext_getElem?
    intro i
    by_cases hi : (i : Int) < k
    · exact g3 i hi
    · rw [List.getElem?_eq_none (by omega), List.getElem?_eq_none (by simp; omega)]
  · rw [g4, List.take_of_length_le (by omega)]
theorem mem_entR : ∀ {Z : List (Ent × PE)} {z : Ent × PE}, z ∈ Z → Res.row 3 1 (.slice z.1.2.1.1 z.1.2.1.2.1 z.1.2.1.2.2) z.1.2.1.2.1 (z.2.2.1.flatMap encInt) ∈ entR Z ∧ Res.row 43 3 (.slice z.1.2.2.2.1 z.1.2.2.2.2.1 z.1.2.2.2.2.2) z.1.2.2.2.2.1 (z.2.2.2.2.flatMap encOp) ∈ entR Z
  | y :: Z, z, h => by
    rcases List.mem_cons.1 h with rfl | h
    · exact ⟨List.mem_cons_self .., List.mem_cons_of_mem _ (List.mem_cons_self ..)⟩
    · have := mem_entR h
      exact ⟨List.mem_cons_of_mem _ (List.mem_cons_of_mem _ this.1), List.mem_cons_of_mem _ (List.mem_cons_of_mem _ this.2)⟩
theorem ents_of (O : Own w0 X Γ w) (h : Filled es1 L Z) (hΓ : ∀ r ∈ entR Z, r ∈ Γ) : Ents w es1 L := by
  obtain ⟨⟨rfl, rfl⟩, hr⟩ := h
  refine ⟨by simp, fun i e p he hp => ?_⟩
  rw [List.getElem?_map] at he hp
  cases hz : Z.reverse[i]? with
  | none => rw [hz] at he; simp at he
  | some z =>
    rw [hz] at he hp
    simp at he hp
    subst he; subst hp
    have hm : z ∈ Z := List.mem_reverse.1 (List.mem_of_getElem? hz)
    obtain ⟨m1, m2⟩ := mem_entR hm
    obtain ⟨i1, g1⟩ := List.getElem?_of_mem (hΓ _ m1)
    obtain ⟨i2, g2⟩ := List.getElem?_of_mem (hΓ _ m2)
    exact ⟨hr z hm, O.arr i1 g1 encInt_len (by decide), O.arr i2 g2 encOp_len (by decide)⟩
theorem Own.tl1 {A T B : List Res} (O : Own w0 X ((A ++ T) ++ B) w) : Own w0 X ((A ++ B) ++ T) w := O.perm (by rw [List.append_assoc, List.append_assoc]; exact List.Perm.append_left A List.perm_append_comm)
theorem Own.tl2 {A T B U : List Res} (O : Own w0 X ((A ++ T) ++ (B ++ U)) w) : Own w0 X ((A ++ B) ++ (T ++ U)) w := O.perm (by
  rw [List.append_assoc, List.append_assoc, ← List.append_assoc T B U, ← List.append_assoc B T U]
  exact List.Perm.append_left A (List.Perm.append_right U List.perm_append_comm))
theorem Own.rot3 {a b c : Res} {T : List Res} (O : Own w0 X (a :: b :: c :: T) w) : Own w0 X (c :: a :: b :: T) w := O.perm (((List.Perm.swap c b T).cons a).trans (List.Perm.swap c a (b :: T)))
end

/-! ### chains of bases -/
def bases (es : List Ent) : List Int := es.map (·.2.2.1)
def PVto (bs : List Int) (k : Int) : Prop := ∀ (i : Nat) b, (i : Int) < k → bs[i]? = some b → -1 ≤ b ∧ b ≤ (i : Int) - 1
def PV (bs : List Int) : Prop := PVto bs bs.length
inductive Dp (bs : List Int) : Nat → Nat → Prop
  | zero {i : Nat} {b : Int} : bs[i]? = some b → b < 0 → Dp bs i 0
  | succ {i n : Nat} {b : Int} : bs[i]? = some b → 0 ≤ b → Dp bs b.toNat n → Dp bs i (n + 1)
def PD (bs : List Int) (i r : Int) : Prop := ((PV bs ∧ 0 ≤ i ∧ i < bs.length) ∧ ∃ n : Nat, Dp bs i.toNat n ∧ r = n) ∨ (¬ (PV bs ∧ 0 ≤ i ∧ i < bs.length) ∧ r = -1)
section
variable {es : List Ent} {bs : List Int} {i k b r r2 : Int} {n m : Nat} {e : Ent}
theorem bases_get (h0 : 0 ≤ k) (he : es[k.toNat]? = some e) : (bases es)[k.toNat]? = some e.2.2.1 := by unfold bases; rw [List.getElem?_map, he]; rfl
theorem bases_len : (bases es).length = es.length := by unfold bases; simp
theorem pv_zero : PVto bs 0 := fun i b h => by omega
theorem pv_step (h : PVto bs k) (h0 : 0 ≤ k) (hb : bs[k.toNat]? = some b) (hx : -1 ≤ b ∧ b ≤ k - 1) : PVto bs (k + 1) := fun i c hi hc => by
  by_cases hik : (i : Int) < k
  · exact h i c hik hc
  · have : i = k.toNat := by omega
    subst this
    rw [hb] at hc; injection hc with hc; subst hc
    omega
theorem pv_all (h : PVto bs k) (hk : (bs.length : Int) ≤ k) : PV bs := fun i b hi hb => h i b (by omega) hb
theorem pv_at (h : PV bs) (h0 : 0 ≤ k) (hb : bs[k.toNat]? = some b) : -1 ≤ b ∧ b ≤ k - 1 := by
  have := h k.toNat b (by have := (List.getElem?_eq_some_iff.1 hb).1; omega) hb
  omega
theorem pv_not (h0 : 0 ≤ k) (hb : bs[k.toNat]? = some b) (hx : ¬ (-1 ≤ b ∧ b ≤ k - 1)) : ¬ PV bs := fun h => hx (pv_at h h0 hb)
theorem dp_uniq {j : Nat} : Dp bs j n → ∀ {m : Nat}, Dp bs j m → n = m := by
  intro h
  induction h with
  | zero hb h0 =>
    intro m hm
    cases hm with
    | zero _ _ => rfl
    | succ hb2 h2 _ => rw [hb] at hb2; injection hb2 with e; omega
  | succ hb h0 _ ih =>
    intro m hm
    cases hm with
    | zero hb2 h2 => rw [hb] at hb2; injection hb2 with e; omega
    | succ hb2 h2 hd => rw [hb] at hb2; injection hb2 with e; subst e; rw [ih hd]
theorem dp_neg (h : Dp bs i.toNat n) (hb : bs[i.toNat]? = some b) (hx : b < 0) : n = 0 := dp_uniq h (.zero hb hx)
theorem dp_pos (h : Dp bs i.toNat n) (hb : bs[i.toNat]? = some b) (hx : 0 ≤ b) : ∃ m, n = m + 1 ∧ Dp bs b.toNat m := by
  cases h with
  | zero hb2 h2 => rw [hb] at hb2; injection hb2 with e; omega
  | succ hb2 h2 hd => rw [hb] at hb2; injection hb2 with e; subst e; exact ⟨_, rfl, hd⟩
theorem dp_ex (h : PV bs) : ∀ (f i : Nat), i < f → i < bs.length → ∃ n : Nat, Dp bs i n ∧ n ≤ i
  | 0, i, h1, _ => by omega
  | f + 1, i, h1, h2 => by
    have hb : bs[i]? = some bs[i] := List.getElem?_eq_getElem h2
    have hr := h i _ (by omega) hb
    by_cases hx : 0 ≤ bs[i]
    · obtain ⟨n, hn, hl⟩ := dp_ex h f bs[i].toNat (by omega) (by omega)
      exact ⟨n + 1, .succ hb hx hn, by omega⟩
    · exact ⟨0, .zero hb (by omega), by omega⟩
theorem dp_get (h : PV bs) (h0 : 0 ≤ i) (h1 : i < bs.length) : ∃ n : Nat, Dp bs i.toNat n ∧ (n : Int) ≤ i := by
  obtain ⟨n, h2, h3⟩ := dp_ex h (i.toNat + 1) i.toNat (by omega) (by omega)
  exact ⟨n, h2, by omega⟩
theorem pd_ok (h : PV bs) (h0 : 0 ≤ i) (h1 : i < bs.length) (hd : Dp bs i.toNat n) : PD bs i n := .inl ⟨⟨h, h0, h1⟩, n, hd, rfl⟩
theorem pd_bad (h : ¬ PV bs) : PD bs i (-1) := .inr ⟨fun g => h g.1, rfl⟩
theorem pd_out (h : ¬ (0 ≤ i ∧ i < bs.length)) : PD bs i (-1) := .inr ⟨fun g => h g.2, rfl⟩
theorem pd_uniq (h : PD bs i r) (h2 : PD bs i r2) : r = r2 := by
  rcases h with ⟨h, n, hn, rfl⟩ | ⟨h, rfl⟩ <;> rcases h2 with ⟨g, m, hm, rfl⟩ | ⟨g, rfl⟩
  · rw [dp_uniq hn hm]
  · exact absurd h g
  · exact absurd g h
  · rfl
theorem filled_bases {es1 : List Ent} {L : List PE} {Z : List (Ent × PE)} (h : Filled es1 L Z) : bases es1 = L.map (·.2.2.1) := by
  obtain ⟨⟨rfl, rfl⟩, hr⟩ := h
  unfold bases
  rw [List.map_map, List.map_map]
  exact List.map_congr_left fun z hz => (hr z (List.mem_reverse.1 hz)).1.2
theorem filled_len {es1 : List Ent} {L : List PE} {Z : List (Ent × PE)} (h : Filled es1 L Z) : es1.length = L.length := by
  obtain ⟨⟨rfl, rfl⟩, hr⟩ := h
  simp
end

/-! ### linked entries -/
def pkP : Option Nat → Value
  | none => .pointer none
  | some b => .pointer (some ⟨b, 0, none⟩)
abbrev Nd := Nat × Ent × Option Nat
def pkR : List Nd → List Res
  | [] => []
  | m :: M => .cells m.1 [.int .i64 m.2.1.1, .slice m.2.1.2.1.1 m.2.1.2.1.2.1 m.2.1.2.1.2.2, .int .i64 m.2.1.2.2.1, .slice m.2.1.2.2.2.1 m.2.1.2.2.2.2.1 m.2.1.2.2.2.2.2, pkP m.2.2, .string (bs [])] 82 :: pkR M
def DpAt (w : World) : Nat → Nat → Prop
  | 0, b => b < w.heap.size ∧ w.cell? ⟨b, 4, none⟩ = some (.pointer none)
  | n + 1, b => b < w.heap.size ∧ ∃ q, w.cell? ⟨b, 4, none⟩ = some (.pointer (some ⟨q, 0, none⟩)) ∧ DpAt w n q
def LinkTo (es : List Ent) (qs : List Nat) (M : List Nd) (k : Int) : Prop := (qs = M.reverse.map (·.1) ∧ (qs.length : Int) = k) ∧ PVto (bases es) k ∧ ∀ (i : Nat) m, M.reverse[i]? = some m → ∃ b, (bases es)[i]? = some b ∧ ((b < 0 ∧ m.2.2 = none) ∨ (0 ≤ b ∧ ∃ q, qs[b.toNat]? = some q ∧ m.2.2 = some q))
def LinkRes (es : List Ent) (qs : List Nat) (M : List Nd) (v : Bool) : Prop := (v = true ∧ PV (bases es) ∧ LinkTo es qs M es.length) ∨ (v = false ∧ ¬ PV (bases es))
section
variable {es : List Ent} {qs : List Nat} {M : List Nd} {k b : Int} {m : Nd} {w w0 : World} {X : List Nat} {Γ : List Res}
theorem link_zero : LinkTo es [] [] 0 := ⟨⟨rfl, rfl⟩, pv_zero, fun i m h => by simp at h⟩
theorem link_step (h : LinkTo es qs M k) (h0 : 0 ≤ k) (hb : (bases es)[k.toNat]? = some b) (hr : -1 ≤ b ∧ b ≤ k - 1) (hm : (b < 0 ∧ m.2.2 = none) ∨ (0 ≤ b ∧ ∃ q, qs[b.toNat]? = some q ∧ m.2.2 = some q)) : LinkTo es (qs ++ [m.1]) (m :: M) (k + 1) := by
  obtain ⟨⟨h1, h2⟩, h3, h4⟩ := h
  have hl : M.reverse.length = k.toNat := by rw [h1, List.length_map] at h2; omega
  have grow : ∀ {j : Nat} {q : Nat}, qs[j]? = some q → (qs ++ [m.1])[j]? = some q := fun {j q} hj => by rw [List.getElem?_append_left (List.getElem?_eq_some_iff.1 hj).1]; exact hj
  have lift : ∀ {c : Int} {o : Option Nat}, ((c < 0 ∧ o = none) ∨ (0 ≤ c ∧ ∃ q, qs[c.toNat]? = some q ∧ o = some q)) → ((c < 0 ∧ o = none) ∨ (0 ≤ c ∧ ∃ q, (qs ++ [m.1])[c.toNat]? = some q ∧ o = some q)) := fun hc => by
    rcases hc with hc | ⟨hc, q, hq, ho⟩
    · exact .inl hc
    · exact .inr ⟨hc, q, grow hq, ho⟩
  refine ⟨⟨by rw [List.reverse_cons, List.map_append, ← h1]; rfl, by rw [List.length_append]; simp; omega⟩, pv_step h3 h0 hb hr, fun i m' hi => ?_⟩
  rw [List.reverse_cons] at hi
  by_cases hik : i < M.reverse.length
  · rw [List.getElem?_append_left hik] at hi
    obtain ⟨c, hc, hx⟩ := h4 i m' hi
    exact ⟨c, hc, lift hx⟩
  · have : i = k.toNat := by have := (List.getElem?_eq_some_iff.1 hi).1; simp at this; rw [List.length_reverse] at hl hik; omega
    subst this
    rw [List.getElem?_append_right (by omega), hl] at hi
    simp at hi
    subst hi
    exact ⟨b, hb, lift hm⟩
theorem mem_pkR : ∀ {M : List Nd} {m : Nd}, m ∈ M → Res.cells m.1 [.int .i64 m.2.1.1, .slice m.2.1.2.1.1 m.2.1.2.1.2.1 m.2.1.2.1.2.2, .int .i64 m.2.1.2.2.1, .slice m.2.1.2.2.2.1 m.2.1.2.2.2.2.1 m.2.1.2.2.2.2.2, pkP m.2.2, .string (bs [])] 82 ∈ pkR M
  | y :: M, m, h => by
    rcases List.mem_cons.1 h with rfl | h
    · exact List.mem_cons_self ..
    · exact List.mem_cons_of_mem _ (mem_pkR h)
theorem dp_of (O : Own w0 X Γ w) (h : LinkTo es qs M k) (hΓ : ∀ r ∈ pkR M, r ∈ Γ) {i n : Nat} (hd : Dp (bases es) i n) : ∀ {q : Nat}, qs[i]? = some q → DpAt w n q := by
  obtain ⟨⟨h1, h2⟩, h3, h4⟩ := h
  have node : ∀ {i q : Nat}, qs[i]? = some q → ∃ m, M.reverse[i]? = some m ∧ q < w.heap.size ∧ w.cell? ⟨q, 4, none⟩ = some (pkP m.2.2) := fun {i q} hq => by
    rw [h1, List.getElem?_map] at hq
    cases hm : M.reverse[i]? with
    | none => rw [hm] at hq; simp at hq
    | some m =>
      rw [hm] at hq
      simp at hq
      subst hq
      obtain ⟨j, hj⟩ := List.getElem?_of_mem (hΓ _ (mem_pkR (List.mem_reverse.1 (List.mem_of_getElem? hm))))
      have hc := O.load j hj (o := 4) rfl
      exact ⟨m, rfl, World.block_lt_of_cell? w _ hc, hc⟩
  induction hd with
  | zero hb h0 =>
    intro q hq
    obtain ⟨m, hm, hlt, hc⟩ := node hq
    obtain ⟨c, hc2, hx⟩ := h4 _ _ hm
    rw [hb] at hc2; injection hc2 with e; subst e
    rcases hx with ⟨_, hx⟩ | ⟨hx, _⟩
    · rw [hx] at hc; exact ⟨hlt, hc⟩
    · omega
  | succ hb h0 _ ih =>
    intro q hq
    obtain ⟨m, hm, hlt, hc⟩ := node hq
    obtain ⟨c, hc2, hx⟩ := h4 _ _ hm
    rw [hb] at hc2; injection hc2 with e; subst e
    rcases hx with ⟨hx, _⟩ | ⟨_, q2, hq2, hx⟩
    · omega
    · rw [hx] at hc; exact ⟨hlt, q2, hc, ih hq2⟩
theorem link_res (h : LinkTo es qs M k) (hk : (es.length : Int) = k) : LinkRes es qs M true := .inl ⟨rfl, pv_all h.2.1 (by rw [bases_len]; omega), hk ▸ h⟩
end
end Go.Proofs.Ytbhidkcljekobaa
