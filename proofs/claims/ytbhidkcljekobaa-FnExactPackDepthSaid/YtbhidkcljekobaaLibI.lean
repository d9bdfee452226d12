/- The library's strings.Index at this dump; plain laws on the longest common part. No conditions but those said. -/
import Derived.Test.YtbhidkcljekobaaPick
import Derived.Test.YtbhidkcljekobaaG2
import Derived.Ground.NamesProg
import Derived.Shelf.Lay
import Derived.Shelf.Strings.Search3
import Derived.Shelf.Vars
namespace Go.Proofs
open Go.RowKit Go.Shelf
shelf_lay Lays.n143 Nm 143 at Try as Try.laysIndex
end Go.Proofs
namespace Go.Proofs.Ytbhidkcljekobaa
set_option linter.unusedVariables false
set_option linter.unusedSimpArgs false
open Go.RowKit Go.Shelf Go.Proofs

theorem index_ok (s t : List UInt8) (m0 : Int) (w0 : World) (hs : (s.length : Int) ≤ 1048576) (hl_0 : 0 < w0.heap.size) (hm_0_0 : w0.cell? ⟨0, 0, none⟩ = some (.int .i64 (m0))) :
    Calls Try.prog 51 #[.string (bs s), .string (bs t)] w0 fun e w => e = .returned (.int .i64 (Lib.index s t)) ∧ Own w0 [] [] w :=
  (Any.strings_Index Try.laysIndex (bs s) (bs t) m0 w0 (by simp [bs, ByteArray.size]; omega) hm_0_0).mono fun e w h => ⟨by simpa [bs] using h.1, by rw [h.2]; exact Own.start w0⟩

def cp : List UInt8 → List UInt8 → Nat
  | a :: l, b :: m => if a = b then cp l m + 1 else 0
  | _, _ => 0
theorem cp_le : ∀ l m : List UInt8, cp l m ≤ m.length
  | [], m => by simp [cp]
  | a :: l, [] => by simp [cp]
  | a :: l, b :: m => by
    have := cp_le l m
    unfold cp; split <;> simp <;> omega
theorem cp_le' : ∀ l m : List UInt8, cp l m ≤ l.length
  | [], m => by simp [cp]
  | a :: l, [] => by simp [cp]
  | a :: l, b :: m => by
    have := cp_le' l m
    unfold cp; split <;> simp <;> omega
theorem cp_next : ∀ {l m : List UInt8} {n : Nat}, n ≤ cp l m → (n < cp l m ↔ ∃ c, l[n]? = some c ∧ m[n]? = some c)
  | [], m, n, h => by simp [cp]
  | a :: l, [], n, h => by simp [cp]
  | a :: l, b :: m, 0, h => by
    by_cases e : a = b
    · simp [cp, e]
    · simp [cp, e]; exact fun h => e h.symm
  | a :: l, b :: m, n + 1, h => by
    by_cases e : a = b
    · simp only [cp, e, if_true] at h ⊢
      have := cp_next (l := l) (m := m) (n := n) (by omega)
      simp only [List.getElem?_cons_succ]
      rw [← this]; omega
    · simp [cp, e] at h
theorem cp_pre : ∀ {l m : List UInt8} {k : Nat}, k ≤ m.length → ((m.take k).isPrefixOf l = true ↔ k ≤ cp l m)
  | l, m, 0, h => by simp
  | [], [], k + 1, h => by simp at h
  | [], b :: m, k + 1, h => by simp [cp, List.isPrefixOf]
  | a :: l, [], k + 1, h => by simp at h
  | a :: l, b :: m, k + 1, h => by
    have ih := cp_pre (l := l) (m := m) (k := k) (by simpa using h)
    simp only [List.take_succ_cons, List.isPrefixOf, Bool.and_eq_true, beq_iff_eq]
    by_cases e : a = b
    · subst e; simp [cp, ih]
    · simp [cp, e]; intro h; exact absurd h.symm e
theorem index_spec {sub : List UInt8} (h0 : 0 < sub.length) : ∀ s : List UInt8, (Lib.index s sub = -1 ∧ ∀ i, sub.isPrefixOf (s.drop i) = false) ∨ (∃ r : Nat, Lib.index s sub = r ∧ r < s.length ∧ sub.isPrefixOf (s.drop r) = true ∧ ∀ i, i < r → sub.isPrefixOf (s.drop i) = false)
  | [] => by
    obtain ⟨x, r, rfl⟩ : ∃ x r, sub = x :: r := by cases sub; simp at h0; exact ⟨_, _, rfl⟩
    exact .inl ⟨by simp [Lib.index], fun i => by simp [List.isPrefixOf]⟩
  | b :: s => by
    by_cases hp : sub.isPrefixOf (b :: s) = true
    · exact .inr ⟨0, by rw [Lib.index, hp]; simp, by simp, by simpa using hp, fun i hi => by omega⟩
    · have hp' := Bool.eq_false_iff.2 hp
      have hix : Lib.index (b :: s) sub = if Lib.index s sub == -1 then -1 else Lib.index s sub + 1 := by rw [Lib.index, hp']; simp
      rcases index_spec h0 s with ⟨h1, h2⟩ | ⟨r, h1, h2, h3, h4⟩
      · refine .inl ⟨by rw [hix, h1]; rfl, fun i => ?_⟩
        cases i with
        | zero => exact hp'
        | succ i => exact h2 i
      · refine .inr ⟨r + 1, ?_, by simp; omega, h3, fun i hi => ?_⟩
        · rw [hix, h1, if_neg (by simp)]; simp
        · cases i with
          | zero => exact hp'
          | succ i => exact h4 i (by omega)

def longF (b t : List UInt8) : Nat → Int × Int
  | 0 => (0, 0)
  | k + 1 => if (longF b t k).2 < (cp (b.drop k) t : Int) then ((k : Int), (cp (b.drop k) t : Int)) else longF b t k
def LongIs (b t : List UInt8) (k : Nat) (p : Int × Int) : Prop := 0 ≤ p.2 ∧ (∀ i, i < k → (cp (b.drop i) t : Int) ≤ p.2) ∧ ((p.2 = 0 ∧ p.1 = 0) ∨ ∃ a : Nat, p.1 = a ∧ a < k ∧ (cp (b.drop a) t : Int) = p.2 ∧ 0 < p.2 ∧ ∀ i, i < a → (cp (b.drop i) t : Int) < p.2)
theorem longF_is (b t : List UInt8) : ∀ k, LongIs b t k (longF b t k)
  | 0 => ⟨by simp [longF], fun i hi => by omega, .inl (by simp [longF])⟩
  | k + 1 => by
    obtain ⟨h0, h1, h2⟩ := longF_is b t k
    unfold longF
    by_cases h : (longF b t k).2 < (cp (b.drop k) t : Int)
    · rw [if_pos h]
      refine ⟨by simp, fun i hi => ?_, .inr ⟨k, rfl, by omega, rfl, by simp only; omega, fun i hi => ?_⟩⟩
      · by_cases e : i = k
        · subst e; exact Int.le_refl _
        · have := h1 i (by omega); simp only; omega
      · have := h1 i (by omega); simp only; omega
    · rw [if_neg h]
      refine ⟨h0, fun i hi => ?_, ?_⟩
      · by_cases e : i = k
        · subst e; omega
        · exact h1 i (by omega)
      · rcases h2 with h2 | ⟨a, h3, h4, h5⟩
        · exact .inl h2
        · exact .inr ⟨a, h3, by omega, h5⟩
theorem long_uniq {b t : List UInt8} {k : Nat} {p q : Int × Int} (hp : LongIs b t k p) (hq : LongIs b t k q) : p = q := by
  obtain ⟨p0, p1, p2⟩ := hp
  obtain ⟨q0, q1, q2⟩ := hq
  obtain ⟨x, y⟩ := p
  obtain ⟨u, v⟩ := q
  simp only at *
  rcases p2 with ⟨rfl, rfl⟩ | ⟨a, rfl, ha, ha1, ha2, ha3⟩ <;> rcases q2 with ⟨rfl, rfl⟩ | ⟨c, rfl, hc, hc1, hc2, hc3⟩
  · rfl
  · have := p1 c hc; omega
  · have := q1 a ha; omega
  · have e : y = v := by have := p1 c hc; have := q1 a ha; omega
    subst e
    have : a = c := by
      rcases Nat.lt_trichotomy a c with h | h | h
      · have := hc3 a h; omega
      · exact h
      · have := ha3 c h; omega
    subst this; rfl
def longA (b t : List UInt8) : Int := (longF b t b.length).1
def longZ (b t : List UInt8) : Int := (longF b t b.length).2

end Go.Proofs.Ytbhidkcljekobaa
