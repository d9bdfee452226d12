/- The contract of slices.Reverse at operations. No conditions but those on lengths. -/
import Derived.Test.YtbhidkcljekobaaDelM
import Derived.Shelf.SlicesQ.Reverse
import Derived.Ground.SlgnProg
namespace Go.Proofs
open Go.Shelf Go.Lib
shelf_lay_g SlLaysE0.n35 Slgn 35 at Try 52 as Try.laysRev
end Go.Proofs
namespace Go.Proofs.Ytbhidkcljekobaa
set_option linter.unusedVariables false
set_option linter.unusedSimpArgs false
open Go.RowKit Go.Shelf Go.Proofs Go.Sort

section
variable {P : Program} {S : World → Prop} {Fr : List (Nat × Value)} {x : Operand} {t ty : TypeId} {yt : TypeId} {E : TypeId}
theorem p_pne {p : Option Addr} (h : ev Fr x = some (.pointer p)) (ht : P.underlying t = some (.pointer (P.pointee t))) : PureIf P S (.binOp .neq t x (.const (.pointer none)) yt) ty Fr (.bool p.isSome) := fun n a w dst pos aft g F hS => by
  simp only [execOp, F.ev h]
  simp [eqGuard, binOp, Act.eval, run_equal_pointer_nil w t p ht]
  try (cases p <;> simp)
theorem p_pneS {p : Addr} (h : ev Fr x = some (.pointer (some p))) (ht : P.underlying t = some (.pointer (P.pointee t))) : PureIf P S (.binOp .neq t x (.const (.pointer none)) yt) ty Fr (.bool true) := p_pne h ht
theorem p_pneN (h : ev Fr x = some (.pointer none)) (ht : P.underlying t = some (.pointer (P.pointee t))) : PureIf P S (.binOp .neq t x (.const (.pointer none)) yt) ty Fr (.bool false) := p_pne h ht
end
theorem flatK_list {α : Type} [Inhabited α] (enc : α → List Value) (k : Nat) (hk : ∀ x, (enc x).length = k) (es : List α) (t : Nat) (ht : t < es.length * k) : (flatK enc k es.toArray)[t]! = (es.flatMap enc)[t]'(by rw [flat_len hk]; exact ht) := by
  have hk0 : 0 < k := by
    rcases Nat.eq_zero_or_pos k with h | h
    · subst h; simp at ht
    · exact h
  have h1 : t / k < es.length := Nat.div_lt_of_lt_mul (by rw [Nat.mul_comm]; exact ht)
  have h2 : t % k < k := Nat.mod_lt _ hk0
  rw [get_flatK enc k es.toArray t (by simpa using ht)]
  have h3 : es[t / k]? = some es[t / k] := List.getElem?_eq_getElem h1
  have h4 : (enc es[t / k])[t % k]? = some ((enc es[t / k])[t % k]'(by rw [hk]; exact h2)) := List.getElem?_eq_getElem (by rw [hk]; exact h2)
  have h5 := flat_get hk h3 h4
  have h6 : t / k * k + t % k = t := by rw [Nat.mul_comm]; exact Nat.div_add_mod t k
  rw [Nat.zero_add, h6] at h5
  obtain ⟨_, h7⟩ := List.getElem?_eq_some_iff.1 h5
  rw [h7]
  have e1 : es.toArray[t / k]! = es[t / k] := by simp [getElem!_def, h3]
  rw [e1]
  simp [getElem!_def, h4]

theorem own_putRowK {α : Type} [Inhabited α] {w0 w : World} {X : List Nat} {Γ : List Res} (enc : α → List Value) (k : Nat) (hk : ∀ x, (enc x).length = k) (O : Own w0 X Γ w) (i : Nat) {E q c b : Nat} {xs : List Value} {ds : List α} (hq : q = ds.length)
    (h : Γ[i]? = some (.row E k (.slice (some ⟨b, 0, none⟩) q c) q xs)) (n : Nat) :
    Own w0 X (Γ.set i (.row E k (.slice (some ⟨b, 0, none⟩) q c) q (ds.flatMap enc))) (putRowK enc k (Go.Sort.ahead w n) b 0 ds.toArray) := by
  have hh := O.has h
  simp only [Res.holds] at hh
  obtain ⟨hl, h2⟩ := hh
  rcases h2 with ⟨h', _⟩ | ⟨g, cap, cur, h', hb, hg, hnc, hcm, hcs, htake⟩
  · simp at h'
  simp only [Value.slice.injEq, Option.some.injEq, Addr.mk.injEq, and_true, true_and] at h'
  obtain ⟨rfl, rfl⟩ := h'
  have hheap : (putRowK enc k (Go.Sort.ahead w n) b 0 ds.toArray).heap = w.heap.modify b (onCells (putCells id 0 (flatK enc k ds.toArray))) := rfl
  refine O.grown i h ⟨rfl, rfl, rfl, by rw [hheap]; simp, fun j hj hne => ?_⟩ ?_ (.inl rfl)
  · rw [hheap, Array.getElem?_modify, if_neg (fun e => hne (by rw [e]; rfl))]
  · simp only [Res.holds]
    refine ⟨by rw [flat_len hk, hq], .inr ⟨b, c, putCells id 0 (flatK enc k ds.toArray) cur, rfl, hb, ?_, hnc, hcm, by simp [putCells, hcs], ?_⟩⟩
    · rw [hheap, Array.getElem?_modify, if_pos rfl, hg]; rfl
    · apply List.ext_getElem?
      intro t
      by_cases ht : t < q * k
      · have hc : t < cur.size := by rw [hcs]; exact Nat.lt_of_lt_of_le ht (Nat.mul_le_mul_right k hnc)
        have ht2 : t < (ds.flatMap enc).length := by rw [flat_len hk, ← hq]; exact ht
        rw [List.getElem?_take, if_pos ht, List.getElem?_eq_getElem ht2, Array.getElem?_toList]
        unfold putCells
        rw [Array.getElem?_mapIdx, Array.getElem?_eq_getElem hc]
        simp only [Option.map_some]
        rw [if_pos ⟨Nat.zero_le _, by simp [flatK]; rw [← hq]; exact ht⟩]
        congr 1
        exact flatK_list enc k hk ds t (by rw [← hq]; exact ht)
      · rw [List.getElem?_eq_none (by simp; omega), List.getElem?_eq_none (by rw [flat_len hk, ← hq]; omega)]

theorem reverse_some (b n c : Nat) (es : List (Int × Int × List UInt8)) (w0 : World) (hn : (n : Int) = es.length) (hb : (n : Int) ≤ 1048600) (O : Own w0 [b] [.row 43 3 (.slice (some ⟨b, 0, none⟩) n c) n (es.flatMap encOp)] w0) :
    Calls Try.prog 52 #[.slice (some ⟨b, 0, none⟩) n c] w0 fun e w => e = .returned (.tuple #[]) ∧ Own w0 [b] [.row 43 3 (.slice (some ⟨b, 0, none⟩) n c) n (es.reverse.flatMap encOp)] w := by
  obtain rfl : n = es.length := by omega
  have hH : HoldsK encOp 3 w0 b 0 es.toArray := fun j hj => by
    have hj : j < es.length * 3 := by simpa [flatK] using hj
    rw [flatK_list encOp 3 encOp_len es j hj]
    have hj2 : j < (es.flatMap encOp).length := by rw [flat_len encOp_len]; exact hj
    rw [Nat.zero_add]
    exact ⟨O.loadRow 0 rfl (List.getElem?_eq_getElem hj2), O.freeRow 0 rfl⟩
  have c1 := AnyQ.slices_Reverse Try.laysRev 3 (fun w => by kernel_rfl) (fun w => by kernel_rfl) encOp encOp_len (fun x v hv => by simp [encOp] at hv; rcases hv with rfl | rfl | rfl <;> rfl) b 0 c es.toArray w0 hH (by simp; omega)
  refine (show Calls _ _ #[.slice (some ⟨b, 0, none⟩) es.toArray.size c] w0 _ from c1).mono fun e w ⟨he, m, hw⟩ => ⟨he, ?_⟩
  subst hw
  have := own_putRowK encOp 3 encOp_len O 0 (ds := es.reverse) (by simp) rfl m
  simpa using this

theorem slice_row {w : World} {P : Option Addr} {E sz n c : Nat} {xs : List Value} (h : w.ownsRow 0 E sz (.slice P n c) n xs) : (P = none ∧ n = 0 ∧ c = 0) ∨ ∃ b, P = some ⟨b, 0, none⟩ := by
  rcases h.2 with ⟨hv, hn⟩ | ⟨g, cap, cur, hv, _⟩
  · injection hv with h1 h2 h3
    exact .inl ⟨h1, hn, h3⟩
  · injection hv with h1 h2 h3
    exact .inr ⟨g, h1⟩

theorem reverse_ok (P : Option Addr) (n c : Nat) (es : List (Int × Int × List UInt8)) (w0 : World) (hn : (n : Int) = es.length) (hb : (n : Int) ≤ 1048600) (O : Own w0 (Value.slice P n c).ownBlock.toList [.row 43 3 (.slice P n c) n (es.flatMap encOp)] w0) :
    Calls Try.prog 52 #[.slice P n c] w0 fun e w => e = .returned (.tuple #[]) ∧ Own w0 (Value.slice P n c).ownBlock.toList [.row 43 3 (.slice P n c) n (es.reverse.flatMap encOp)] w := by
  have hr : w0.ownsRow 0 43 3 (.slice P n c) n (es.flatMap encOp) := O.has (i := 0) rfl
  rcases slice_row hr with ⟨rfl, rfl, rfl⟩ | ⟨b, rfl⟩
  · have he : es = [] := List.length_eq_zero_iff.1 (by omega)
    subst he
    refine (AnyQ.slices_Reverse_empty Try.laysRev none 0 w0).mono fun e w h => ⟨h.1, ?_⟩
    rw [h.2]; exact O
  · exact reverse_some b n c es w0 hn hb O

end Go.Proofs.Ytbhidkcljekobaa
