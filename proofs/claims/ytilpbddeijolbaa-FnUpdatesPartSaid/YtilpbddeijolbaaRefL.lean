/- Plain laws on lists of refs, locks and updates. No conditions but those said. -/
import Derived.Test.YtilpbddeijolbaaRefC3
namespace Go.Proofs.Ytilpbddeijolbaa
open Go.ChangeShapes Go.WideShapes Go.ChangeAt Go.RowKit
set_option linter.unusedVariables false
set_option linter.unusedSimpArgs false


section
variable {es a b : List Int} {t e r : Int} {i : Nat}
theorem LO_free (h : 0 ≤ t) : LO [-1, -1, -1, -1] t = [] := by
  unfold LO
  split
  · have h1 : ¬ (-1 = t) := by omega
    simp [idx, List.range_succ, h1]
  · rfl
theorem hasI_free (h : 0 ≤ t) : hasI t [-1, -1, -1, -1] = false := by
  have h1 : ¬ (-1 = t) := by omega
  simp [hasI, h1]
theorem LF_free (h : 0 ≤ t) (h2 : t ≤ 11) : LF [-1, -1, -1, -1] t = [-1, -1, -1, -1] := by
  rw [LF_ok ⟨⟨rfl, by decide⟩, h, h2⟩]
  have h1 : ¬ (-1 = t) := by omega
  simp [freeL, h1]
theorem RD_back : RD b a = invU (RD a b) := by
  unfold RD
  by_cases h : RVal a ∧ RVal b
  · rw [if_pos h, if_pos ⟨h.2, h.1⟩]
    unfold diffs invU
    rw [List.map_filterMap]
    congr 1
    funext i
    by_cases hab : a.getD i 0 = b.getD i 0
    · rw [if_pos hab, if_pos hab.symm]; rfl
    · rw [if_neg hab, if_neg (fun h => hab h.symm)]; rfl
  · rw [if_neg h, if_neg (fun h' => h ⟨h'.2, h'.1⟩)]; rfl
theorem mem_idx {k : Int} {x : Int} : x ∈ idx es t k ↔ 0 ≤ x ∧ x < k ∧ es.getD x.toNat 0 = t := by
  unfold idx
  rw [List.mem_filterMap]
  constructor
  · rintro ⟨i, hi, hx⟩
    rw [List.mem_range] at hi
    split at hx
    · rename_i h; injection hx with hx; subst hx
      exact ⟨by omega, by omega, by simpa using h⟩
    · cases hx
  · rintro ⟨h0, h1, h2⟩
    refine ⟨x.toNat, by rw [List.mem_range]; omega, ?_⟩
    rw [if_pos h2, Int.toNat_of_nonneg h0]
theorem hasI_iff {l : List Int} : hasI t l = true ↔ t ∈ l := by
  unfold hasI
  rw [List.any_eq_true]
  constructor
  · rintro ⟨x, hx, h⟩
    have : x = t := by simpa using h
    subst this; exact hx
  · intro h; exact ⟨t, h, by simp⟩
theorem LO_has (hV : LVal es t) (he : es[i]? = some e) : hasI (i : Int) (LO es t) = true ↔ e = t := by
  rw [hasI_iff, LO_ok hV, mem_idx]
  have hi := (List.getElem?_eq_some_iff.1 he).1
  have hg := getD_of he
  simp only [Int.toNat_natCast, hg]
  constructor
  · exact fun h => h.2.2
  · exact fun h => ⟨by omega, by omega, h⟩
theorem LO_has' (hV : LVal es t) (h0 : 0 ≤ r) (he : es[r.toNat]? = some e) : hasI r (LO es t) = true ↔ e = t := by
  have := LO_has hV he
  rwa [Int.toNat_of_nonneg h0] at this
theorem LF_get (hV : LVal es t) (he : es[i]? = some e) : (LF es t)[i]? = some (if e = t then -1 else e) := by
  rw [LF_ok hV]; unfold freeL; rw [List.getElem?_map, he]; rfl
theorem LO_pos (hV : LVal es t) : hasI t es = true ↔ 0 < (LO es t).length := by
  rw [hasI_iff]
  constructor
  · intro h
    obtain ⟨i, hi⟩ := List.getElem?_of_mem h
    have := (LO_has hV hi).2 rfl
    rw [hasI_iff] at this
    exact List.length_pos_of_mem this
  · intro h
    obtain ⟨x, hx⟩ := List.exists_mem_of_length_pos h
    rw [LO_ok hV, mem_idx] at hx
    have hl : x.toNat < es.length := by omega
    have := getD_of (List.getElem?_eq_getElem hl)
    rw [this] at hx
    rw [← hx.2.2]
    exact List.getElem_mem hl
theorem LO_LF (h0 : 0 ≤ t) : LO (LF es t) t = [] := by
  by_cases hV : LVal es t
  · rw [LF_ok hV]
    unfold LO
    split
    · rw [List.eq_nil_iff_forall_not_mem]
      intro x hx
      rw [mem_idx] at hx
      have hl : x.toNat < (freeL t es).length := by omega
      have := getD_of (List.getElem?_eq_getElem hl)
      have hg : (freeL t es)[x.toNat]? = some (freeL t es)[x.toNat] := List.getElem?_eq_getElem hl
      rw [this] at hx
      generalize (freeL t es)[x.toNat] = y at hg hx
      unfold freeL at hg
      rw [List.getElem?_map] at hg
      have h9 := hx.2.2
      cases hq : es[x.toNat]? with
      | none => simp [hq] at hg
      | some z => simp [hq] at hg; split at hg <;> omega
    · rfl
  · rw [LF_bad hV]; unfold LO; split
    · rename_i h; have := h.1.1; simp at this
    · rfl
theorem okIn_get {lo hi : Int} (h : okIn lo hi es = true) (he : es[i]? = some e) : lo ≤ e ∧ e ≤ hi := okIn_iff.1 h i e he
end
section
variable {l b : List (Int × Int × Int)} {k x : Int} {e f : Int × Int × Int}
theorem crossB_step (h0 : 0 ≤ k) (he : l[k.toNat]? = some e) : crossB (l.take (k + 1).toNat) b = (crossB (l.take k.toNat) b || hasRef e.1 b) := by
  unfold crossB; rw [take_step h0 he, List.any_append]; simp
theorem hasRef_step (h0 : 0 ≤ k) (he : l[k.toNat]? = some e) : hasRef x (l.take (k + 1).toNat) = (hasRef x (l.take k.toNat) || decide (x = e.1)) := by
  unfold hasRef; rw [take_step h0 he, List.any_append]; simp
theorem crossB_iff {a b : List (Int × Int × Int)} : crossB a b = true ↔ ∃ u ∈ a, ∃ v ∈ b, u.1 = v.1 := by
  unfold crossB hasRef; simp [List.any_eq_true]
theorem crossB_symm {a b : List (Int × Int × Int)} : crossB a b = crossB b a := by
  rw [Bool.eq_iff_iff, crossB_iff, crossB_iff]
  constructor
  · rintro ⟨u, hu, v, hv, h⟩; exact ⟨v, hv, u, hu, h.symm⟩
  · rintro ⟨u, hu, v, hv, h⟩; exact ⟨v, hv, u, hu, h.symm⟩
theorem crossB_self {a : List (Int × Int × Int)} (h : 0 < a.length) : crossB a a = true := by
  obtain ⟨x, hx⟩ := List.exists_mem_of_length_pos h
  exact crossB_iff.2 ⟨x, hx, x, hx, rfl⟩
def RefLt (l : List (Int × Int × Int)) : Prop := ∀ (i j : Nat) e f, i < j → l[i]? = some e → l[j]? = some f → e.1 < f.1
theorem upsB_lt (h : upsB l = true) : RefLt l := by
  have h' := upsB_iff.1 h
  intro i j e f hij he hf
  obtain ⟨d, rfl⟩ : ∃ d, j = i + 1 + d := ⟨j - i - 1, by omega⟩
  induction d generalizing f with
  | zero => exact (h' (i + 1) f (by have := (List.getElem?_eq_some_iff.1 hf).1; omega) hf).2 i e rfl he
  | succ d ih =>
    have hl := (List.getElem?_eq_some_iff.1 hf).1
    have hg : l[i + 1 + d]? = some l[i + 1 + d] := List.getElem?_eq_getElem (by omega)
    have h1 := ih _ (by omega) hg
    have h2 := (h' (i + 1 + (d + 1)) f (by omega) hf).2 (i + 1 + d) _ rfl hg
    omega
theorem upsB_of_lt (h1 : ∀ (i : Nat) e, l[i]? = some e → upB e = true) (h2 : RefLt l) : upsB l = true := upsB_iff.2 fun i e hi he => ⟨h1 i e he, fun i' e' hi' he' => h2 i' i e' e (by omega) he' he⟩
theorem upsB_up (h : upsB l = true) {i : Nat} (he : l[i]? = some e) : upB e = true := (upsB_iff.1 h i e (by have := (List.getElem?_eq_some_iff.1 he).1; omega) he).1
theorem less_get {k j : Nat} (hk : k < l.length) : (l.take k ++ l.drop (k + 1))[j]? = if j < k then l[j]? else l[j + 1]? := by
  by_cases hj : j < k
  · rw [if_pos hj, List.getElem?_append_left (by rw [List.length_take]; omega), List.getElem?_take, if_pos hj]
  · rw [if_neg hj, List.getElem?_append_right (by rw [List.length_take]; omega), List.getElem?_drop, List.length_take]
    congr 1; omega
theorem upsB_less {k : Nat} (h : upsB l = true) (hk : k < l.length) : upsB (l.take k ++ l.drop (k + 1)) = true := by
  refine upsB_of_lt (fun i e he => ?_) (fun i j e f hij he hf => ?_)
  · rw [less_get hk] at he
    split at he <;> exact upsB_up h he
  · rw [less_get hk] at he hf
    split at he <;> split at hf
    · exact upsB_lt h _ _ _ _ hij he hf
    · exact upsB_lt h _ _ _ _ (by omega) he hf
    · omega
    · exact upsB_lt h _ _ _ _ (by omega) he hf
theorem upsB_twice {k : Nat} (hk : k < l.length) : upsB (l.take (k + 1) ++ l.drop k) = false := Bool.eq_false_iff.2 fun h => by
  have hg : l[k]? = some l[k] := List.getElem?_eq_getElem hk
  have h1 : (l.take (k + 1) ++ l.drop k)[k]? = some l[k] := by rw [List.getElem?_append_left (by rw [List.length_take]; omega), List.getElem?_take, if_pos (by omega), hg]
  have h2 : (l.take (k + 1) ++ l.drop k)[k + 1]? = some l[k] := by
    rw [List.getElem?_append_right (by rw [List.length_take]; omega), List.getElem?_drop, List.length_take]
    have : k + (k + 1 - min (k + 1) l.length) = k := by omega
    rw [this, hg]
  have := upsB_lt h _ _ _ _ (Nat.lt_succ_self k) h1 h2
  omega
end
end Go.Proofs.Ytilpbddeijolbaa
