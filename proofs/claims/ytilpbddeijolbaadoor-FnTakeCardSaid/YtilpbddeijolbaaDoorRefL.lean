/- Plain laws on locks taken. No conditions but those said. -/
import Derived.Test.YtilpbddeijolbaaDoorRefT
namespace Go.Proofs.YtilpbddeijolbaaDoor
open Go.ChangeShapes Go.WideShapes Go.ChangeAt Go.RowKit
set_option linter.unusedVariables false
set_option linter.unusedSimpArgs false


section
variable {es : List Int} {us : List (Int × Int × Int)} {k t e r x : Int} {u : Int × Int × Int}
theorem hasRef_step (h0 : 0 ≤ k) (he : us[k.toNat]? = some u) : hasRef x (us.take (k + 1).toNat) = (hasRef x (us.take k.toNat) || decide (x = u.1)) := by
  unfold hasRef; rw [take_step h0 he, List.any_append]; simp
theorem freeAll_step (h0 : 0 ≤ k) (he : us[k.toNat]? = some u) : FreeAll es (us.take (k + 1).toNat) = (FreeAll es (us.take k.toNat) && decide (es.getD u.1.toNat 0 = -1)) := by
  unfold FreeAll; rw [take_step h0 he, List.all_append]; simp
theorem takeL_get {i : Nat} : ∀ (us : List (Int × Int × Int)) (es : List Int), (∀ u ∈ us, 0 ≤ u.1) → (takeL t es us)[i]? = (es[i]?).map fun e => if hasRef (i : Int) us = true then t else e
  | [], es, _ => by
    show es[i]? = _
    simp [hasRef]
  | u :: us, es, h => by
    show (takeL t (es.set u.1.toNat t) us)[i]? = _
    rw [takeL_get us _ (fun v hv => h v (List.mem_cons_of_mem _ hv))]
    have h0 := h u (List.mem_cons_self ..)
    have hr : hasRef (i : Int) (u :: us) = (decide ((i : Int) = u.1) || hasRef (i : Int) us) := by simp [hasRef]
    rw [hr]
    by_cases hi : (i : Int) = u.1
    · have e : u.1.toNat = i := by omega
      rw [e]
      by_cases hl : i < es.length
      · rw [List.getElem?_set_self hl, List.getElem?_eq_getElem hl]; simp [hi]
      · rw [List.getElem?_eq_none (by simpa using Nat.le_of_not_lt hl), List.getElem?_eq_none (by omega)]; rfl
    · rw [List.getElem?_set_ne (by omega)]; simp [hi]
theorem ups_pos (h : upsB us = true) : ∀ u ∈ us, 0 ≤ u.1 := fun u hu => by
  obtain ⟨i, hi⟩ := List.getElem?_of_mem hu
  exact (upB_iff.1 (upsB_up h hi)).1
theorem LT_get (hV : TVal es t us) (hF : FreeAll es us = true) (h0 : 0 ≤ r) (he : es[r.toNat]? = some e) : (LT es t us)[r.toNat]? = some (if hasRef r us = true then t else e) := by
  rw [LT_ok hV, l12L_free hF, takeL_get us es (ups_pos hV.2.2), he]
  rw [Int.toNat_of_nonneg h0]; rfl
theorem LT_in (hV : TVal es t us) (hF : FreeAll es us = true) (h0 : 0 ≤ r) (he : es[r.toNat]? = some e) (hx : (LT es t us)[r.toNat]? = some x) (hr : hasRef r us = true) : x = t := by
  rw [LT_get hV hF h0 he, if_pos hr] at hx; injection hx with hx; exact hx.symm
theorem LT_out (hV : TVal es t us) (hF : FreeAll es us = true) (h0 : 0 ≤ r) (he : es[r.toNat]? = some e) (hx : (LT es t us)[r.toNat]? = some x) (hr : ¬ hasRef r us = true) : x = e := by
  rw [LT_get hV hF h0 he, if_neg hr] at hx; injection hx with hx; exact hx.symm
theorem free_ref (hF : FreeAll es us = true) (he : es[r.toNat]? = some e) (hr : hasRef r us = true) : e = -1 := by
  unfold hasRef at hr
  rw [List.any_eq_true] at hr
  obtain ⟨u, hu, h⟩ := hr
  have h : r = u.1 := by simpa using h
  subst h
  unfold FreeAll at hF
  rw [List.all_eq_true] at hF
  have := hF u hu
  rw [getD_of he] at this
  simpa using this
theorem LT_len (hV : TVal es t us) : (LT es t us).length = 4 := by rw [LT_ok hV, l12L_len]; exact hV.1.1.1
theorem LT_valid (hV : TVal es t us) (hF : FreeAll es us = true) : (LT es t us).length = 4 ∧ okIn (-1) (11) (LT es t us) = true := by
  refine ⟨LT_len hV, okIn_iff.2 fun i x hx => ?_⟩
  have hl : i < es.length := by have := (List.getElem?_eq_some_iff.1 hx).1; rw [LT_len hV] at this; have := hV.1.1.1; omega
  have he : es[i]? = some es[i] := List.getElem?_eq_getElem hl
  have h1 := okIn_iff.1 hV.1.1.2 i _ he
  have h2 := LT_get (r := (i : Int)) (e := es[i]) hV hF (by omega) (by rw [Int.toNat_natCast]; exact he)
  rw [Int.toNat_natCast, hx] at h2
  injection h2 with h2
  have h3 := hV.1.2
  subst h2
  split <;> omega
theorem LT_busy (hV : TVal es t us) (hF : ¬ FreeAll es us = true) : LT es t us = es := by rw [LT_ok hV, l12L_busy (Bool.eq_false_iff.2 hF)]
theorem LT_val (h : 0 < (LT es t us).length) : TVal es t us := by
  by_cases hV : TVal es t us
  · exact hV
  · rw [LT_bad hV] at h; simp at h
end
end Go.Proofs.YtilpbddeijolbaaDoor
